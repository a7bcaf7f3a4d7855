import Derived.Test.YtkkfedionkhgnaaGreatDoorMod
namespace Go.Proofs.YtkkfedionkhgnaaGreatDoor
open Go Go.RowKit
def big:Nat:=18446744073709551616
theorem w64{x:Int}(h1:-9223372036854775808≤x)(h2:x≤9223372036854775807):wrap64 x=x:=by unfold wrap64;omega
theorem bifd{α:Type}(p:Prop)[Decidable p](a b:α):(bif decide p then a else b)=if p then a else b:=by by_cases h:p<;>simp[h]
theorem bifnd{α:Type}(p:Prop)[Decidable p](a b:α):(bif !decide p then a else b)=if p then b else a:=by by_cases h:p<;>simp[h]
theorem bifT{α:Type}(a b:α):(bif true then a else b)=a:=Eq.symm (Eq.symm rfl)
theorem bifF{α:Type}(a b:α):(bif false then a else b)=b:=Eq.symm (Eq.symm rfl)
theorem jn_eq{σ ρ:Type}(A:(σ->Option ρ)->Option ρ)(k:σ->Option ρ):jn A k=A k:=Eq.symm (Eq.symm rfl)
theorem Wr{τ ρ:Type}(k:τ->Option ρ)(t:τ):lpK k (.go t)=k t:=Eq.symm (Eq.symm rfl)
theorem Qft{τ ρ:Type}(k:τ->Option ρ)(r:ρ):lpK k (.out r)=some r:=Eq.symm (Eq.symm rfl)
theorem sbind{α β:Type}(a:α)(f:α->Option β):(some a).bind f=f a:=Eq.symm (Eq.symm rfl)
theorem Qhy{α:Type}(l:List α)(i:Nat):getI l (i:Int)=l[i]?:=by simp[getI]
theorem Qgb{α:Type}{l:List α}{i:Nat}(h:i<l.length):getI l (i:Int)=some l[i]:=by rw[Qhy];simp[h]
theorem Q81(l:List UInt8)(i:Nat):getS l (i:Int)=(l[i]?).map (·.toNat):=by simp[getS]
theorem Jas{l:List UInt8}{i:Nat}(h:i<l.length):getS l (i:Int)=some l[i].toNat:=by rw[Q81];simp[h]
theorem grd_t{b:Bool}(h:b=true):grd b=some ():=by rw[h];rfl
theorem Qwl{α:Type}{l:List α}{k:Nat}(h:k≤l.length):sub l 0 (k:Int)=some (l.take k):=by unfold sub;rw[if_pos (by omega)];simp
theorem Qzr{α:Type}{l:List α}{i k:Nat}(h1:i≤k)(h:k≤l.length):sub l (i:Int) (k:Int)=some ((l.take k).drop i):=by unfold sub;rw[if_pos (by omega)];simp
theorem Km{α:Type}{b:Nat}{l r:List α}(h:(l.length+r.length)*b≤140737488355328)(h2:l.length+r.length≤9223372036854775807):appM b l r=some (l++r):=by unfold appM;rw[if_pos ⟨h,h2⟩]
theorem Qje{α:Type}{b:Nat}{z:α}{n:Nat}(h:n*b≤140737488355328)(h2:n≤9223372036854775807):mkM b z (n:Int)=some (List.replicate n z):=by unfold mkM;rw[if_pos (by omega)];simp
theorem Qwm{σ τ:Type}{f:σ->Option (Lp σ τ)}(μ:σ->Nat)(I:σ->Prop)(Q:τ->Prop)
 (hb:∀ s,I s->(∃ s',f s=some (.go s')∧I s'∧μ s'<μ s)∨(∃ t,f s=some (.out t)∧Q t)):∀(n:Nat) (s:σ),I s->μ s<n->∃ t,loopM f n s=some t∧Q t
 | 0,_,_,h=>absurd h (Nat.not_lt_zero _)
 | n+1,s,hI,hn=>by rcases hb s hI with ⟨s',h1,h2,h3⟩ | ⟨t,h1,h2⟩;obtain⟨t,h4,h5⟩:=Qwm μ I Q hb n s' h2 (by omega);exact⟨t,by simp only[loopM,h1,Option.bind_some];exact h4,h5⟩;exact⟨t,by simp only[loopM,h1,Option.bind_some],h2⟩
theorem Qhz{σ τ R:Type}{f:σ->Option (Lp σ τ)}{n:Nat}{s:σ}{k:τ->Option R}{r:R}(μ:σ->Nat)(I:σ->Prop)(Q:τ->Prop)(h0:I s)(hn:μ s<n)
 (hb:∀ s,I s->(∃ s',f s=some (.go s')∧I s'∧μ s'<μ s)∨(∃ t,f s=some (.out t)∧Q t)) (hk:∀ t,Q t->k t=some r):(loopM f n s).bind k=some r:=by
 obtain⟨t,h1,h2⟩:=Qwm μ I Q hb n s h0 hn;rw[h1,Option.bind_some];exact hk t h2
theorem Qx0{σ τ R:Type}{f:σ->Option (Lp σ τ)}{n:Nat}{s:σ}{k:τ->Option R}{P:R->Prop}(μ:σ->Nat)(I:σ->Prop)(Q:τ->Prop)(h0:I s)(hn:μ s<n)
 (hb:∀ s,I s->(∃ s',f s=some (.go s')∧I s'∧μ s'<μ s)∨(∃ t,f s=some (.out t)∧Q t)) (hk:∀ t,Q t->∃ r,k t=some r∧P r):∃ r,(loopM f n s).bind k=some r∧P r:=by
 obtain⟨t,h1,h2⟩:=Qwm μ I Q hb n s h0 hn;rw[h1,Option.bind_some];exact hk t h2
theorem Qfu{σ τ:Type}{f:σ->Option (Lp σ τ)}{s s':σ}{n:Nat}(h:f s=some (.go s')):loopM f (n+1) s=loopM f n s':=by simp only[loopM,h,Option.bind_some]
theorem Yh{σ τ:Type}{f:σ->Option (Lp σ τ)}{s:σ}{t:τ}{n:Nat}(h:f s=some (.out t))(hn:0<n):loopM f n s=some t:=by
 obtain⟨m,rfl⟩:∃ m,n=m+1:=⟨n - 1,by omega⟩
 simp only[loopM,h,Option.bind_some]
theorem Qt3{α σ τ:Type}{f:Nat->α->σ->Option (Lp σ τ)}(I:Nat->σ->Prop):∀(xs:List α) (i:Nat) (s:σ),I i s->(∀ j x s,xs[j]?=some x->I (i+j) s->∃ s',f (i+j) x s=some (.go s')∧I (i+j+1) s') →
 ∃ s',rangeL f xs i s=some (.go s')∧I (i+xs.length) s'
 | [],i,s,h,_=>⟨s,rfl,h⟩
 | x::xs,i,s,h,hb=>by
   obtain⟨s1,h1,h2⟩:=hb 0 x s rfl h;simp only[Nat.add_zero] at h1 h2
   obtain⟨s2,h3,h4⟩:=Qt3 I xs (i+1) s1 h2 (λj y t hj ht=>by
    have:=hb (j+1) y t (by simpa using hj) (by rw[show i+(j+1)=i+1+j by omega];exact ht);rw[show i+(j+1)=i+1+j by omega] at this
    exact this)
   refine⟨s2,by simp only[rangeL,h1,Option.bind_some];exact h3,?_⟩;rw[List.length_cons,show i+(xs.length+1)=i+1+xs.length by omega];exact h4
theorem Qk6{α σ τ R:Type}{f:Nat->α->σ->Option (Lp σ τ)}{xs:List α}{s:σ}{k:Lp σ τ->Option R}{r:R}(I:Nat->σ->Prop)(h0:I 0 s)
 (hb:∀ j x s,xs[j]?=some x->I j s->∃ s',f j x s=some (.go s')∧I (j+1) s') (hk:∀ t,I xs.length t->k (.go t)=some r):(rangeL f xs 0 s).bind k=some r:=by
 obtain⟨s',h1,h2⟩:=Qt3 I xs 0 s h0 (λj x s hj hs=>by rw[Nat.zero_add] at hs ⊢;exact hb j x s hj hs);rw[h1,Option.bind_some];exact hk s' (by simpa using h2)
theorem Qp6{α σ τ R:Type}{f:Nat->α->σ->Option (Lp σ τ)}{xs:List α}{s:σ}{k:Lp σ τ->Option R}{P:R->Prop}(I:Nat->σ->Prop)(h0:I 0 s)
 (hb:∀ j x s,xs[j]?=some x->I j s->∃ s',f j x s=some (.go s')∧I (j+1) s') (hk:∀ t,I xs.length t->∃ r,k (.go t)=some r∧P r):∃ r,(rangeL f xs 0 s).bind k=some r∧P r:=by
 obtain⟨s',h1,h2⟩:=Qt3 I xs 0 s h0 (λj x s hj hs=>by rw[Nat.zero_add] at hs ⊢;exact hb j x s hj hs);rw[h1,Option.bind_some];exact hk s' (by simpa using h2)
def val:List Nat->Nat
 | []=>0
 | x::a=>x+4294967296*val a
def bp(k:Nat):Nat:=4294967296 ^ k
theorem Qbs:bp 0=1:=by unfold bp;rw[Nat.pow_zero]
theorem Xh(k:Nat):bp (k+1)=bp k*4294967296:=by unfold bp;rw[Nat.pow_succ]
theorem bp_le{j k:Nat}(h:j≤k):bp j≤bp k:=by unfold bp;exact Nat.pow_le_pow_right (by decide) h
theorem Q82(k:Nat):0<bp k:=by unfold bp;exact Nat.pow_pos (by decide)
theorem Jey(j k:Nat):bp (j+k)=bp j*bp k:=by unfold bp;rw[Nat.pow_add]
def Wd(a:List Nat):Prop:=∀ x∈a,x<4294967296
def trimZ:List Nat->List Nat
 | []=>[]
 | x::a=>if trimZ a=[]∧x=0 then [] else x::trimZ a
def toL(n:Nat):List Nat:=if n=0 then [] else n%4294967296::toL (n / 4294967296)
termination_by n
decreasing_by omega
theorem Y5:Wd []:=λ_ h=>by cases h
theorem Vk{x a}:Wd (x::a)↔x<4294967296∧Wd a:=by simp[Wd]
theorem K9{a b}:Wd (a++b)↔Wd a∧Wd b:=by constructor;intro h;exact⟨λx hx=>h x (List.mem_append_left _ hx),λx hx=>h x (List.mem_append_right _ hx)⟩;rintro⟨h1,h2⟩ x hx;rcases List.mem_append.1 hx with h | h;exact h1 x h;exact h2 x h
theorem Qqs{a k}(h:Wd a):Wd (a.take k):=λx hx=>h x (List.mem_of_mem_take hx)
theorem Qnw{a k}(h:Wd a):Wd (a.drop k):=λx hx=>h x (List.mem_of_mem_drop hx)
theorem Qx1{k x}(h:x<4294967296):Wd (List.replicate k x):=λy hy=>by rw[(List.mem_replicate.1 hy).2];exact h
theorem Qca{a:List Nat}(h:Wd a){i:Nat}(hi:i<a.length):a[i]<4294967296:=h _ (List.getElem_mem hi)
theorem Wx:toL 0=[]:=by rw[toL];rfl
theorem Qa1{n:Nat}(h:n≠0):toL n=n%4294967296::toL (n / 4294967296):=by rw[toL];rw[if_neg h]
theorem Jy(n:Nat):val (toL n)=n:=by
 induction n using Nat.strongRecOn with
 | _ n ih=>
   by_cases h:n=0;subst h;rw[Wx];rfl;rw[Qa1 h];simp only[val];rw[ih (n / 4294967296) (by omega)];omega
theorem K0(n:Nat):Wd (toL n):=by
 induction n using Nat.strongRecOn with
 | _ n ih=>
   by_cases h:n=0;subst h;rw[Wx];exact Y5;rw[Qa1 h];exact Vk.2 ⟨by omega,ih (n / 4294967296) (by omega)⟩
theorem Vp{a:List Nat}(h:Wd a):toL (val a)=trimZ a:=by
 induction a with
 | nil=>simp[val,Wx,trimZ]
 | cons x a ih=>
   obtain⟨hx,ha⟩:=Vk.1 h;have ih:=ih ha;simp only[val,trimZ];by_cases hv:val a=0;rw[hv,Wx] at ih;rw[←ih,hv];by_cases hx0:x=0;subst hx0;simp[Wx];rw[if_neg (λh=>hx0 h.2),Qa1 (by omega)];rw[show(x+4294967296*0)%4294967296=x by omega,show(x+4294967296*0) / 4294967296=0 by omega,Wx];have hne:trimZ a≠[]:=by rw[←ih,Qa1 hv];simp
   rw[if_neg (λh=>hne h.1),Qa1 (by omega),show(x+4294967296*val a)%4294967296=x by omega,show(x+4294967296*val a) / 4294967296=val a by omega,ih]
theorem Q83(a:List Nat):val (trimZ a)=val a:=by
 induction a with
 | nil=>rfl
 | cons x a ih=>
   simp only[trimZ];split;rename_i h;rw[h.1] at ih;simp[val] at ih ⊢;omega;simp[val,ih]
theorem Z9(a:List Nat):(trimZ a).length≤a.length:=by
 induction a with
 | nil=>simp[trimZ]
 | cons x a ih=>simp only[trimZ];split<;>simp;omega
theorem Q0z{a:List Nat}(h:trimZ a=[]):val a=0:=by rw[←Q83,h];rfl
theorem Q3r{a:List Nat}(h:Wd a):trimZ a=[]↔val a=0:=by constructor;exact Q0z;intro hv;rw[←Vp h,hv,Wx]
theorem Q84(n:Nat):trimZ (toL n)=toL n:=by rw[←Vp (K0 n),Jy]
theorem Qv0(a:List Nat):trimZ (a++[0])=trimZ a:=by
 induction a with
 | nil=>simp[trimZ]
 | cons x a ih=>simp only[List.cons_append,trimZ,ih]
theorem Q69(a:List Nat){x:Nat}(h:x≠0):trimZ (a++[x])=a++[x]:=by
 induction a with
 | nil=>simp[trimZ,h]
 | cons y a ih=>simp only[List.cons_append,trimZ,ih];rw[if_neg (by simp)]
theorem Y6(a b:List Nat):val (a++b)=val a+bp a.length*val b:=by
 induction a with
 | nil=>simp[val,Qbs]
 | cons x a ih=>simp only[List.cons_append,val,ih,List.length_cons,Xh];rw[Nat.mul_add,←Nat.mul_assoc,Nat.mul_comm 4294967296 (bp a.length)];omega
theorem Zs{a:List Nat}(h:Wd a):val a<bp a.length:=by
 induction a with
 | nil=>simp[val,Qbs]
 | cons x a ih=>
   obtain⟨hx,ha⟩:=Vk.1 h;have:=ih ha;simp only[val,List.length_cons,Xh];omega
theorem Qrz(k:Nat):val (List.replicate k 0)=0:=by
 induction k with
 | zero=>rfl
 | succ k ih=>simp[List.replicate_succ,val,ih]
theorem Qbh{n k:Nat}(h:n<bp k):(toL n).length≤k:=by
 induction k generalizing n with
 | zero=>rw[Qbs] at h;obtain rfl:n=0:=by omega
         simp[Wx]
 | succ k ih=>
   by_cases h0:n=0;subst h0;simp[Wx];rw[Qa1 h0,List.length_cons];have:=@ih (n / 4294967296) (by rw[Xh] at h;exact Nat.div_lt_of_lt_mul (by rw[Nat.mul_comm];exact h));omega
theorem Zg{α:Type}{a:List α}{k:Nat}(h:k<a.length):a.take (k+1)=a.take k++[a[k]]:=by simp[]
theorem Xm{n:Nat}{a:List Nat}(hn:big≤n)(ha:a.length≤4611686018427387904):Yb n a=some (trimZ a):=by
 unfold Yb;unfold big at hn;refine Qhz (λs=>s.toNat) (λs=>∃ k:Nat,s=k∧k≤a.length∧trimZ a=trimZ (a.take k)) (λt=>∃ k:Nat,t=k∧k≤a.length∧trimZ a=a.take k) ⟨a.length,rfl,Nat.le_refl _,by simp⟩ (by simp;omega) ?_ ?_;rintro s ⟨k,rfl,hk,ht⟩;simp only[jn_eq,bifd];by_cases h0:0<k;obtain⟨j,rfl⟩:∃ j,k=j+1:=⟨k - 1,by omega⟩
 rw[if_pos (by omega),w64 (by omega) (by omega),show((j+1:Nat):Int) - 1=(j:Nat) by omega,Qgb (show j<a.length by omega),sbind];rw[Zg (show j<a.length by omega)] at ht;by_cases hz:a[j]=0;left;refine⟨(j:Nat),by simp[hz],⟨j,rfl,by omega,?_⟩,by omega⟩;rw[ht,hz,Qv0];right;refine⟨((j+1:Nat):Int),by simp[hz],j+1,rfl,hk,?_⟩;rw[ht,Zg (show j<a.length by omega),Q69 _ hz];right;obtain rfl:k=0:=by omega
 exact⟨0,by simp,0,rfl,Nat.zero_le _,by rw[ht];simp[trimZ]⟩;rintro t ⟨k,rfl,hk,ht⟩;rw[Qwl hk,sbind,ht]
theorem Jat{a:List Nat}{k:Nat}:cpyL (List.replicate (a.length+k) 0) a=a++List.replicate k 0:=by unfold cpyL;rw[List.length_replicate,List.take_of_length_le (by omega),List.drop_replicate,Nat.add_sub_cancel_left]
theorem Ql4{a:List Nat}{k:Nat}(h:a.length+k≤35184372088832):Qel a (k:Int)=some (a++List.replicate k 0):=by unfold Qel;rw[w64 (by omega) (by omega),show((a.length:Int)+(k:Int))=((a.length+k:Nat):Int) by omega,Qje (by omega) (by omega),sbind,Jat]
theorem Wv{n:Nat}{a:List Nat}(hn:big≤n)(ha:a.length≤35184372088832):Wc n a=some (trimZ a):=by unfold Wc;have hl:=Z9 a;rw[Xm hn (by omega),sbind,show(0:Int)=((0:Nat):Int) by rfl,Ql4 (by omega),sbind];simp
theorem Qsi{n:Nat}{a:List Nat}(hn:big≤n)(ha:a.length≤4611686018427387904)(hw:Wd a):Qce n a=some (decide (val a=0)):=by unfold Qce;rw[Xm hn ha,sbind];congr 1;rw[Bool.eq_iff_iff];simp only[decide_eq_true_eq];rw[←Q3r hw];constructor;intro h;exact List.eq_nil_of_length_eq_zero (by omega);intro h;rw[h];rfl
theorem Qwn{x y c d:Nat}(hx:x<4294967296)(hy:y<4294967296)(hc:c<4294967296)(hd:d<4294967296):x*y+c+d<18446744073709551616:=by have:x*y≤4294967295*4294967295:=Nat.mul_le_mul (by omega) (by omega);omega
theorem Qm7{x y c d:Nat}(hx:x<4294967296)(hy:y<4294967296)(hc:c<4294967296)(hd:d<4294967296):
 Qcf x y c d=some ((x*y+c+d) / 4294967296,(x*y+c+d)%4294967296):=by
 have h:=Qwn hx hy hc hd;unfold Qcf;rw[Nat.mod_eq_of_lt (show x*y<18446744073709551616 by omega),Nat.mod_eq_of_lt (show x*y+c<18446744073709551616 by omega),Nat.mod_eq_of_lt h,sbind];rw[show(2:Nat) ^ 32=4294967296 by rfl,Nat.mod_eq_of_lt (show(x*y+c+d) / 4294967296<4294967296 by omega)]
theorem Qzs{x y:Nat}(hy:y<4294967296):x*4294967296 ||| y=x*4294967296+y:=by have:=Nat.two_pow_add_eq_or_of_lt (i:=32) (b:=y) (by simpa using hy) x;rw[show(2:Nat) ^ 32=4294967296 by rfl,Nat.mul_comm] at this;exact this.symm
theorem Qsj{h l y:Nat}(hh:h<y)(hl:l<4294967296)(hy:y<4294967296):
 Qdo h l y=some ((h*4294967296+l) / y,(h*4294967296+l)%y,true):=by
 unfold Qdo;rw[bifd,if_neg (by omega),grd_t (by simp;omega),sbind,sbind];rw[show(2:Nat) ^ 32=4294967296 by rfl,Nat.mod_eq_of_lt (show h*4294967296<18446744073709551616 by omega),Qzs hl]
 have h1:(h*4294967296+l) / y<4294967296:=Nat.div_lt_of_lt_mul (by
  have:h*4294967296+4294967296≤y*4294967296:=by omega
  omega)
 have h2:(h*4294967296+l)%y<y:=Nat.mod_lt _ (by omega);rw[Nat.mod_eq_of_lt h1,Nat.mod_eq_of_lt (show(h*4294967296+l)%y<4294967296 by omega)]
theorem Jcl{α:Type}(p:List α)(y:α)(r:List α):(p++y::r)[p.length]?=some y:=by simp
theorem Jcm{α:Type}(p:List α)(y z:α)(r:List α):(p++y::r).set p.length z=p++z::r:=by simp
theorem W5{α:Type}{k:Nat}{p:List α}{y:α}{r:List α}(h:p.length=k):getI (p++y::r) (k:Int)=some y:=by rw[Qhy,←h,Jcl]
theorem Qah{α:Type}{k:Nat}{p:List α}{y z:α}{r:List α}(h:p.length=k):(p++y::r).set (k:Int).toNat z=p++z::r:=by rw[Int.toNat_natCast,←h,Jcm]
theorem Wk(a:List Nat)(x:Nat):val (a++[x])=val a+bp a.length*x:=by rw[Y6];simp[val]
theorem Q85{α:Type}{l:List α}{k:Nat}(h:k<l.length):l=l.take k++l[k]::l.drop (k+1):=by simp
theorem Jau(P x y m cy u v V M A c:Nat)(e:4294967296*u+v=x*y+m+cy)(h6:V+P*cy=M+x*A+c):V+P*v+P*4294967296*u=M+P*m+x*(A+P*y)+c:=by grind
theorem Q1x{p m q a:List Nat}{z x c:Nat}(hm:m.length=a.length)(hp:p.length+m.length+1+q.length≤4611686018427387904)(hwm:Wd m)(hwa:Wd a)(hx:x<4294967296)(hc:c<4294967296):
 ∃ r,Qdn (p++m++z::q) (p.length:Int) a x c=some (p++r++q)∧r.length=a.length+1∧Wd r∧val r=val m+x*val a+c:=by
 have key:∃ r,Qdn (p++m++z::q) (p.length:Int) a x c=some r∧∃ r',r=p++r'++q∧r'.length=a.length+1∧Wd r'∧val r'=val m+x*val a+c:=by
  unfold Qdn;refine Qp6 (λj (s:List Nat×Nat)=>∃ m1,s.1=p++m1++(m.drop j++z::q)∧m1.length=j∧j≤a.length∧Wd m1∧s.2<4294967296∧val m1+bp j*s.2=val (m.take j)+x*val (a.take j)+c) ⟨[],by simp,rfl,Nat.zero_le _,Y5,hc,by simp[val,Qbs]⟩ ?_ ?_;rintro j y ⟨o,cy⟩ hj ⟨m1,h1,h2,h3,h4,h5,h6⟩;simp only at h1 h5 h6;subst h1;have hja:j<a.length:=by rcases Nat.lt_or_ge j a.length with h | h;exact h;simp[List.getElem?_eq_none h] at hj
  have hy:a[j]=y:=by simpa [hja] using hj
  have hyw:y<4294967296:=by rw[←hy];exact Qca hwa hja
  have hmj:j<m.length:=by omega
  have hmw:m[j]<4294967296:=Qca hwm hmj;rw[w64 (by omega) (by omega),show((p.length:Int)+(j:Int))=((p.length+j:Nat):Int) by omega,List.drop_eq_getElem_cons hmj,List.cons_append];rw[W5 (by simp;omega),sbind,Qm7 hx hyw hmw h5,sbind,sbind,Qah (by simp;omega)];refine⟨_,rfl,m1++[(x*y+m[j]+cy)%4294967296],by simp,by simp[h2],by omega,K9.2 ⟨h4,Vk.2 ⟨by omega,Y5⟩⟩,by have:=Qwn hx hyw hmw h5;simp only[];omega,?_⟩;rw[Zg hmj,Zg hja,Wk,Wk,Wk,hy,h2,List.length_take,List.length_take,Nat.min_eq_left (by omega),Nat.min_eq_left (by omega),Xh];exact Jau _ _ _ _ _ _ _ _ _ _ _ (Nat.div_add_mod (x*y+m[j]+cy) 4294967296) h6;rintro⟨o,cy⟩ ⟨m1,h1,h2,h3,h4,h5,h6⟩;simp only at h1 h5 h6;subst h1;simp only[Wr];rw[w64 (by omega) (by omega),show((p.length:Int)+(a.length:Int))=((p.length+a.length:Nat):Int) by omega,List.drop_of_length_le (by omega),List.nil_append];rw[W5 (by simp;omega),sbind,Qah (by simp;omega)];refine⟨_,rfl,m1++[cy],by simp,by simp[h2],K9.2 ⟨h4,Vk.2 ⟨h5,Y5⟩⟩,?_⟩;rw[Wk,h2,h6,List.take_of_length_le (by omega),List.take_of_length_le (Nat.le_refl _)]
 obtain⟨r,h1,r',h2,h3,h4,h5⟩:=key;exact⟨r',by rw[h1,h2],h3,h4,h5⟩
theorem Qet{n x:Nat}(hn:big≤n)(hx:x<18446744073709551616):Zt n x=some (toL x):=by
 unfold Zt
 rw[show(2:Nat) ^ 32=4294967296 by rfl,Xm hn (by simp),sbind,←Vp (by
  intro y hy;simp only[List.mem_cons,List.not_mem_nil,or_false] at hy
  rcases hy with rfl | rfl<;>omega)]
 congr 2;simp only[val];omega
theorem Jav(P q r' r x s y vd:Nat)(e:x*q+r'=r*P+y)(h:vd=x*s+r):y+P*vd=x*(q+P*s)+r':=by grind
theorem Qzt{n:Nat}{a:List Nat}{x:Nat}(hn:big≤n)(ha:a.length<35184372088832)(hw:Wd a)(hx0:x≠0)(hx:x<4294967296):Qgr n a x=some (toL (val a / x),val a%x,true):=by
 unfold Qgr;unfold big at hn;rw[bifd,if_neg hx0,Qje (by omega) (by omega),sbind]
 refine Qhz (λs=>(s.2.2+1).toNat) (λs=>∃(k:Nat) (qs:List Nat),s.2.2=(k:Int) - 1∧k≤a.length∧s.1=List.replicate k 0++qs∧qs.length=a.length - k∧Wd qs∧s.2.1<x∧val (a.drop k)=x*val qs+s.2.1)
  (λt=>t.1.length=a.length∧Wd t.1∧t.2<x∧val a=x*val t.1+t.2) ⟨a.length,[],by simp only[];rw[w64 (by omega) (by omega)],Nat.le_refl _,by simp,by simp,Y5,by simp only[];omega,by simp[val]⟩ (by simp only[];rw[w64 (by omega) (by omega)];omega) ?_ ?_
 rintro⟨q,r,i⟩ ⟨k,qs,h1,h2,h3,h4,h5,h6,h7⟩;simp only at h1 h3 h6 h7;subst h1 h3;simp only[bifd];by_cases h0:0<k;obtain⟨j,rfl⟩:∃ j,k=j+1:=⟨k - 1,by omega⟩
 have hj:j<a.length:=by omega
 left;rw[if_pos (by omega),show((j+1:Nat):Int) - 1=(j:Nat) by omega,Qgb hj,sbind,Qsj h6 (Qca hw hj) hx,sbind];simp only[];rw[List.replicate_succ',List.append_assoc,List.singleton_append,W5 (by simp),sbind,Qah (by simp),w64 (by omega) (by omega)];refine⟨_,rfl,⟨j,((r*4294967296+a[j]) / x)::qs,rfl,by omega,rfl,by simp;omega,Vk.2 ⟨?_,h5⟩,Nat.mod_lt _ (by omega),?_⟩,by simp only[];omega⟩;have:=Qca hw hj
 exact Nat.div_lt_of_lt_mul (by
  have:r*4294967296+4294967296≤x*4294967296:=by omega
  omega)
 rw[List.drop_eq_getElem_cons hj];simp only[val];exact Jav 4294967296 _ _ _ _ _ _ _ (Nat.div_add_mod (r*4294967296+a[j]) x) h7;right;obtain rfl:k=0:=by omega
 rw[if_neg (by omega)];exact⟨_,rfl,by simp at h4 ⊢;omega,by simpa using h5,h6,by simpa using h7⟩;rintro⟨q,r⟩ ⟨h1,h2,h3,h4⟩;simp only at h1 h2 h3 h4;simp only[];rw[Wv (by unfold big;exact hn) (by omega),sbind,←Vp h2,h4,Nat.mul_add_div (by omega),Nat.mul_add_mod,Nat.div_eq_of_lt h3,Nat.mod_eq_of_lt h3,Nat.add_zero]
theorem Qzu{a:List Nat}(h:Wd a)(i:Nat):a.getD i 0<4294967296:=by rw[List.getD_eq_getElem?_getD];by_cases hi:i<a.length;simp[hi];exact Qca h hi;simp[List.getElem?_eq_none (show a.length≤i by omega)]
theorem Qad(a:List Nat)(k:Nat):val (a.take (k+1))=val (a.take k)+bp k*a.getD k 0:=by by_cases h:k<a.length;rw[Zg h,Wk,List.length_take,Nat.min_eq_left (by omega)];simp[h];rw[List.take_of_length_le (by omega),List.take_of_length_le (by omega)];simp[List.getElem?_eq_none (show a.length≤k by omega)]
def cmpI(x y:Nat):Int:=if x<y then -1 else if y<x then 1 else 0
theorem Jcn{n:Nat}(h:n≠0):bp ((toL n).length - 1)≤n:=by
 induction n using Nat.strongRecOn with
 | _ n ih=>
   rw[Qa1 h,List.length_cons,Nat.add_sub_cancel];by_cases h1:n / 4294967296=0;rw[h1,Wx,List.length_nil,Qbs];omega;have:=ih (n / 4294967296) (by omega) h1;have hl:(toL (n / 4294967296)).length≠0:=by rw[Qa1 h1];simp
   obtain⟨m,hm⟩:∃ m,(toL (n / 4294967296)).length=m+1:=⟨(toL (n / 4294967296)).length - 1,by omega⟩
   rw[hm,Nat.add_sub_cancel] at this;rw[hm,Xh];have h2:bp m*4294967296≤n / 4294967296*4294967296:=Nat.mul_le_mul_right _ this;have h3:n / 4294967296*4294967296≤n:=Nat.div_mul_le_self _ _;exact Nat.le_trans h2 h3
theorem Qx2{m n:Nat}(h:(toL m).length<(toL n).length):m<n:=by
 have h1:=Zs (K0 m);rw[Jy] at h1;have hn:n≠0:=by rintro rfl;rw[Wx] at h;simp at h
 have h2:=Jcn hn;have h3:bp (toL m).length≤bp ((toL n).length - 1):=bp_le (by omega);exact Nat.lt_of_lt_of_le h1 (Nat.le_trans h3 h2)
theorem Q3s(a:List Nat)(k:Nat):val a=val (a.take k)+bp (a.take k).length*val (a.drop k):=by
 conv=>lhs;rw[←List.take_append_drop k a]
 rw[Y6]
theorem Jaw{P x y u v A:Nat}(hA:A<P)(hxy:x<y)(e1:u=A+P*x)(e2:P*y≤v):u<v:=by have:P*(x+1)≤P*y:=Nat.mul_le_mul_left _ hxy;rw[Nat.mul_add] at this;omega
theorem Q5w{a b:List Nat}{j:Nat}(ha:Wd a)(hj:j<a.length)(hj':j<b.length)(ht:a.drop (j+1)=b.drop (j+1))(h:a[j]<b[j]):val a<val b:=by have e1:=Q3s a (j+1);have e2:=Q3s b (j+1);rw[List.length_take,Nat.min_eq_left (by omega)] at e1 e2;rw[e1,e2,ht];refine Nat.add_lt_add_right ?_ _;rw[Zg hj,Zg hj',Wk,Wk,List.length_take,List.length_take,Nat.min_eq_left (by omega),Nat.min_eq_left (by omega)];have h1:=Zs (Qqs (k:=j) ha);rw[List.length_take,Nat.min_eq_left (by omega)] at h1;exact Jaw h1 h rfl (Nat.le_add_left _ _)
theorem Qh0{n:Nat}{a b:List Nat}(hn:big≤n)(ha:a.length≤4611686018427387904)(hb:b.length≤4611686018427387904)(hwa:Wd a)(hwb:Wd b):Qcl n a b=some (cmpI (val a) (val b)):=by
 unfold Qcl;rw[Xm hn ha,sbind,Xm hn hb,sbind,←Vp hwa,←Vp hwb];have hla:(toL (val a)).length≤4611686018427387904:=by rw[Vp hwa];exact Nat.le_trans (Z9 a) ha
 have hva:=Jy (val a);have hvb:=Jy (val b);have hwa':=K0 (val a);have hwb':=K0 (val b);have l1:=@Qx2 (val a) (val b);have l2:=@Qx2 (val b) (val a);generalize val a=x at *;generalize val b=y at *;generalize toL x=a' at *;generalize toL y=b' at *;unfold big at hn;rw[bifd,bifd];by_cases h1:a'.length<b'.length;rw[if_pos (by omega),cmpI,if_pos (l1 h1)];rw[if_neg (by omega)];by_cases h2:b'.length<a'.length;rw[if_pos (by omega),cmpI,if_neg (by have:=l2 h2;omega),if_pos (l2 h2)];rw[if_neg (by omega),w64 (by omega) (by omega)];refine Qhz (λs=>(s+1).toNat) (λs=>∃ k:Nat,s=(k:Int) - 1∧k≤a'.length∧a'.drop k=b'.drop k) (λt=>(t=.go ()∧a'=b')∨(t=.out (-1)∧x<y)∨(t=.out 1∧y<x)) ⟨a'.length,rfl,Nat.le_refl _,by rw[List.drop_of_length_le (Nat.le_refl _),List.drop_of_length_le (by omega)]⟩ (by omega) ?_ ?_;rintro s ⟨k,rfl,hk,ht⟩;simp only[bifd];by_cases h0:0<k;obtain⟨j,rfl⟩:∃ j,k=j+1:=⟨k - 1,by omega⟩
 have hj:j<a'.length:=by omega
 have hj':j<b'.length:=by omega
 rw[if_pos (by omega),show((j+1:Nat):Int) - 1=(j:Nat) by omega,Qgb hj,sbind,Qgb hj',sbind];by_cases g1:a'[j]<b'[j];right;rw[if_pos g1];refine⟨_,rfl,.inr (.inl ⟨rfl,?_⟩)⟩;rw[←hva,←hvb];exact Q5w hwa' hj hj' ht g1;rw[if_neg g1,sbind,sbind];by_cases g2:b'[j]<a'[j];right;rw[if_pos g2];refine⟨_,rfl,.inr (.inr ⟨rfl,?_⟩)⟩;rw[←hva,←hvb];exact Q5w hwb' hj' hj ht.symm g2;left;rw[if_neg g2,w64 (by omega) (by omega)];refine⟨_,rfl,⟨j,rfl,by omega,?_⟩,by omega⟩;rw[List.drop_eq_getElem_cons hj,List.drop_eq_getElem_cons hj',ht,show a'[j]=b'[j] by omega];right;obtain rfl:k=0:=by omega
 rw[if_neg (by omega)];exact⟨_,rfl,.inl ⟨rfl,by simpa using ht⟩⟩;rintro t (⟨rfl,h⟩ | ⟨rfl,h⟩ | ⟨rfl,h⟩);rw[Wr];have:x=y:=by rw[←hva,←hvb,h]
 simp[cmpI,this];rw[Qft,cmpI,if_pos h];rw[Qft,cmpI,if_neg (by omega),if_pos h]
theorem Q86{v:Nat}(h:v<18446744073709551616):toL v=[]∨(∃ x,toL v=[x]∧x=v)∨(∃ x y,toL v=[x,y]∧x<4294967296∧y<4294967296∧x+4294967296*y=v):=by
 have hl:=Qbh (n:=v) (k:=2) (by rw[Xh,Xh,Qbs];omega);have hv:=Jy v;have hw:=K0 v
 match hm:toL v,hl with
 | [],_=>exact .inl rfl
 | [x],_=>rw[hm] at hv;simp[val] at hv;exact .inr (.inl ⟨x,rfl,hv⟩)
 | [x,y],_=>
   rw[hm] at hv hw;simp[val] at hv;exact .inr (.inr ⟨x,y,rfl,(Vk.1 hw).1,(Vk.1 (Vk.1 hw).2).1,by omega⟩)
 | _::_::_::_,h=>simp at h
theorem Q5x{v:Nat}(h:18446744073709551616≤v):2<(toL v).length:=by rcases Nat.lt_or_ge 2 (toL v).length with h1 | h1;exact h1;have h2:=Zs (K0 v);rw[Jy] at h2;have h3:=bp_le h1;rw[Xh,Xh,Qbs] at h3;omega
theorem Qqt{n:Nat}{a:List Nat}(hn:big≤n)(ha:a.length≤4611686018427387904)(hw:Wd a):Qgs n a=some (if val a<18446744073709551616 then (val a,true) else (0,false)):=by unfold Qgs;rw[Xm hn ha,sbind,←Vp hw,bifd];by_cases h:val a<18446744073709551616;rw[if_pos h];rcases Q86 h with h1 | ⟨x,h1,h2⟩ | ⟨x,y,h1,h2,h3,h4⟩;have:=Jy (val a);rw[h1] at this ⊢;rw[if_neg (by decide)];simp only[val] at this;simp only[rangeL,sbind,Wr,←this];rw[h1,if_neg (by simp)];simp only[rangeL];rw[w64 (by omega) (by omega),grd_t (by decide),sbind,sbind,sbind,sbind];simp only[Wr];subst h2;simp;omega;rw[h1,if_neg (by simp)];simp only[rangeL];rw[w64 (x:=32*((0:Nat):Int)) (by omega) (by omega),grd_t (by decide),sbind,sbind,sbind,w64 (by omega) (by omega),grd_t (by decide)];simp only[sbind,Wr];rw[show(2:Nat) ^ min (Int.toNat (32*((0:Nat):Int))) 64=1 by rfl,show(2:Nat) ^ min (Int.toNat (32*((0+1:Nat):Int))) 64=4294967296 by rfl,Nat.mul_one,Nat.mod_eq_of_lt (show x<18446744073709551616 by omega),Nat.mod_eq_of_lt (show y*4294967296<18446744073709551616 by omega),Nat.zero_or,Nat.or_comm,Qzs h2];congr 2;omega;rw[if_neg h];have:=Q5x (v:=val a) (by omega);rw[if_pos (by omega)]
theorem Qjj{x y c:Nat}(hx:x<4294967296)(hy:y<4294967296)(hc:c<4294967296):
 Zi x y c=some ((x+y+c)%4294967296,(x+y+c) / 4294967296):=by
 unfold Zi;simp only[jn_eq,bifd];split<;>split<;>congr 1<;>refine Prod.ext ?_ ?_<;>simp only[]<;>omega
theorem Qm8{x y c:Nat}(hx:x<4294967296)(hy:y<4294967296)(hc:c≤1):
 ∃ d b,Qf1 x y c=some (d,b)∧d<4294967296∧b≤1∧d+y+c=x+4294967296*b:=by
 unfold Qf1;simp only[jn_eq,bifd,sbind];split<;>split<;>refine⟨_,_,rfl,?_,?_,?_⟩<;>omega
theorem Q87(P s x y u v V A C:Nat)(e:4294967296*u+v=x+y+s)(h:V+P*s=A+C):V+P*v+P*4294967296*u=A+P*x+(C+P*y):=by grind
theorem Q5y{k:Nat}{b:List Nat}{β:Type}(f:Nat->Option β):(if (k:Int)<(b.length:Int) then (getI b (k:Int)).bind f else f 0)=f (b.getD k 0):=by by_cases h:k<b.length;rw[if_pos (by omega),Qgb h,sbind];simp[h];rw[if_neg (by omega)];simp[List.getElem?_eq_none (show b.length≤k by omega)]
theorem Q5z{n:Nat}{a b:List Nat}(hn:big≤n)(ha:a.length<17592186044416)(hl:b.length≤a.length)(hwa:Wd a)(hwb:Wd b):Qf0 n a b=some (toL (val a+val b)):=by
 unfold Qf0;simp only[jn_eq,bifd];rw[if_neg (by omega)];rw[show(1:Int)=((1:Nat):Int) by rfl,Ql4 (by omega),sbind];refine Qk6 (λj (s:List Nat×Nat)=>∃ m1,s.1=m1++(List.drop j a++[0])∧m1.length=j∧j≤a.length∧Wd m1∧s.2≤1∧val m1+bp j*s.2=val (a.take j)+val (b.take j)) ⟨[],by simp,rfl,Nat.zero_le _,Y5,by simp,by simp[val,Qbs]⟩ ?_ ?_;rintro j y ⟨o,cy⟩ hj ⟨m1,h1,h2,h3,h4,h5,h6⟩;simp only at h1 h5 h6;subst h1;have hja:j<a.length:=by
  rcases Nat.lt_or_ge j a.length with h | h;exact h;simp[List.getElem?_eq_none h] at hj
 have hy:a[j]=y:=by simpa [hja] using hj
 have hyw:y<4294967296:=by rw[←hy];exact Qca hwa hja
 rw[Q5y,Qjj hyw (Qzu hwb j) (by simp only[];omega),sbind,List.drop_eq_getElem_cons hja,List.cons_append,W5 h2,sbind,Qah h2];refine⟨_,rfl,m1++[(y+b.getD j 0+cy)%4294967296],by simp,by simp[h2],by omega,K9.2 ⟨h4,Vk.2 ⟨by omega,Y5⟩⟩,?_,?_⟩;have:=Qzu hwb j;simp only[];omega;rw[Qad,Qad,Wk,h2,Xh];rw[show a.getD j 0=y by rw[←hy];simp[hja]];exact Q87 _ _ _ _ _ _ _ _ _ (Nat.div_add_mod (y+b.getD j 0+cy) 4294967296) h6;rintro⟨o,cy⟩ ⟨m1,h1,h2,h3,h4,h5,h6⟩;simp only at h1 h5 h6;subst h1;simp only[Wr];rw[List.drop_of_length_le (Nat.le_refl _),List.nil_append,W5 h2,sbind,Qah h2,Xm hn (by simp;omega),sbind,←Vp (K9.2 ⟨h4,Vk.2 ⟨by omega,Y5⟩⟩),Wk,h2,h6,List.take_of_length_le (Nat.le_refl _),List.take_of_length_le hl]
theorem Qsk{n:Nat}{a b:List Nat}(hn:big≤n)(ha:a.length<17592186044416)(hb:b.length<17592186044416)(hwa:Wd a)(hwb:Wd b):Qf0 n a b=some (toL (val a+val b)):=by by_cases hl:b.length≤a.length;exact Q5z hn ha hl hwa hwb;rw[Nat.add_comm,←Q5z hn hb (by omega) hwb hwa];unfold Qf0;simp only[jn_eq,bifd];rw[if_pos (by omega),if_neg (by omega)]
theorem Q3t{n:Nat}{a b:List Nat}(hn:big≤n)(ha:a.length<17592186044410)(hb:b.length<17592186044410)(hwa:Wd a)(hwb:Wd b):Qhd n [a,b]=some (toL (val a+val b)):=by unfold Qhd;have e1:=Qsk (a:=[]) (b:=toL (val a)) hn (by simp) (by have:=Z9 a;rw[Vp hwa];omega) Y5 (K0 _);have e2:=Qsk (a:=toL (val a)) (b:=toL (val b)) hn (by have:=Z9 a;rw[Vp hwa];omega) (by have:=Z9 b;rw[Vp hwb];omega) (K0 _) (K0 _);rw[Jy] at e1 e2;rw[Jy] at e2;simp only[val,Nat.zero_add] at e1;simp only[rangeL,Xm hn (show a.length≤4611686018427387904 by omega),Xm hn (show b.length≤4611686018427387904 by omega),sbind,←Vp hwa,←Vp hwb,e1,e2,Wr]
theorem Qie{α:Type}{l:List α}{i:Nat}{x:α}(h:l[i]?=some x):i<l.length:=by rcases Nat.lt_or_ge i l.length with h1 | h1;exact h1;rw[List.getElem?_eq_none h1] at h;cases h
theorem Y7{x y:Nat}(h:x≤y):(toL x).length≤(toL y).length:=by refine Qbh ?_;have:=Zs (K0 y);rw[Jy] at this;omega
theorem Jax(P c c' x y d V A B:Nat)(e:d+y+c=x+4294967296*c')(h:V+B=A+P*c):V+P*d+(B+P*y)=A+P*x+P*4294967296*c':=by grind
theorem Qt4{n:Nat}{a b:List Nat}(hn:big≤n)(ha:a.length<17592186044416)(hb:b.length<17592186044416)(hwa:Wd a)(hwb:Wd b):
 Qml n a b=some (if val a<val b then ([],false) else (toL (val a - val b),true)):=by
 unfold Qml;have hla:(toL (val a)).length<17592186044416:=by rw[Vp hwa];exact Nat.lt_of_le_of_lt (Z9 a) ha
 have hlb:(toL (val b)).length<17592186044416:=by rw[Vp hwb];exact Nat.lt_of_le_of_lt (Z9 b) hb
 rw[Xm hn (by omega),sbind,Xm hn (by omega),sbind,←Vp hwa,←Vp hwb,Qh0 hn (by omega) (by omega) (K0 _) (K0 _),sbind,Jy,Jy];have hva:=Jy (val a);have hvb:=Jy (val b);have hwa':=K0 (val a);have hwb':=K0 (val b);have hl:=λh=>Y7 (x:=val b) (y:=val a) h;generalize val a=x at *;generalize val b=y at *;generalize toL x=a' at *;generalize toL y=b' at *;rw[bifd];by_cases hxy:x<y;rw[if_pos (by rw[cmpI,if_pos hxy];decide),if_pos hxy];rw[if_neg (by rw[cmpI,if_neg hxy];split<;>decide),if_neg hxy];have hl:=hl (by omega);simp only[jn_eq,bifd];rw[show(0:Int)=((0:Nat):Int) by rfl,Ql4 (by omega),sbind];refine Qk6 (λj (s:List Nat×Nat)=>∃ m1,s.1=m1++List.drop j a'∧m1.length=j∧j≤a'.length∧Wd m1∧s.2≤1∧val m1+val (b'.take j)=val (a'.take j)+bp j*s.2) ⟨[],by simp,rfl,Nat.zero_le _,Y5,by simp,by simp[val]⟩ ?_ ?_;rintro j w ⟨o,cy⟩ hj ⟨m1,h1,h2,h3,h4,h5,h6⟩;simp only at h1 h5 h6;subst h1;have hja:j<a'.length:=Qie hj;have hy:a'[j]=w:=by simpa [hja] using hj
 have hyw:w<4294967296:=by rw[←hy];exact Qca hwa' hja
 obtain⟨d,c',g1,g2,g3,g4⟩:=Qm8 hyw (Qzu hwb' j) h5;rw[Q5y,g1,sbind,List.drop_eq_getElem_cons hja,W5 h2,sbind,Qah h2];refine⟨_,rfl,m1++[d],by simp,by simp[h2],by omega,K9.2 ⟨h4,Vk.2 ⟨g2,Y5⟩⟩,g3,?_⟩;rw[Qad,Qad,Wk,h2,Xh];rw[show a'.getD j 0=w by rw[←hy];simp[hja]];exact Jax _ _ _ _ _ _ _ _ _ g4 h6;rintro⟨o,cy⟩ ⟨m1,h1,h2,h3,h4,h5,h6⟩;simp only at h1 h5 h6;subst h1;simp only[Wr];rw[List.take_of_length_le (Nat.le_refl _),List.take_of_length_le hl,hva,hvb] at h6;rw[List.drop_of_length_le (Nat.le_refl _),List.append_nil,Xm hn (by omega),sbind,←Vp h4];have h7:cy=0:=by
  have g1:=Zs h4;rw[h2] at g1;rcases Nat.eq_zero_or_pos cy with h | h;exact h;have g6:bp a'.length*1≤bp a'.length*cy:=Nat.mul_le_mul_left _ h;omega
 subst h7;rw[Nat.mul_zero] at h6;congr 3;omega
theorem Q3u{n:Nat}{a b:List Nat}(hn:big≤n)(ha:a.length<17592186044416)(hb:b.length<17592186044416)(hwa:Wd a)(hwb:Wd b):
 Qmm n a b=some (toL (val a - val b+(val b - val a)),cmpI (val a) (val b)):=by
 unfold Qmm;rw[Qh0 hn (by omega) (by omega) hwa hwb,sbind];simp only[jn_eq,bifd];by_cases h:val a<val b;rw[if_pos (by rw[cmpI,if_pos h];decide),Qt4 hn hb ha hwb hwa,if_neg (by omega),sbind];rw[show val a - val b+(val b - val a)=val b - val a by omega];rw[if_neg (by rw[cmpI,if_neg h];split<;>decide),Qt4 hn ha hb hwa hwb,if_neg h,sbind];rw[show val a - val b+(val b - val a)=val a - val b by omega]
def blen(x:Nat):Nat:=if x=0 then 0 else Nat.log2 x+1
theorem Qmq:blen 0=0:=by unfold blen;rw[if_pos rfl]
theorem Q50{x k:Nat}(h1:2 ^ k≤x)(h2:x<2 ^ (k+1)):blen x=k+1:=by
 have h0:x≠0:=by have:=Nat.two_pow_pos k;omega
 unfold blen;rw[if_neg h0,(Nat.log2_eq_iff h0).2 ⟨h1,h2⟩]
theorem Qzv{x:Nat}:x<2 ^ blen x:=by unfold blen;by_cases h0:x=0;rw[if_pos h0,h0];decide;rw[if_neg h0];exact Nat.lt_log2_self
theorem Qqu{x:Nat}(h0:x≠0):2 ^ (blen x - 1)≤x:=by unfold blen;rw[if_neg h0];exact Nat.log2_self_le h0
theorem Qwo{x:Nat}(h0:x≠0):1≤blen x:=by unfold blen;rw[if_neg h0];omega
theorem Q3v{x w:Nat}(h:x / 2 ^ w≠0):blen x=blen (x / 2 ^ w)+w:=by
 have h1:=Qqu h;have h2:=Qzv (x:=x / 2 ^ w);have h3:=Qwo h;obtain⟨k,hk⟩:∃ k,blen (x / 2 ^ w)=k+1:=⟨_,(Nat.sub_add_cancel h3).symm⟩
 rw[hk,Nat.add_sub_cancel] at h1;rw[hk] at h2 ⊢;rw[show k+1+w=(k+w)+1 by omega];refine Q50 ?_ ?_;rw[Nat.pow_add];exact(Nat.le_div_iff_mul_le (Nat.two_pow_pos w)).1 h1;rw[show k+w+1=(k+1)+w by omega,Nat.pow_add];exact(Nat.div_lt_iff_lt_mul (Nat.two_pow_pos w)).1 h2
theorem Qsl{n x:Nat}(hn:big≤n)(hx:x<4294967296):Qh7 n x=some (blen x:Int):=by
 unfold Qh7;unfold big at hn
 refine Qhz (λs=>s.2.2.toNat) (λs=>∃(w k B:Nat),s.2.2=w∧s.2.1=k∧(w,B)∈[(16,4294967296),(8,65536),(4,256),(2,16),(1,4),(0,2)]∧s.1<B∧k+2*w≤32∧blen x=k+blen s.1)
  (λt=>∃ k:Nat,t.2=k∧k≤32∧t.1<2∧blen x=k+blen t.1) ⟨16,0,4294967296,rfl,rfl,by decide,hx,by decide,by simp⟩ (by simp only[];omega) ?_ ?_
 rintro⟨y,c,w'⟩ ⟨w,k,B,h1,h2,h3,h4,h5,h6⟩;simp only at h1 h2 h4 h6;subst h1 h2;simp only[jn_eq,bifd,bifnd];by_cases h0:0<w;left;rw[if_pos (by omega),grd_t (by simp),sbind,sbind,Int.toNat_natCast];have hw:w≤16:=by omega
 have hd:Int.tdiv (w:Int) 2=((w / 2:Nat):Int):=by rfl
 rw[hd,Nat.min_eq_left (by omega),w64 (x:=((w / 2:Nat):Int)) (by omega) (by omega),w64 (by omega) (by omega)];have hB:∃ B',(w / 2,B')∈[(16,4294967296),(8,65536),(4,256),(2,16),(1,4),(0,2)]∧B'*2 ^ w=B∧(2 ^ w≤B'):=by simp only[List.mem_cons,List.not_mem_nil,or_false,Prod.mk.injEq] at h3;rcases h3 with ⟨rfl,rfl⟩ | ⟨rfl,rfl⟩ | ⟨rfl,rfl⟩ | ⟨rfl,rfl⟩ | ⟨rfl,rfl⟩ | ⟨rfl,rfl⟩;exact⟨65536,by decide,by decide,by decide⟩;exact⟨256,by decide,by decide,by decide⟩;exact⟨16,by decide,by decide,by decide⟩;exact⟨4,by decide,by decide,by decide⟩;exact⟨2,by decide,by decide,by decide⟩;omega
 obtain⟨B',g1,g2,g3⟩:=hB;by_cases hz:y / 2 ^ w=0;rw[if_pos hz];refine⟨_,rfl,⟨w / 2,k,B',rfl,rfl,g1,?_,by omega,h6⟩,by simp only[];omega⟩;have:=(Nat.div_eq_zero_iff_lt (Nat.two_pow_pos w)).1 hz;exact Nat.lt_of_lt_of_le this g3;rw[if_neg hz];refine⟨_,rfl,⟨w / 2,k+w,B',rfl,by simp only[];omega,g1,?_,by omega,?_⟩,by simp only[];omega⟩;rw[←g2] at h4;exact(Nat.div_lt_iff_lt_mul (Nat.two_pow_pos w)).2 h4;rw[h6,Q3v hz];simp only[];omega;right;obtain rfl:w=0:=by omega
 rw[if_neg (by omega)];simp only[List.mem_cons,List.not_mem_nil,or_false,Prod.mk.injEq] at h3;refine⟨_,rfl,k,rfl,by omega,by simp only[];omega,h6⟩;rintro⟨y,c⟩ ⟨k,h1,h2,h3,h4⟩;simp only at h1 h3 h4;subst h1;rw[h4,w64 (by simp only[];omega) (by simp only[];omega)];have:blen y=y:=by
  have:y=0∨y=1:=by omega
  rcases this with rfl | rfl;rw[Qmq];exact Q50 (k:=0) (by decide) (by decide)
 rw[this];simp
theorem Qt5(k:Nat):bp k=2 ^ (32*k):=by unfold bp;rw[Nat.pow_mul]
theorem Qwp{v:Nat}(h:toL v≠[]):∃ p x,toL v=p++[x]∧x≠0∧x<4294967296∧Wd p:=by have hw:=K0 v;rcases List.eq_nil_or_concat (toL v) with h0 | ⟨p,x,h1⟩;exact absurd h0 h;rw[List.concat_eq_append] at h1;refine⟨p,x,h1,?_,?_,?_⟩;rintro rfl;have h2:=Q84 v;rw[h1,Qv0] at h2;have:=Z9 p;rw[h2] at this;simp at this;omega;rw[h1] at hw;exact(Vk.1 (K9.1 hw).2).1;rw[h1] at hw;exact(K9.1 hw).1
theorem Q88{p:List Nat}{x:Nat}(hp:Wd p)(hx:x≠0):blen (val (p++[x]))=32*p.length+blen x:=by
 have hl:=Zs hp;have hd:val (p++[x]) / 2 ^ (32*p.length)=x:=by rw[←Qt5,Wk,Nat.add_mul_div_left _ _ (Q82 _),Nat.div_eq_of_lt hl,Nat.zero_add]
 rw[Q3v (w:=32*p.length) (by rw[hd];exact hx),hd,Nat.add_comm]
theorem Qsm{n:Nat}{a:List Nat}(hn:big≤n)(ha:a.length<17592186044416)(hw:Wd a):Qds n a=some (blen (val a):Int):=by
 unfold Qds;rw[Wv hn (by omega),sbind,←Vp hw,bifd];have hl:(toL (val a)).length<17592186044416:=by rw[Vp hw];exact Nat.lt_of_le_of_lt (Z9 a) ha
 by_cases h:toL (val a)=[]
 rw[if_pos (by rw[h];rfl)];rw[Vp hw] at h;rw[Q0z h,Qmq];rfl;rw[if_neg (by intro h';exact h (List.eq_nil_of_length_eq_zero (by omega)))];obtain⟨p,x,h1,h2,h3,h4⟩:=Qwp h;have hv:val a=val (p++[x]):=by rw[←h1,Jy]
 rw[hv,Q88 h4 h2];rw[hv] at h1 hl;rw[h1] at hl;rw[h1,List.length_append,List.length_singleton] at *;rw[w64 (x:=((p.length+1:Nat):Int) - 1) (by omega) (by omega),show((p.length+1:Nat):Int) - 1=(p.length:Nat) by omega,W5 rfl,sbind,Qsl hn h3,sbind,sbind];have hb:blen x≤32:=by rcases Nat.lt_or_ge 32 (blen x) with h | h;have g1:=Qqu h2;have g2:2 ^ 32≤2 ^ (blen x - 1):=Nat.pow_le_pow_right (by decide) (by omega);rw[show(2:Nat) ^ 32=4294967296 by decide] at g2;omega;exact h
 rw[w64 (x:=32*(p.length:Int)) (by omega) (by omega),w64 (by omega) (by omega)];congr 1
theorem Q89(P M R x A B m V:Nat)(h1:V=M+P*m)(h2:R=m+x*A+0)(h3:V=A*B):M+P*R=A*(B+P*x):=by grind
theorem Qdf{n:Nat}{a b:List Nat}(hn:big≤n)(ha:a.length<8796093022208)(hb:b.length<8796093022208)(hwa:Wd a)(hwb:Wd b):Qab n a b=some (toL (val a*val b)):=by
 unfold Qab;rw[w64 (x:=(a.length:Int)+(b.length:Int)) (by omega) (by omega),w64 (by omega) (by omega),show((a.length:Int)+(b.length:Int))+1=((a.length+b.length+1:Nat):Int) by omega,Qje (by omega) (by omega),sbind];refine Qk6 (λj (s:List Nat)=>∃ m1,s=m1++List.replicate (b.length+1 - j) 0∧m1.length=j+a.length∧j≤b.length∧Wd m1∧val m1=val a*val (b.take j)) ⟨List.replicate a.length 0,by rw[List.replicate_append_replicate];congr 1,by simp,Nat.zero_le _,Qx1 (by omega),by simp[val,Qrz]⟩ ?_ ?_
 . rintro j x o hj ⟨m1,h1,h2,h3,h4,h5⟩
   subst h1;have hjb:j<b.length:=Qie hj;have hx:b[j]=x:=by simpa [hjb] using hj
   have hxw:x<4294967296:=by rw[←hx];exact Qca hwb hjb
   obtain⟨r,g1,g2,g3,g4⟩:=Q1x (p:=m1.take j) (m:=m1.drop j) (q:=List.replicate (b.length - j) 0) (a:=a) (z:=0) (x:=x) (c:=0) (by simp;omega) (by simp;omega) (Qnw h4) hwa hxw (by omega);have hpj:(m1.take j).length=j:=by simp;omega
   rw[hpj,List.take_append_drop] at g1;rw[show b.length+1 - j=(b.length - j)+1 by omega,List.replicate_succ,g1,sbind];refine⟨_,rfl,m1.take j++r,by rw[show b.length+1 - (j+1)=b.length - j by omega],by simp;omega,by omega,K9.2 ⟨Qqs h4,g3⟩,?_⟩;have hv:val m1=val (m1.take j)+bp j*val (m1.drop j):=by
    conv=>lhs;rw[←List.take_append_drop j m1]
    rw[Y6,hpj]
   rw[Y6,hpj,Qad,show b.getD j 0=x by rw[←hx];simp[hjb]];exact Q89 _ _ _ _ _ _ _ _ hv g4 h5
 . rintro o ⟨m1,h1,h2,h3,h4,h5⟩
   subst h1;simp only[Wr];rw[Wv hn (by simp;omega),sbind,←Vp (K9.2 ⟨h4,Qx1 (by omega)⟩),Y6,Qrz,Nat.mul_zero,Nat.add_zero,h5,List.take_of_length_le (Nat.le_refl _)]
theorem lo_eq{x r:Nat}(hr:r≤32):(x*2 ^ r)%4294967296=(x%2 ^ (32 - r))*2 ^ r:=by rw[show(4294967296:Nat)=2 ^ (32 - r)*2 ^ r by rw[←Nat.pow_add,show 32 - r+r=32 by omega],Nat.mul_mod_mul_right]
theorem or_lo{c x r:Nat}(hr:r≤32)(hc:c<2 ^ r):c ||| (x*2 ^ r)%4294967296=c+(x*2 ^ r)%4294967296:=by rw[lo_eq hr,Nat.or_comm,Nat.mul_comm,←Nat.two_pow_add_eq_or_of_lt hc,Nat.add_comm]
theorem hi_lt{x r:Nat}(hx:x<4294967296):(x*2 ^ r) / 4294967296<2 ^ r:=
 Nat.div_lt_of_lt_mul (Nat.mul_lt_mul_of_pos_right hx (Nat.two_pow_pos r))
theorem Qr0{r:Nat}(hr:r≤32):2 ^ r≤4294967296:=by have h:2 ^ r≤2 ^ 32:=Nat.pow_le_pow_right (by decide) hr;rwa [show(2:Nat) ^ 32=4294967296 by rfl] at h
theorem sh_lt{x r:Nat}(hr:r≤32)(hx:x<4294967296):x*2 ^ r<18446744073709551616:=by have h:=Qr0 hr;have:x*2 ^ r≤4294967295*4294967296:=Nat.mul_le_mul (by omega) h;omega
theorem Jco(P c V A R x lo hi:Nat)(e:4294967296*hi+lo=x*R)(h:V+P*c=A*R):V+P*(c+lo)+P*4294967296*hi=(A+P*x)*R:=by grind
theorem Qt6{n k:Nat}{a:List Nat}(hn:big≤n)(ha:a.length<8796093022208)(hw:Wd a)(hk:k≤4096):Qhe n a (k:Int)=some (toL (val a*2 ^ k)):=by
 unfold Qhe;rw[show min (max (k:Int) 0) 4096=(k:Int) by omega];rw[show Int.tdiv (k:Int) 32=((k / 32:Nat):Int) by rfl,show Int.tmod (k:Int) 32=((k%32:Nat):Int) by rfl];have hp:2 ^ k=bp (k / 32)*2 ^ (k%32):=by rw[Qt5,←Nat.pow_add,Nat.div_add_mod]
 have hwk:k / 32≤128:=by omega
 have hr:k%32≤31:=by omega
 rw[hp];generalize k / 32=w at *;generalize k%32=r at *;rw[w64 (x:=(w:Int)) (by omega) (by omega),sbind,w64 (x:=(w:Int)+(a.length:Int)) (by omega) (by omega),w64 (by omega) (by omega),show(w:Int)+(a.length:Int)+1=((w+a.length+1:Nat):Int) by omega,Qje (by omega) (by omega),sbind];refine Qk6 (λj (s:List Nat)=>∃ m1 c,s=(List.replicate w 0++m1)++c::List.replicate (a.length - j) 0∧m1.length=j∧j≤a.length∧Wd m1∧c<2 ^ r∧val m1+bp j*c=val (a.take j)*2 ^ r) ⟨[],0,by rw[List.append_nil,←List.replicate_succ,List.replicate_append_replicate];congr 1,rfl,Nat.zero_le _,Y5,Nat.two_pow_pos r,by simp[val]⟩ ?_ ?_;rintro j x s hj ⟨m1,c,h1,h2,h3,h4,h5,h6⟩;subst h1;have hja:j<a.length:=Qie hj;have hx:a[j]=x:=by simpa [hja] using hj
 have hxw:x<4294967296:=by rw[←hx];exact Qca hw hja
 have hlen:(List.replicate w 0++m1).length=w+j:=by simp;omega
 have g1:=sh_lt (r:=r) (by omega) hxw;have g2:=hi_lt (r:=r) hxw;have g3:=Qr0 (r:=r) (by omega);have g4:=or_lo (x:=x) (show r≤32 by omega) h5;rw[grd_t (by simp),sbind,Int.toNat_natCast,Nat.min_eq_left (by omega),Nat.mod_eq_of_lt g1,sbind,w64 (x:=(w:Int)+(j:Int)) (by omega) (by omega),sbind,show(w:Int)+(j:Int)=((w+j:Nat):Int) by omega];rw[W5 hlen,sbind,sbind,sbind,Qah hlen,g4,show(2:Nat) ^ 32=4294967296 by rfl,Nat.mod_eq_of_lt (show x*2 ^ r / 4294967296<4294967296 by omega)];obtain⟨d,hd⟩:∃ d,a.length - j=d+1:=⟨a.length - j - 1,by omega⟩
 rw[w64 (by omega) (by omega),show((w+j:Nat):Int)+1=((w+j+1:Nat):Int) by omega,hd,List.replicate_succ];rw[show ∀(y:Nat) (l:List Nat),List.replicate w 0++m1++y::l=(List.replicate w 0++(m1++[y]))++l by intro y l;simp];have hlen2:(List.replicate w 0++(m1++[c+x*2 ^ r%4294967296])).length=w+j+1:=by simp;omega
 rw[W5 hlen2,sbind,Qah hlen2,sbind];refine⟨_,rfl,m1++[c+x*2 ^ r%4294967296],x*2 ^ r / 4294967296,by rw[show a.length - (j+1)=d by omega],by simp[h2],by omega,K9.2 ⟨h4,Vk.2 ⟨?_,Y5⟩⟩,g2,?_⟩;rw[lo_eq (by omega)];have e1:x%2 ^ (32 - r)+1≤2 ^ (32 - r):=Nat.mod_lt _ (Nat.two_pow_pos _);have e2:=Nat.mul_le_mul_right (2 ^ r) e1;rw[←Nat.pow_add,show 32 - r+r=32 by omega,show(2:Nat) ^ 32=4294967296 by rfl,Nat.add_mul,Nat.one_mul] at e2;omega;rw[Qad,Wk,h2,Xh,show a.getD j 0=x by rw[←hx];simp[hja]];exact Jco _ _ _ _ _ _ _ _ (Nat.div_add_mod (x*2 ^ r) 4294967296) h6;rintro s ⟨m1,c,h1,h2,h3,h4,h5,h6⟩;subst h1;simp only[Wr];have g3:=Qr0 (r:=r) (by omega);rw[Wv hn (by simp;omega),sbind,←Vp (K9.2 ⟨K9.2 ⟨Qx1 (by omega),h4⟩,Vk.2 ⟨by omega,Qx1 (by omega)⟩⟩)];rw[List.append_assoc,Y6,Qrz,List.length_replicate,Nat.zero_add,Y6];simp only[val];rw[Qrz,h2,Nat.mul_zero,Nat.add_zero,h6,List.take_of_length_le (Nat.le_refl _),Nat.mul_left_comm]
theorem Qt7{a:List Nat}(hw:Wd a)(k:Nat):val a / bp k=val (a.drop k):=by
 rcases Nat.lt_or_ge k a.length with h | h
 . have h1:val a=val (a.take k)+bp k*val (a.drop k):=by
    conv=>lhs;rw[←List.take_append_drop k a]
    rw[Y6,List.length_take,Nat.min_eq_left (by omega)]
   have h2:=Zs (Qqs (k:=k) hw);rw[List.length_take,Nat.min_eq_left (by omega)] at h2;rw[h1,Nat.add_mul_div_left _ _ (Q82 k),Nat.div_eq_of_lt h2,Nat.zero_add]
 . rw[List.drop_of_length_le h]
   exact Nat.div_eq_of_lt (Nat.lt_of_lt_of_le (Zs hw) (bp_le h))
theorem Q9a{a:List Nat}{k:Nat}(h:k<a.length):val (a.drop k)=a[k]+4294967296*(a.getD (k+1) 0+4294967296*val (a.drop (k+2))):=by rw[List.drop_eq_getElem_cons h];simp only[val];by_cases h2:k+1<a.length;rw[List.drop_eq_getElem_cons h2];simp[val,h2];rw[List.drop_of_length_le (by omega),List.drop_of_length_le (by omega)];simp[List.getElem?_eq_none (show a.length≤k+1 by omega),val]
theorem Jay{v z r:Nat}(hr:r≤32):((v+4294967296*4294967296*z) / 2 ^ r)%4294967296=(v / 2 ^ r)%4294967296:=by
 rw[show 4294967296*4294967296*z=2 ^ r*(4294967296*(2 ^ (32 - r)*z)) by
  have:2 ^ r*2 ^ (32 - r)=4294967296:=by rw[←Nat.pow_add,show r+(32 - r)=32 by omega]
  calc 4294967296*4294967296*z=(2 ^ r*2 ^ (32 - r))*4294967296*z:=by rw[this]
   _=_:=by grind]
 rw[Nat.add_mul_div_left _ _ (Nat.two_pow_pos r),Nat.add_mul_mod_self_left]
theorem Jaz{k:Nat}{b:List Nat}{x:Nat}{β:Type}(f:Nat->Option β)(hb:Wd b)(hx:x<4294967296):(if ((k:Nat):Int)<(b.length:Int) then (getI b (k:Int)).bind (λy=>f (x ||| (y*2 ^ 32)%18446744073709551616)) else f x)=f (x+4294967296*b.getD k 0):=by by_cases h:k<b.length;rw[if_pos (by omega),Qgb h,sbind];have hy:=Qca hb h;rw[show(2:Nat) ^ 32=4294967296 by rfl,Nat.mod_eq_of_lt (by omega),Nat.or_comm,Qzs hx,Nat.mul_comm,Nat.add_comm];simp[h];rw[if_neg (by omega)];simp[List.getElem?_eq_none (show b.length≤k by omega)]
theorem Ja0(X P:Nat):X%P+P*(X / P%4294967296)=X%(P*4294967296):=by rw[Nat.mod_mul]
theorem Qzw{n k:Nat}{a:List Nat}(hn:big≤n)(ha:a.length<8796093022208)(hw:Wd a)(hk:k≤4611686018427387904):Qiw n a (k:Int)=some (toL (val a / 2 ^ k)):=by
 unfold Qiw;rw[show max (k:Int) 0=(k:Int) by omega];rw[show Int.tdiv (k:Int) 32=((k / 32:Nat):Int) by rfl,show Int.tmod (k:Int) 32=((k%32:Nat):Int) by rfl];have hp:2 ^ k=bp (k / 32)*2 ^ (k%32):=by rw[Qt5,←Nat.pow_add,Nat.div_add_mod]
 have hr:k%32≤31:=by omega
 have hwk:k / 32≤4611686018427387904:=by omega
 rw[hp];generalize k / 32=w at *;generalize k%32=r at *;rw[←Nat.div_div_eq_div_mul,Qt7 hw];rw[w64 (x:=(w:Int)) (by omega) (by omega),sbind,bifd];by_cases hle:a.length≤w;rw[if_pos (by omega),List.drop_of_length_le hle];simp[val,Wx];rw[if_neg (by omega),w64 (x:=(a.length:Int) - (w:Int)) (by omega) (by omega),sbind,show(a.length:Int) - (w:Int)=((a.length - w:Nat):Int) by omega,Qje (by omega) (by omega),sbind];refine Qk6 (λj (s:List Nat)=>∃ m1,s=m1++List.replicate (a.length - w - j) 0∧m1.length=j∧Wd m1∧val m1=(val (a.drop w) / 2 ^ r)%bp j) ⟨[],by simp,rfl,Y5,by simp[val,Qbs,Nat.mod_one]⟩ ?_ ?_;rintro j x s hj ⟨m1,h1,h2,h3,h4⟩;subst h1;have hja:j<a.length - w:=by have:=Qie hj;simpa using this
 have hwj:w+j<a.length:=by omega
 simp only[jn_eq,bifd];rw[w64 (x:=(w:Int)+(j:Int)) (by omega) (by omega),show(w:Int)+(j:Int)=((w+j:Nat):Int) by omega,sbind,Qgb hwj,sbind,sbind,w64 (x:=((w+j:Nat):Int)+1) (by omega) (by omega),show((w+j:Nat):Int)+1=((w+j+1:Nat):Int) by omega];simp only[sbind];rw[w64 (x:=((w+j:Nat):Int)+1) (by omega) (by omega),show((w+j:Nat):Int)+1=((w+j+1:Nat):Int) by omega];rw[Jaz (β:=Lp (List Nat) (List Nat)) (λ(v:Nat)=>(grd (decide (0≤(r:Int)))).bind λ_=>(getI (m1++List.replicate (a.length - w - j) 0) (j:Int)).bind λ_=>some (Lp.go (List.set (m1++List.replicate (a.length - w - j) 0) (Int.toNat (j:Int)) (v / 2 ^ (min (Int.toNat (r:Int)) 64)%4294967296)))) hw (Qca hw hwj)];rw[grd_t (by simp),sbind,Int.toNat_natCast (n:=r),Nat.min_eq_left (by omega)];obtain⟨d,hd⟩:∃ d,a.length - w - j=d+1:=⟨a.length - w - j - 1,by omega⟩
 rw[hd,List.replicate_succ,W5 h2,sbind,Qah h2];refine⟨_,rfl,m1++[(a[w+j]+4294967296*a.getD (w+j+1) 0) / 2 ^ r%4294967296],by rw[show a.length - w - (j+1)=d by omega];simp,by simp[h2],K9.2 ⟨h3,Vk.2 ⟨by omega,Y5⟩⟩,?_⟩;rw[Wk,h2,Xh,←Ja0,h4,Nat.div_div_eq_div_mul (val (a.drop w)),Nat.mul_comm (2 ^ r) (bp j),←Nat.div_div_eq_div_mul (val (a.drop w)),Qt7 (Qnw hw),List.drop_drop,Q9a hwj,Nat.mul_add,←Nat.add_assoc,←Nat.mul_assoc,Jay (by omega)];rintro s ⟨m1,h1,h2,h3,h4⟩;subst h1;simp only[Wr];rw[List.length_replicate] at h2 h4;rw[List.length_replicate,Nat.sub_self,List.replicate_zero,List.append_nil,Wv hn (by omega),sbind,←Vp h3,h4,Nat.mod_eq_of_lt];have:=Zs (Qnw (k:=w) hw);rw[List.length_drop] at this;exact Nat.lt_of_le_of_lt (Nat.div_le_self _ _) this
theorem Q51{q r x0 x1 x2 x3 x4:Nat}(h1:q*x3+r=x0*4294967296+x1)(h2:q*x4≤r*4294967296+x2):q*(x3*4294967296+x4)≤(x0*4294967296+x1)*4294967296+x2:=by rw[←h1];grind
theorem Jcp{q r x0 x1 x2 x3 x4:Nat}(h1:(q+1)*x3+r=x0*4294967296+x1)(h2:r*4294967296+x2<(q+1)*x4):(x0*4294967296+x1)*4294967296+x2<(q+1)*(x3*4294967296+x4):=by rw[←h1];grind
theorem Jcq{q r x3:Nat}{U:Nat}(h1:(q+1)*x3+r=U):q*x3+(r+x3)=U:=by rw[←h1];grind
theorem Q52{q r x0 x1 x2 x3 x4:Nat}(h1:q*x3+r=x0*4294967296+x1)(hr:4294967296≤r)(hq:q<4294967296)(h4:x4<4294967296):q*(x3*4294967296+x4)≤(x0*4294967296+x1)*4294967296+x2:=by have e1:q*x4≤4294967295*4294967295:=Nat.mul_le_mul (by omega) (by omega);exact Q51 h1 (by omega)
theorem Jez{X u w x2:Nat}(h:X<u)(h2:x2<4294967296):X*4294967296+x2<u*4294967296+w:=by omega
theorem Je0{q x0 x1 x2 x3 x4:Nat}(h:x0*4294967296+x1<(q+1)*x3)(h2:x2<4294967296):(x0*4294967296+x1)*4294967296+x2<(q+1)*(x3*4294967296+x4):=by
 have e2:(q+1)*(x3*4294967296+x4)=((q+1)*x3)*4294967296+(q+1)*x4:=by rw[Nat.mul_add,Nat.mul_assoc]
 rw[e2];exact Jez h h2
theorem Qx3{n q0 r0 x0 x1 x2 x3 x4:Nat}(hn:big≤n)(h2:x2<4294967296)(h3:x3<4294967296)(h4:x4<4294967296)(hq:q0<4294967296)(hr:r0<4294967296)
 (he:q0*x3+r0=x0*4294967296+x1) (hm:q0+1=4294967296∨(x0*4294967296+x1)*4294967296+x2<(q0+1)*(x3*4294967296+x4)) :
 ∃ q,(loopM (λ(s34:Nat×Nat)=>
   (Qcf s34.1 x4 0 0).bind λr35=>
   jn (λ(j37:(Bool)->Option _)=>
    bif decide (r35.1<s34.2) then (
     j37 true)
    else (
     bif decide (r35.1=s34.2) then (
      j37 (decide (r35.2≤x2)))
     else (
      j37 false))) (λ(s39:Bool)=>
    bif s39 then (
     some (Lp.out s34.1))
    else (
     (Zi s34.2 x3 0).bind λr40=>
     bif decide (0<r40.2) then (
      some (Lp.out ((s34.1+4294967296 - 1)%4294967296)))
     else (
      some (Lp.go (((s34.1+4294967296 - 1)%4294967296),r40.1)))))) n (q0,r0)).bind (λ(t32:Nat)=>some t32)=some q ∧
   (q<4294967296∧q*(x3*4294967296+x4)≤(x0*4294967296+x1)*4294967296+x2∧(q+1=4294967296∨(x0*4294967296+x1)*4294967296+x2<(q+1)*(x3*4294967296+x4))):=by
 unfold big at hn
 refine Qx0 (λs=>s.1) (λs=>s.1<4294967296∧s.2<4294967296∧s.1*x3+s.2=x0*4294967296+x1∧(s.1+1=4294967296∨(x0*4294967296+x1)*4294967296+x2<(s.1+1)*(x3*4294967296+x4)))
  (λq=>q<4294967296∧q*(x3*4294967296+x4)≤(x0*4294967296+x1)*4294967296+x2∧(q+1=4294967296∨(x0*4294967296+x1)*4294967296+x2<(q+1)*(x3*4294967296+x4))) ⟨hq,hr,he,hm⟩ (by simp only[];omega) ?_ (λt ht=>⟨t,rfl,ht⟩)
 rintro⟨q,r⟩ ⟨g1,g2,g3,g4⟩;simp only at g1 g2 g3 g4;simp only[jn_eq,bifd];rw[Qm7 g1 h4 (by omega) (by omega),sbind];simp only[Nat.add_zero]
 have key:(bif decide (q*x4≤r*4294967296+x2) then some (Lp.out q) else
  (Zi r x3 0).bind λr40=>if 0<r40.2 then some (Lp.out ((q+4294967296 - 1)%4294967296)) else some (Lp.go ((q+4294967296 - 1)%4294967296,r40.1)):Option (Lp (Nat×Nat) Nat)) =
  (if q*x4 / 4294967296<r then bif true then some (Lp.out q) else
   (Zi r x3 0).bind λr40=>if 0<r40.2 then some (Lp.out ((q+4294967296 - 1)%4294967296)) else some (Lp.go ((q+4294967296 - 1)%4294967296,r40.1))
   else if q*x4 / 4294967296=r then if q*x4%4294967296≤x2 then some (Lp.out q) else
    (Zi r x3 0).bind λr40=>if 0<r40.2 then some (Lp.out ((q+4294967296 - 1)%4294967296)) else some (Lp.go ((q+4294967296 - 1)%4294967296,r40.1))
   else bif false then some (Lp.out q) else
    (Zi r x3 0).bind λr40=>if 0<r40.2 then some (Lp.out ((q+4294967296 - 1)%4294967296)) else some (Lp.go ((q+4294967296 - 1)%4294967296,r40.1))):=by
  have hd:=Nat.div_add_mod (q*x4) 4294967296;have hm:=Nat.mod_lt (q*x4) (show 4294967296 > 0 by decide);by_cases c1:q*x4 / 4294967296<r;rw[if_pos c1,decide_eq_true (by omega)];rw[if_neg c1];by_cases c2:q*x4 / 4294967296=r;rw[if_pos c2,←bifd];congr 1;exact decide_eq_decide.2 (by omega);rw[if_neg c2,decide_eq_false (by omega)]
 rw[←key,bifd];by_cases hs:q*x4≤r*4294967296+x2;right;rw[if_pos hs];exact⟨q,rfl,g1,Q51 g3 hs,g4⟩;rw[if_neg hs,Qjj g2 h3 (by omega),sbind]
 obtain⟨q',rfl⟩:∃ q',q=q'+1:=⟨q - 1,by
  have:q≠0:=by rintro rfl;simp at hs
  omega⟩
 have hq':(q'+1+4294967296 - 1)%4294967296=q':=by omega
 have hnx:=Jcp (x2:=x2) (x4:=x4) g3 (by omega);have hdn:=Jcq g3;simp only[Nat.add_zero];rw[hq'];by_cases ho:0<(r+x3) / 4294967296;right;rw[if_pos ho];exact⟨q',rfl,by omega,Q52 hdn (by omega) (by omega) h4,.inr hnx⟩;left;rw[if_neg ho];refine⟨_,rfl,⟨by simp only[];omega,by simp only[];omega,?_,.inr hnx⟩,by simp only[];omega⟩;simp only[];rw[Nat.mod_eq_of_lt (by omega)];exact hdn
theorem Qx4{n x0 x1 x2 x3 x4:Nat}(hn:big≤n)(h0:x0≤x3)(h1:x1<4294967296)(h2:x2<4294967296)(h3:x3<4294967296)(h4:x4<4294967296)(hz:x3≠0):
 ∃ q,Qfd n x0 x1 x2 x3 x4=some q∧(q<4294967296∧q*(x3*4294967296+x4)≤(x0*4294967296+x1)*4294967296+x2∧(q+1=4294967296∨(x0*4294967296+x1)*4294967296+x2<(q+1)*(x3*4294967296+x4))):=by
 unfold Qfd;by_cases hlt:x0<x3;rw[Qsj hlt h1 h3,sbind]
 have hq:(x0*4294967296+x1) / x3<4294967296:=Nat.div_lt_of_lt_mul (by
  have:x0*4294967296+4294967296≤x3*4294967296:=by omega
  omega)
 have hr:(x0*4294967296+x1)%x3<x3:=Nat.mod_lt _ (by omega);exact Qx3 hn h2 h3 h4 hq (Nat.lt_trans hr h3) (by rw[Nat.mul_comm];exact Nat.div_add_mod _ _) (.inr (Je0 ((Nat.div_lt_iff_lt_mul (by omega)).1 (Nat.lt_succ_self _)) h2));obtain rfl:x0=x3:=by omega
 rw[show Qdo x0 x1 x0=some (0,0,false) by unfold Qdo;rw[bifd,if_pos (by omega)],sbind];rw[jn_eq];simp only[Bool.not_false,bifT];rw[Qjj h1 h3 (by omega),sbind,jn_eq,bifd,if_neg (by omega)];simp only[Nat.add_zero];rw[bifd];have he:4294967295*x0+(x1+x0)=x0*4294967296+x1:=by omega
 by_cases ho:0<(x1+x0) / 4294967296;rw[if_pos ho];exact⟨_,rfl,by omega,Q52 he (by omega) (by omega) h4,.inl rfl⟩;rw[if_neg ho,Nat.mod_eq_of_lt (by omega)];exact Qx3 hn h2 h3 h4 (by omega) (by omega) he (.inl rfl)
theorem Q00(P M c b d lo hi b' q y u V W:Nat)(e1:4294967296*hi+lo=q*y+c)(e2:d+lo+b=u+4294967296*b')(h:W+q*V=M+P*(c+b)):W+P*d+q*(V+P*y)=M+P*u+P*4294967296*(hi+b'):=by
 have e3:P*d+P*lo+P*b=P*u+P*4294967296*b':=by rw[←Nat.mul_add,←Nat.mul_add,e2];grind
 have e4:P*4294967296*hi+P*lo=P*(q*y)+P*c:=by rw[←Nat.mul_add,←e1];grind
 grind
theorem Qzx{p m q' v:List Nat}{z q:Nat}(hm:m.length=v.length)(hp:p.length+m.length+1+q'.length≤4611686018427387904)(hwm:Wd m)(hwv:Wd v)(hz:z<4294967296)(hq:q<4294967296):
 ∃ r b,Qcm (p++m++z::q') (p.length:Int) v q=some (decide (0<b),p++r++q')∧r.length=v.length+1∧Wd r∧b≤1∧val r+q*val v=val (m++[z])+bp (v.length+1)*b:=by
 have key:∃ R,Qcm (p++m++z::q') (p.length:Int) v q=some R∧∃ r b,R=(decide (0<b),p++r++q')∧r.length=v.length+1∧Wd r∧b≤1∧val r+q*val v=val (m++[z])+bp (v.length+1)*b:=by
  unfold Qcm;refine Qp6 (λj (s:List Nat×Nat×Nat)=>∃ m1,s.1=p++m1++(m.drop j++z::q')∧m1.length=j∧j≤v.length∧Wd m1∧s.2.1<4294967296∧s.2.2≤1∧val m1+q*val (v.take j)=val (m.take j)+bp j*(s.2.1+s.2.2)) ⟨[],by simp,rfl,Nat.zero_le _,Y5,by simp,by simp,by simp[val]⟩ ?_ ?_;rintro j y ⟨o,c,b⟩ hj ⟨m1,h1,h2,h3,h4,h5,h6,h7⟩;simp only at h1 h5 h6 h7;subst h1;have hjv:j<v.length:=Qie hj;have hy:v[j]=y:=by simpa [hjv] using hj
  have hyw:y<4294967296:=by rw[←hy];exact Qca hwv hjv
  have hmj:j<m.length:=by omega
  have hmw:=Qca hwm hmj;have hlen:(p++m1).length=p.length+j:=by simp;omega
  have hmul:=Qwn hq hyw h5 (show 0<4294967296 by omega);obtain⟨d,b',g1,g2,g3,g4⟩:=Qm8 (x:=m[j]) (y:=(q*y+c+0)%4294967296) (c:=b) hmw (by omega) h6;rw[Qm7 hq hyw h5 (by omega),sbind,w64 (by omega) (by omega),show((p.length:Int)+(j:Int))=((p.length+j:Nat):Int) by omega,List.drop_eq_getElem_cons hmj,List.cons_append];simp only[];rw[W5 hlen,sbind,g1,sbind,sbind,Qah hlen];refine⟨_,rfl,m1++[d],by simp,by simp[h2],by omega,K9.2 ⟨h4,Vk.2 ⟨g2,Y5⟩⟩,by simp only[];omega,g3,?_⟩;simp only[];rw[Qad,Zg hmj,Wk,Wk,h2,Xh,show v.getD j 0=y by rw[←hy];simp[hjv],List.length_take,Nat.min_eq_left (by omega)];exact Q00 _ _ _ _ _ _ _ _ _ _ _ _ _ (Nat.div_add_mod (q*y+c) 4294967296) g4 h7;rintro⟨o,c,b⟩ ⟨m1,h1,h2,h3,h4,h5,h6,h7⟩;simp only at h1 h5 h6 h7;subst h1;simp only[Wr];have hlen:(p++m1).length=p.length+v.length:=by simp;omega
  obtain⟨d,b',g1,g2,g3,g4⟩:=Qm8 (x:=z) (y:=c) (c:=b) hz h5 h6;rw[w64 (by omega) (by omega),show((p.length:Int)+(v.length:Int))=((p.length+v.length:Nat):Int) by omega,List.drop_of_length_le (by omega),List.nil_append,W5 hlen,sbind,g1,sbind,sbind,Qah hlen];refine⟨_,rfl,m1++[d],b',by simp,by simp[h2],K9.2 ⟨h4,Vk.2 ⟨g2,Y5⟩⟩,g3,?_⟩;rw[List.take_of_length_le (Nat.le_refl _),List.take_of_length_le (by omega)] at h7;rw[Wk,Wk,h2,hm,Xh];have:=Q00 (bp v.length) (val m) c b d c 0 b' q 0 z (val v) (val m1) (by omega) g4 h7
  simpa using this
 obtain⟨R,h1,r,b,h2,h3⟩:=key;exact⟨r,b,by rw[h1,h2],h3⟩
theorem Q01(P M c d c' y u V W:Nat)(e1:4294967296*c'+d=u+y+c)(h:W+P*c=M+V):W+P*d+P*4294967296*c'=M+P*u+(V+P*y):=by grind
theorem Qzy{p m q' v:List Nat}{z:Nat}(hm:m.length=v.length)(hp:p.length+m.length+1+q'.length≤4611686018427387904)(hwm:Wd m)(hwv:Wd v)(hz:z<4294967296):
 ∃ r b,Qem (p++m++z::q') (p.length:Int) v=some (p++r++q')∧r.length=v.length+1∧Wd r∧b≤1∧val r+bp (v.length+1)*b=val (m++[z])+val v:=by
 have key:∃ R,Qem (p++m++z::q') (p.length:Int) v=some R∧∃ r b,R=p++r++q'∧r.length=v.length+1∧Wd r∧b≤1∧val r+bp (v.length+1)*b=val (m++[z])+val v:=by
  unfold Qem;refine Qp6 (λj (s:List Nat×Nat)=>∃ m1,s.1=p++m1++(m.drop j++z::q')∧m1.length=j∧j≤v.length∧Wd m1∧s.2≤1∧val m1+bp j*s.2=val (m.take j)+val (v.take j)) ⟨[],by simp,rfl,Nat.zero_le _,Y5,by simp,by simp[val]⟩ ?_ ?_;rintro j y ⟨o,c⟩ hj ⟨m1,h1,h2,h3,h4,h6,h7⟩;simp only at h1 h6 h7;subst h1;have hjv:j<v.length:=Qie hj;have hy:v[j]=y:=by simpa [hjv] using hj
  have hyw:y<4294967296:=by rw[←hy];exact Qca hwv hjv
  have hmj:j<m.length:=by omega
  have hmw:=Qca hwm hmj;have hlen:(p++m1).length=p.length+j:=by simp;omega
  rw[w64 (by omega) (by omega),show((p.length:Int)+(j:Int))=((p.length+j:Nat):Int) by omega,List.drop_eq_getElem_cons hmj,List.cons_append];rw[W5 hlen,sbind,Qjj hmw hyw (by simp only[];omega),sbind,sbind,Qah hlen];refine⟨_,rfl,m1++[(m[j]+y+c)%4294967296],by simp,by simp[h2],by omega,K9.2 ⟨h4,Vk.2 ⟨by omega,Y5⟩⟩,by simp only[];omega,?_⟩;simp only[];rw[Qad,Qad,Wk,h2,Xh,show v.getD j 0=y by rw[←hy];simp[hjv],show m.getD j 0=m[j] by simp[hmj]];exact Q01 _ _ _ _ _ _ _ _ _ (Nat.div_add_mod (m[j]+y+c) 4294967296) h7;rintro⟨o,c⟩ ⟨m1,h1,h2,h3,h4,h6,h7⟩;simp only at h1 h6 h7;subst h1;simp only[Wr];have hlen:(p++m1).length=p.length+v.length:=by simp;omega
  rw[w64 (by omega) (by omega),show((p.length:Int)+(v.length:Int))=((p.length+v.length:Nat):Int) by omega,List.drop_of_length_le (by omega),List.nil_append,W5 hlen,sbind,sbind,Qah hlen,sbind];refine⟨_,rfl,m1++[(z+c)%4294967296],(z+c) / 4294967296,by simp,by simp[h2],K9.2 ⟨h4,Vk.2 ⟨by omega,Y5⟩⟩,by omega,?_⟩;rw[List.take_of_length_le (Nat.le_refl _),List.take_of_length_le (by omega)] at h7;rw[Wk,Wk,h2,hm,Xh];have:=Q01 (bp v.length) (val m) c ((z+c)%4294967296) ((z+c) / 4294967296) 0 z (val v) (val m1) (by omega) h7
  simpa using this
 obtain⟨R,h1,r,b,h2,h3⟩:=key;exact⟨r,b,by rw[h1,h2],h3⟩
theorem kn_a{P vl V2 ul U3 q qh:Nat}(h1:ul<P)(hq:q<4294967296)(hU:q*(vl+P*V2)≤ul+P*U3)(hm:qh+1=4294967296∨U3<(qh+1)*V2):q≤qh:=by
 rcases hm with hm | hm;omega;have e1:P*(q*V2)≤q*(vl+P*V2):=by rw[Nat.mul_add,Nat.mul_left_comm];exact Nat.le_add_left _ _
 have e2:P*(q*V2)<P*(U3+1):=by rw[Nat.mul_add,Nat.mul_one];omega
 have e3:q*V2<U3+1:=Nat.lt_of_mul_lt_mul_left e2;have e4:q*V2<(qh+1)*V2:=by omega
 exact Nat.le_of_lt_succ (Nat.lt_of_mul_lt_mul_right e4)
theorem kn_b{P vl V2 ul U3 qh:Nat}(h1:vl<P)(hq:qh<4294967296)(h2:4294967296≤V2)(hm:qh*V2≤U3):qh*(vl+P*V2)≤(ul+P*U3)+(vl+P*V2):=by
 have e1:qh*(vl+P*V2)=qh*vl+P*(qh*V2):=by rw[Nat.mul_add,Nat.mul_left_comm]
 have e2:P*(qh*V2)≤P*U3:=Nat.mul_le_mul_left _ hm;have e3:qh*vl≤V2*P:=Nat.mul_le_mul (by omega) (by omega);rw[e1];rw[Nat.mul_comm V2 P] at e3;omega
theorem kn_z{P vl v3 v4 ul z x1 x2:Nat}(h1:vl<P)(h4:v4<4294967296)(hU:ul+P*((z*4294967296+x1)*4294967296+x2)<4294967296*(vl+P*(v3*4294967296+v4))):z≤v3:=by
 have e1:P*(z*4294967296*4294967296)≤P*((z*4294967296+x1)*4294967296+x2):=Nat.mul_le_mul_left _ (by omega);have e2:vl+P*(v3*4294967296+v4)<P*((v3+1)*4294967296):=by have:P*(v3*4294967296+v4+1)≤P*((v3+1)*4294967296):=Nat.mul_le_mul_left _ (by omega);rw[Nat.mul_add _ _ 1,Nat.mul_one] at this;omega
 have e3:P*(z*4294967296*4294967296)<P*((v3+1)*4294967296*4294967296):=by have a1:P*((v3+1)*4294967296*4294967296)=P*((v3+1)*4294967296)*4294967296:=(Nat.mul_assoc _ _ _).symm;omega
 have e4:=Nat.lt_of_mul_lt_mul_left e3;omega
theorem dm_of{U V q r:Nat}(h:r+q*V=U)(hr:r<V):U / V=q∧U%V=r:=by subst h;rw[Nat.add_mul_div_right _ _ (by omega),Nat.div_eq_of_lt hr,Nat.add_mul_mod_self_right,Nat.mod_eq_of_lt hr];omega
theorem last2{l:List Nat}{m:Nat}(h:l.length=m+2):∃ l' a b,l=l'++[a,b]∧l'.length=m:=by refine⟨l.take m,l[m],l[m+1],?_,by simp;omega⟩;have h1:=Zg (a:=l) (k:=m) (by omega);have h2:=Zg (a:=l) (k:=m+1) (by omega);rw[List.take_of_length_le (by omega)] at h2;refine h2.trans ?_;rw[h1,List.append_assoc];rfl
theorem Ja1(p y w qs V U j:Nat)(q r:Nat)(hU:U=y+4294967296*w)(h:r+q*V=U):(p+j*y)+j*4294967296*(w+V*qs)=p+j*(r+V*(q+4294967296*qs)):=by grind
theorem Q7a{n:Nat}{p w rest v:List Nat}{z:Nat}(hn:big≤n){vl wl:List Nat}{v3 v4 x1 x2:Nat}(hv:v=vl++[v4,v3])(hw:w=wl++[x2,x1])(hl:wl.length=vl.length)
 (hwv:Wd v) (hww:Wd w) (hz:z<4294967296) (h3:v3≠0) (hp:p.length+w.length+1+rest.length≤4611686018427387904) (hU:val (w++[z])<4294967296*val v) :
 ∃ r qh,Qfd n z x1 x2 v3 v4=some qh∧r.length=v.length+1∧Wd r∧val r=val (w++[z])%val v∧val (w++[z]) / val v<4294967296 ∧
   ((Qcm (p++w++z::rest) (p.length:Int) v qh=some (false,p++r++rest)∧qh=val (w++[z]) / val v) ∨
    (∃ r1,Qcm (p++w++z::rest) (p.length:Int) v qh=some (true,r1)∧Qem r1 (p.length:Int) v=some (p++r++rest)∧(qh+4294967296 - 1)%4294967296=val (w++[z]) / val v)):=by
 have hwl:w.length=v.length:=by rw[hv,hw];simp[hl]
 have w1:Wd vl∧v4<4294967296∧v3<4294967296:=by rw[hv] at hwv;exact⟨(K9.1 hwv).1,(Vk.1 (K9.1 hwv).2).1,(Vk.1 (Vk.1 (K9.1 hwv).2).2).1⟩
 have w2:Wd wl∧x2<4294967296∧x1<4294967296:=by rw[hw] at hww;exact⟨(K9.1 hww).1,(Vk.1 (K9.1 hww).2).1,(Vk.1 (Vk.1 (K9.1 hww).2).2).1⟩
 obtain⟨w1,w3,w4⟩:=w1;obtain⟨w2,w5,w6⟩:=w2;have hV:val v=val vl+bp vl.length*(v3*4294967296+v4):=by rw[hv,Y6];simp only[val];congr 2;omega
 have hW:val (w++[z])=val wl+bp vl.length*((z*4294967296+x1)*4294967296+x2):=by rw[hw,List.append_assoc,Y6,hl];simp only[List.cons_append,List.nil_append,val];congr 2;omega
 have l1:=Zs w1;have l2:=Zs w2;rw[hl] at l2;have hz3:z≤v3:=by rw[hV,hW] at hU;exact kn_z l1 w3 hU
 obtain⟨qh,g1,g2,g3,g4⟩:=Qx4 hn hz3 w6 w5 w4 w3 h3;have hVp:0<val v:=by rcases Nat.eq_zero_or_pos (val v) with h | h;rw[h] at hU;omega;exact h
 have hqB:val (w++[z]) / val v<4294967296:=(Nat.div_lt_iff_lt_mul hVp).2 hU;have hqa:val (w++[z]) / val v≤qh:=by have:=Nat.div_mul_le_self (val (w++[z])) (val v);exact kn_a (vl:=val vl) l2 hqB (by rw[←hV,←hW];exact this) g4
 have hqb:qh*val v≤val (w++[z])+val v:=by rw[hV,hW];exact kn_b l1 g2 (by omega) g3
 have hUq:val (w++[z])<(qh+1)*val v:=Nat.lt_of_lt_of_le ((Nat.div_lt_iff_lt_mul hVp).1 (Nat.lt_succ_self _)) (Nat.mul_le_mul_right _ (by omega));obtain⟨r,b,t1,t2,t3,t4,t5⟩:=Qzx (p:=p) (m:=w) (q':=rest) (v:=v) (z:=z) (q:=qh) hwl hp hww hwv hz g2;rw[Nat.add_mul,Nat.one_mul] at hUq;have hvb:=Zs hwv;have hbb:bp v.length≤bp (v.length+1):=bp_le (by omega);by_cases hb:b=0;subst hb;rw[Nat.mul_zero,Nat.add_zero] at t5;obtain⟨d1,d2⟩:=dm_of t5 (by omega);exact⟨r,qh,g1,t2,t3,d2.symm,hqB,.inl ⟨t1,d1.symm⟩⟩;obtain rfl:b=1:=by omega
 rw[Nat.mul_one] at t5;have hr:=Zs t3;rw[t2] at hr;obtain⟨r0,rz,e1⟩:∃ r0 rz,r=r0++[rz]:=by rcases List.eq_nil_or_concat r with h | ⟨r0,rz,h⟩;rw[h] at t2;simp at t2;exact⟨r0,rz,by rw[h,List.concat_eq_append]⟩
 have e2:r0.length=v.length:=by rw[e1] at t2;simpa using t2
 have e3:Wd r0∧rz<4294967296:=by rw[e1] at t3;exact⟨(K9.1 t3).1,(Vk.1 (K9.1 t3).2).1⟩
 obtain⟨r',b2,u1,u2,u3,u4,u5⟩:=Qzy (p:=p) (m:=r0) (q':=rest) (v:=v) (z:=rz) e2 (by omega) e3.1 hwv e3.2;have hr':=Zs u3;rw[u2] at hr';rw[←e1] at u5
 obtain⟨qq,rfl⟩:∃ qq,qh=qq+1:=⟨qh - 1,by
  have:qh≠0:=by rintro rfl;omega
  omega⟩
 rw[Nat.add_mul,Nat.one_mul] at *;have hb2:b2=1:=by rcases Nat.eq_zero_or_pos b2 with h | h;subst h;rw[Nat.mul_zero] at u5;omega;omega
 subst hb2;rw[Nat.mul_one] at u5;obtain⟨d1,d2⟩:=dm_of (U:=val (w++[z])) (V:=val v) (q:=qq) (r:=val r') (by omega) (by omega);refine⟨r',qq+1,g1,u2,u3,d2.symm,hqB,.inr ⟨p++r++rest,t1,?_,by rw[d1];omega⟩⟩;rw[e1,show p++(r0++[rz])++rest=p++r0++rz::rest by simp];exact u1
theorem Qzz{n:Nat}{u v vl:List Nat}{v3 v4:Nat}(hn:big≤n)(hv:v=vl++[v4,v3])(h3:v3≠0)(hwu:Wd u)(hwv:Wd v)(hu:u.length<35184372088832)(hl:v.length≤u.length)(ht:val (u.drop (u.length - v.length))<val v):
 ∃ r,Qiv n u v=some r∧(r.1.length=u.length - v.length∧Wd r.1∧r.2.length=u.length∧Wd r.2∧val u=val v*val r.1+val r.2∧val r.2<val v):=by
 unfold Qiv;have hn':=hn;unfold big at hn';have hvl:v.length=vl.length+2:=by rw[hv];simp
 rw[w64 (x:=(u.length:Int) - (v.length:Int)) (by omega) (by omega),show(u.length:Int) - (v.length:Int)=((u.length - v.length:Nat):Int) by omega,Qje (by omega) (by omega),sbind]
 refine Qx0 (λs=>(s.2.2+1).toNat) (λs=>∃(k:Nat) (p w qs:List Nat),s.2.2=(k:Int) - 1∧k≤u.length - v.length∧s.1=p++w∧p.length=k∧w.length=u.length - k∧Wd p∧Wd w∧val w<val v∧s.2.1=List.replicate k 0++qs∧qs.length=u.length - v.length - k∧Wd qs∧val u=val p+bp k*(val w+val v*val qs))
  (λt=>t.2.length=u.length - v.length∧Wd t.2∧t.1.length=u.length∧Wd t.1∧val u=val v*val t.2+val t.1∧val t.1<val v) ⟨u.length - v.length,u.take (u.length - v.length),u.drop (u.length - v.length),[],?_,Nat.le_refl _,by simp only[List.take_append_drop],by simp,by simp,Qqs hwu,Qnw hwu,ht,by simp only[List.append_nil],by simp,Y5,?_⟩ ?_ ?_ (λt ht=>⟨_,rfl,ht⟩)
 . simp only[];rw[List.length_replicate,w64 (by omega) (by omega)]
 . simp only[val,Nat.mul_zero,Nat.add_zero]
   conv=>lhs;rw[←List.take_append_drop (u.length - v.length) u]
   rw[Y6,List.length_take,Nat.min_eq_left (by omega)]
 . simp only[];rw[List.length_replicate,w64 (by omega) (by omega)];omega
 . rintro⟨uu,qq,i⟩ ⟨k,p,w,qs,i1,i2,i3,i4,i5,i6,i7,i8,i9,i10,i11,i12⟩
   simp only at i1 i3 i9;subst i1 i3 i9;simp only[jn_eq,bifd];by_cases h0:0<k
   . left
     obtain⟨j,rfl⟩:∃ j,k=j+1:=⟨k - 1,by omega⟩
     obtain⟨p1,y,e1⟩:∃ p1 y,p=p1++[y]:=by
      rcases List.eq_nil_or_concat p with h | ⟨p1,y,h⟩
      . rw[h] at i4;simp at i4
      . exact⟨p1,y,by rw[h,List.concat_eq_append]⟩
     subst e1;have e2:p1.length=j:=by simpa using i4
     have e3:Wd p1∧y<4294967296:=⟨(K9.1 i6).1,(Vk.1 (K9.1 i6).2).1⟩
     have e4:Wd (y::w):=Vk.2 ⟨e3.2,i7⟩;have e5:v.length<(y::w).length:=by simp;omega
     have e6:y::w=(y::w).take v.length++(y::w)[v.length]::(y::w).drop (v.length+1):=Q85 e5;have e7:val ((y::w).drop (v.length+1))=0:=by rw[List.drop_succ_cons,←Qt7 i7];exact Nat.div_eq_of_lt (Nat.lt_trans i8 (Zs hwv))
     have e8:val ((y::w).take v.length++[(y::w)[v.length]])=y+4294967296*val w:=by have:=congrArg val e6;rw[show ∀(a b:List Nat) (x:Nat),a++x::b=(a++[x])++b by intro a b x;simp,Y6,e7,Nat.mul_zero,Nat.add_zero] at this;rw[←this];rfl
     have w1:Wd ((y::w).take v.length):=Qqs e4;have w2:(y::w)[v.length]<4294967296:=Qca e4 e5;have w3:Wd ((y::w).drop (v.length+1)):=Qnw e4;have w4:((y::w).take v.length).length=v.length:=by rw[List.length_take,Nat.min_eq_left (by omega)]
     have w5:((y::w).drop (v.length+1)).length=u.length - j - (v.length+1):=by rw[List.length_drop,List.length_cons];omega
     rw[show p1++[y]++w=p1++(y::w) by simp,e6];generalize (y::w).take v.length=W at *;generalize (y::w)[v.length]=z at *;generalize (y::w).drop (v.length+1)=R at *;obtain⟨wl,x2,x1,f1,f2⟩:=last2 (l:=W) (m:=vl.length) (by omega);obtain⟨r,qh,g1,g2,g3,g4,g5,g6⟩:=Q7a (p:=p1) (w:=W) (rest:=R) (v:=v) (z:=z) hn hv f1 f2 hwv w1 w2 h3 (by rw[w4,w5];omega) (by rw[e8];omega);rw[if_pos (by omega),show((j+1:Nat):Int) - 1=(j:Int) by omega];rw[w64 (x:=(j:Int)+(v.length:Int)) (by omega) (by omega),show(j:Int)+(v.length:Int)=((j+vl.length+2:Nat):Int) by omega];rw[w64 (x:=((j+vl.length+2:Nat):Int) - 1) (by omega) (by omega),w64 (x:=((j+vl.length+2:Nat):Int) - 2) (by omega) (by omega),show((j+vl.length+2:Nat):Int) - 1=((j+vl.length+1:Nat):Int) by omega,show((j+vl.length+2:Nat):Int) - 2=((j+vl.length:Nat):Int) by omega];rw[w64 (x:=(v.length:Int) - 1) (by omega) (by omega),w64 (x:=(v.length:Int) - 2) (by omega) (by omega),show(v.length:Int) - 1=((vl.length+1:Nat):Int) by omega,show(v.length:Int) - 2=((vl.length:Nat):Int) by omega];have a1:getI (p1++(W++z::R)) ((j+vl.length+2:Nat):Int)=some z:=by
      rw[←List.append_assoc];exact W5 (by rw[List.length_append,w4];omega)
     have a2:getI (p1++(W++z::R)) ((j+vl.length+1:Nat):Int)=some x1:=by rw[f1,show p1++(wl++[x2,x1]++z::R)=(p1++wl++[x2])++x1::(z::R) by simp];exact W5 (by simp;omega)
     have a3:getI (p1++(W++z::R)) ((j+vl.length:Nat):Int)=some x2:=by rw[f1,show p1++(wl++[x2,x1]++z::R)=(p1++wl)++x2::(x1::z::R) by simp];exact W5 (by simp;omega)
     have a4:getI v ((vl.length+1:Nat):Int)=some v3:=by rw[hv,show vl++[v4,v3]=(vl++[v4])++v3::[] by simp];exact W5 (by simp)
     have a5:getI v ((vl.length:Nat):Int)=some v4:=by rw[hv];exact W5 rfl
     rw[a1,sbind,a2,sbind,a3,sbind,a4,sbind,a5,sbind,g1,sbind]
     have a6:∀(q':Nat),getI (List.replicate (j+1) 0++qs) (j:Int)=some 0∧(List.replicate (j+1) 0++qs).set (Int.toNat (j:Int)) q'=List.replicate j 0++q'::qs:=λq'=>by rw[List.replicate_succ',List.append_assoc,List.singleton_append];exact⟨W5 (by simp),Qah (by simp)⟩
     rw[e2,List.append_assoc] at g6;have hfin:∀ q',q'=val (W++[z]) / val v->∃ s',(some (Lp.go (p1++r++R,List.replicate j 0++q'::qs,wrap64 ((j:Int) - 1))):Option (Lp (List Nat×List Nat×Int) (List Nat×List Nat)))=some (Lp.go s')∧(∃(k:Nat) (p w qs:List Nat),s'.2.2=(k:Int) - 1∧k≤u.length - v.length∧s'.1=p++w∧p.length=k∧w.length=u.length - k∧Wd p∧Wd w∧val w<val v∧s'.2.1=List.replicate k 0++qs∧qs.length=u.length - v.length - k∧Wd qs∧val u=val p+bp k*(val w+val v*val qs))∧(s'.2.2+1).toNat<((j:Int)+1).toNat:=by
      intro q' hq';have hVp:0<val v:=by omega
      rw[w64 (by omega) (by omega)];refine⟨_,rfl,⟨j,p1,r++R,q'::qs,rfl,by omega,by rw[List.append_assoc],e2,by rw[List.length_append,g2,w5];omega,e3.1,K9.2 ⟨g3,w3⟩,?_,rfl,by rw[List.length_cons];omega,Vk.2 ⟨by omega,i11⟩,?_⟩,by simp only[];omega⟩
      . rw[Y6,e7,Nat.mul_zero,Nat.add_zero,g4];exact Nat.mod_lt _ hVp
      . rw[i12,Wk,e2,Xh,Y6,e7,Nat.mul_zero,Nat.add_zero]
        simp only[val];refine Ja1 _ _ _ _ _ _ _ _ _ e8 ?_;rw[g4,hq',Nat.mul_comm];exact Nat.mod_add_div _ _
     rcases g6 with ⟨t1,t2⟩ | ⟨r1,t1,t2,t3⟩
     . rw[t1,sbind]
       simp only[bifF];rw[(a6 qh).1,sbind,(a6 qh).2];exact hfin _ t2
     . rw[t1,sbind]
       simp only[bifT];rw[t2,sbind,(a6 ((qh+4294967296 - 1)%4294967296)).1,sbind,(a6 _).2];exact hfin _ t3
   . right
     obtain rfl:k=0:=by omega
     obtain rfl:p=[]:=List.eq_nil_of_length_eq_zero i4;rw[if_neg (by omega)];refine⟨_,rfl,by simp only[List.replicate_zero,List.nil_append];omega,by simpa using i11,by simp only[List.nil_append];omega,by simpa using i7,?_,by simpa using i8⟩;rw[i12,Qbs];simp[val];omega
theorem Je1{x:Nat}(h2:x<4294967296):blen x≤32:=by
 rcases Nat.lt_or_ge 32 (blen x) with h | h;have h0:x≠0:=by rintro rfl;rw[Qmq] at h;omega
 have g1:=Qqu h0;have g2:2 ^ 32≤2 ^ (blen x - 1):=Nat.pow_le_pow_right (by decide) (by omega);rw[show(2:Nat) ^ 32=4294967296 by decide] at g2;omega;exact h
theorem J9{a:List Nat}(hw:Wd a):(toL (val a)).length≤a.length:=by rw[Vp hw];exact Z9 a
theorem Qv1{v s:Nat}(hs:s≤32):(toL (v*2 ^ s)).length≤(toL v).length+1:=by refine Qbh ?_;have h1:=Zs (K0 v);rw[Jy] at h1;rw[Xh];exact Nat.lt_of_lt_of_le (Nat.mul_lt_mul_of_pos_right h1 (Nat.two_pow_pos s)) (Nat.mul_le_mul_left _ (Qr0 hs))
theorem len2{v:Nat}(h:4294967296≤v):∃ vl v4 v3,toL v=vl++[v4,v3]∧v3≠0:=by
 have h0:toL v≠[]:=by rw[Qa1 (by omega)];simp
 obtain⟨p,x,h1,h2,h3,h4⟩:=Qwp h0;rcases List.eq_nil_or_concat p with h5 | ⟨p',y,h5⟩;exfalso;have:=Jy v;rw[h1,h5] at this;simp[val] at this;omega;exact⟨p',y,x,by rw[h1,h5,List.concat_eq_append];simp,h2⟩
theorem Je2{v:Nat}(h:v≠0):bp ((toL v).length - 1)≤v:=by
 have h0:toL v≠[]:=by rw[Qa1 h];simp
 obtain⟨p,x,h1,h2,h3,h4⟩:=Qwp h0;have:=Jy v;rw[h1,Wk] at this;rw[h1,List.length_append,List.length_singleton,Nat.add_sub_cancel,←this];have:bp p.length*1≤bp p.length*x:=Nat.mul_le_mul_left _ (by omega);omega
theorem Qjk{n:Nat}{a b:List Nat}(hn:big≤n)(ha:a.length<4398046511104)(hb:b.length<4398046511104)(hwa:Wd a)(hwb:Wd b):
 Qdp n a b=some (if val b=0 then ([],[],false) else (toL (val a / val b),toL (val a%val b),true)):=by
 unfold Qdp;have hlb:=J9 hwb;have hla:=J9 hwa;rw[Wv hn (by omega),sbind,←Vp hwb,bifd];by_cases h0:val b=0;rw[h0,Wx,if_pos (by rfl),if_pos rfl];have hne:toL (val b)≠[]:=by rw[Qa1 h0];simp
 have hl0:(toL (val b)).length≠0:=λh=>hne (List.eq_nil_of_length_eq_zero h);rw[if_neg (by omega),if_neg h0,Qh0 hn (by omega) (by omega) hwa (K0 _),sbind,Jy,bifd];by_cases hlt:val a<val b;rw[if_pos (by rw[cmpI,if_pos hlt];decide),Wv hn (by omega),sbind,Nat.div_eq_of_lt hlt,Nat.mod_eq_of_lt hlt,Wx,Vp hwa];rw[if_neg (by rw[cmpI,if_neg hlt];split<;>decide),bifd];by_cases h1:(toL (val b)).length=1;rw[if_pos (by omega)];obtain⟨y,hy⟩:=List.length_eq_one_iff.1 h1;have hv:=Jy (val b);have hw:=K0 (val b);rw[hy] at hv hw;simp only[val,Nat.mul_zero,Nat.add_zero] at hv;have hyw:=(Vk.1 hw).1;rw[hy,show getI [y] (0:Int)=some y by rfl,sbind,Qzt hn (by omega) hwa (by omega) hyw,sbind];simp only[];have:=Nat.mod_lt (val a) (show y > 0 by omega);rw[Qet hn (by omega),sbind,←hv];rw[if_neg (by omega)];have hbig:4294967296≤val b:=by
  rcases Nat.lt_or_ge (val b) 4294967296 with h | h;have:=Qbh (n:=val b) (k:=1) (by rw[Xh,Qbs];omega);omega;exact h
 obtain⟨bl,b4,b3,e1,e2⟩:=len2 hbig;have hwb':=K0 (val b);have hb3:b3<4294967296:=by rw[e1] at hwb';exact(Vk.1 (Vk.1 (K9.1 hwb').2).2).1
 have hbl:(toL (val b)).length=bl.length+2:=by rw[e1];simp
 rw[w64 (x:=((toL (val b)).length:Int) - 1) (by omega) (by omega),show((toL (val b)).length:Int) - 1=((bl.length+1:Nat):Int) by omega];rw[show getI (toL (val b)) ((bl.length+1:Nat):Int)=some b3 by rw[e1,show bl++[b4,b3]=(bl++[b4])++b3::[] by simp];exact W5 (by simp),sbind,Qsl hn hb3,sbind];have hs:=Je1 hb3;rw[w64 (x:=(32:Int) - (blen b3:Int)) (by omega) (by omega),show(32:Int) - (blen b3:Int)=((32 - blen b3:Nat):Int) by omega];have hs':32 - blen b3≤32:=by omega
 generalize 32 - blen b3=s at *;have hS:=Nat.two_pow_pos s;rw[Qt6 hn (by omega) hwa (by omega),sbind];have l1:=Qv1 (v:=val a) hs';have l2:=Qv1 (v:=val b) hs';rw[Km (by simp;omega) (by simp;omega),sbind,Qt6 hn (by omega) hwb' (by omega),sbind,Jy];have hbs:val b≤val b*2 ^ s:=Nat.le_mul_of_pos_right _ hS;obtain⟨vl,v4,v3,f1,f2⟩:=len2 (v:=val b*2 ^ s) (by omega);have hab:val b*2 ^ s≤val a*2 ^ s:=Nat.mul_le_mul_right _ (by omega);have hll:=Y7 hab;have hge:=Je2 (v:=val b*2 ^ s) (by omega);have hvl:(toL (val b*2 ^ s)).length=vl.length+2:=by rw[f1];simp
 have hwu:Wd (toL (val a*2 ^ s)++[0]):=K9.2 ⟨K0 _,Vk.2 ⟨by omega,Y5⟩⟩
 obtain⟨⟨q,r⟩,g1,g2,g3,g4,g5,g6,g7⟩:=Qzz (u:=toL (val a*2 ^ s)++[0]) (v:=toL (val b*2 ^ s)) hn f1 f2 hwu (K0 _) (by simp;omega) (by simp;omega) (by
  rw[List.length_append,List.length_singleton,List.drop_append_of_le_length (by omega),Wk,Nat.mul_zero,Nat.add_zero,Jy];have:=Zs (Qnw (k:=(toL (val a*2 ^ s)).length+1 - (toL (val b*2 ^ s)).length) (K0 (val a*2 ^ s)));rw[List.length_drop] at this
  exact Nat.lt_of_lt_of_le this (Nat.le_trans (bp_le (by omega)) hge))
 simp only at g2 g3 g4 g5 g6 g7;rw[Wk,Nat.mul_zero,Nat.add_zero,Jy,Jy] at g6;rw[Jy] at g7;rw[List.length_append,List.length_singleton] at g2 g4;rw[g1,sbind];simp only[];rw[Wv hn (by omega),sbind,Qzw hn (by omega) g5 (by omega),sbind,←Vp g3];obtain⟨d1,d2⟩:=dm_of (U:=val a*2 ^ s) (V:=val b*2 ^ s) (q:=val q) (r:=val r) (by rw[g6,Nat.mul_comm (val q)];omega) g7;rw[Nat.mul_div_mul_right _ _ hS] at d1;rw[Nat.mul_mod_mul_right] at d2;rw[←d1,←d2,Nat.mul_div_cancel _ hS]
theorem Qvg{n x y:Nat}(hn:big≤n)(hy:y<18446744073709551616):Qfe n x y=some (Nat.gcd x y):=by unfold Qfe;unfold big at hn;refine Qhz (λs=>s.2) (λs=>s.2<18446744073709551616∧Nat.gcd s.1 s.2=Nat.gcd x y) (λt=>t=Nat.gcd x y) ⟨hy,rfl⟩ (by simp only[];omega) ?_ (λt ht=>by rw[ht]);rintro⟨u,v⟩ ⟨h1,h2⟩;simp only at h1 h2;simp only[bifnd];by_cases h0:v=0;right;rw[if_pos h0];exact⟨_,rfl,by rw[←h2,h0,Nat.gcd_zero_right]⟩;left;rw[if_neg h0,grd_t (by simp[h0]),sbind];have:=Nat.mod_lt u (show v > 0 by omega);exact⟨_,rfl,⟨by simp only[];omega,by rw[←h2,Nat.gcd_comm u v,Nat.gcd_rec v u,Nat.gcd_comm]⟩,this⟩
theorem Qx5{v:Nat}:Qhg (toL v)=some (decide (v=1)):=by
 unfold Qhg;simp only[jn_eq,bifd];by_cases h:(toL v).length=1;obtain⟨x,hx⟩:=List.length_eq_one_iff.1 h;have:=Jy v;rw[hx] at this;simp[val] at this;rw[hx,if_pos (by simp),show getI [x] (0:Int)=some x by rfl,sbind,this];rw[if_neg (by omega)];have:v≠1:=by rintro rfl;apply h;rw[Qa1 (by decide),show 1 / 4294967296=0 by decide,Wx];rfl
 rw[decide_eq_false this]
theorem Jcr{v k:Nat}(h:v<2 ^ k):blen v≤k:=by
 rcases Nat.lt_or_ge k (blen v) with h1 | h1;have h0:v≠0:=by rintro rfl;rw[Qmq] at h1;omega
 have g1:=Qqu h0;have g2:2 ^ k≤2 ^ (blen v - 1):=Nat.pow_le_pow_right (by decide) (by omega);omega;exact h1
theorem Jcs{r u:Nat}(h:2*r<u):blen r<blen u:=by
 have hu:=Qzv (x:=u);by_cases h0:r=0;subst h0;rw[Qmq];exact Qwo (by omega);have g1:=Qqu h0;have g2:=Qwo h0;have g3:2 ^ blen r=2 ^ (blen r - 1)*2:=by rw[←Nat.pow_succ,show(blen r - 1).succ=blen r by omega]
 have g4:2 ^ blen r<2 ^ blen u:=by omega
 exact(Nat.pow_lt_pow_iff_right (by decide)).1 g4
theorem Qr1{v:Nat}:blen v≤32*(toL v).length:=by refine Jcr ?_;rw[←Qt5];have:=Zs (K0 v);rwa [Jy] at this
theorem Ja2{u v:Nat}(h0:v≠0):blen v+blen (u%v)+(if v<u%v then 1 else 0)<blen u+blen v+(if u<v then 1 else 0):=by
 have hm:=Nat.mod_lt u (show v > 0 by omega);rw[if_neg (by omega)];by_cases h:u<v;rw[if_pos h,Nat.mod_eq_of_lt h];omega;rw[if_neg h];have h1:2*(u%v)<u:=by have e1:=Nat.div_add_mod u v;have e2:1≤u / v:=(Nat.le_div_iff_mul_le (by omega)).2 (by omega);have e3:v*1≤v*(u / v):=Nat.mul_le_mul_left _ e2;omega
 have:=Jcs h1;omega
theorem Qx6{n:Nat}{a b:List Nat}(hn:big≤n)(ha:a.length<4398046511104)(hb:b.length<4398046511104)(hwa:Wd a)(hwb:Wd b):Qhf n a b=some (toL (Nat.gcd (val a) (val b))):=by
 unfold Qhf;have hla:=J9 hwa;have hlb:=J9 hwb;rw[Wv hn (by omega),sbind,Wv hn (by omega),sbind,←Vp hwa,←Vp hwb];have hn':=hn;unfold big at hn'
 refine Qhz (λs=>blen (val s.1)+blen (val s.2)+(if val s.1<val s.2 then 1 else 0)) (λs=>∃ u v,s=(toL u,toL v)∧Nat.gcd u v=Nat.gcd (val a) (val b)∧(toL u).length<4398046511104∧(toL v).length<4398046511104)
  (λt=>∃ u v,t=(toL u,toL v)∧Nat.gcd u v=Nat.gcd (val a) (val b)∧(toL u).length<4398046511104∧(toL v).length≤2) ⟨val a,val b,rfl,rfl,by omega,by omega⟩ ?_ ?_ ?_
 simp only[Jy];have h1:=Qr1 (v:=val a);have h2:=Qr1 (v:=val b);split<;>omega;rintro s ⟨u,v,rfl,h2,h3,h4⟩;simp only[bifd,Jy];by_cases h0:2<(toL v).length;left;have hv0:v≠0:=by rintro rfl;rw[Wx] at h0;simp at h0
 rw[if_pos (by omega),Qjk hn h3 h4 (K0 _) (K0 _),sbind,Jy,Jy,if_neg hv0];refine⟨_,rfl,⟨v,u%v,rfl,?_,h4,?_⟩,?_⟩;rw[←h2,Nat.gcd_comm u v,Nat.gcd_rec v u,Nat.gcd_comm];exact Nat.lt_of_le_of_lt (Y7 (Nat.le_of_lt (Nat.mod_lt u (by omega)))) h4;simp only[Jy];exact Ja2 hv0;right;rw[if_neg (by omega)];exact⟨_,rfl,u,v,rfl,h2,h3,by omega⟩;rintro t ⟨u,v,rfl,h2,h3,h4⟩;simp only[bifd];by_cases h0:v=0;subst h0;rw[Wx,if_pos (by rfl),←h2,Nat.gcd_zero_right];have hne:(toL v).length≠0:=λh=>by rw[Qa1 h0] at h;simp at h
 have hv64:v<18446744073709551616:=by rcases Nat.lt_or_ge v 18446744073709551616 with h | h;exact h;have:=Q5x h;omega
 have hm:=Nat.mod_lt u (show v > 0 by omega);have hlm:=Y7 (Nat.le_of_lt hm);rw[if_neg (by omega),Qjk hn h3 (by omega) (K0 _) (K0 _),sbind,Jy,Jy,if_neg h0];simp only[];rw[Qqt hn (by omega) (K0 _),sbind,Qqt hn (by omega) (K0 _),sbind,Jy,Jy,if_pos hv64,if_pos (by omega)];simp only[];rw[Qvg hn (by omega),sbind,Qet hn (Nat.lt_of_le_of_lt (Nat.gcd_le_left _ (by omega)) hv64),sbind,←h2,Nat.gcd_comm u v,Nat.gcd_rec v u,Nat.gcd_comm]
theorem Qt8{n:Nat}{a b:List Nat}(hn:big≤n)(ha:a.length<4398046511104)(hb:b.length<4398046511104)(hwa:Wd a)(hwb:Wd b):
 Qdq n a b=some (toL (val a / Nat.gcd (val a) (val b)),toL (val b / Nat.gcd (val a) (val b))):=by
 unfold Qdq;rw[Qx6 hn ha hb hwa hwb,sbind,bifd];have hg1:Nat.gcd (val a) (val b) ∣ val a:=Nat.gcd_dvd_left _ _;have hg2:Nat.gcd (val a) (val b) ∣ val b:=Nat.gcd_dvd_right _ _;have hla:=J9 hwa;have hlb:=J9 hwb;have hgl:Nat.gcd (val a) (val b)=0∨(toL (Nat.gcd (val a) (val b))).length<4398046511104:=by by_cases h:val a=0;rw[h,Nat.gcd_zero_left];right;omega;right;exact Nat.lt_of_le_of_lt (Y7 (Nat.gcd_le_left _ (by omega))) (by omega)
 by_cases h0:Nat.gcd (val a) (val b)=0;rw[h0,Wx,if_pos (by rfl),Nat.div_zero,Nat.div_zero,Wx];have hne:(toL (Nat.gcd (val a) (val b))).length≠0:=λh=>by rw[Qa1 h0] at h;simp at h
 rw[if_neg (by omega),Qx5,sbind,bifd];by_cases h1:Nat.gcd (val a) (val b)=1;rw[if_pos h1,Wv hn (by omega),sbind,Wv hn (by omega),sbind,h1,Nat.div_one,Nat.div_one,Vp hwa,Vp hwb];have hgl:(toL (Nat.gcd (val a) (val b))).length<4398046511104:=by rcases hgl with h | h;exact absurd h h0;exact h
 rw[if_neg h1,Qjk hn ha hgl hwa (K0 _),sbind,Qjk hn hb hgl hwb (K0 _),sbind,Jy,if_neg h0,if_neg h0]
def wv(w:Qg):Int:=if w.Neg then -(val w.Az:Int) else (val w.Az:Int)
def toW(z:Int):Qg:=⟨decide (z<0),toL z.natAbs⟩
theorem Qcb(z:Int):wv (toW z)=z:=by unfold wv toW;simp only[decide_eq_true_eq,Jy];split<;>omega
theorem Qv2{v:Nat}:0<(toL v).length↔v≠0:=by constructor;rintro h rfl;rw[Wx] at h;simp at h;intro h;rw[Qa1 h];simp
theorem Yw{s:Bool}{v:Nat}:Ws s (toL v)=some (toW (if s then -(v:Int) else (v:Int))):=by unfold Ws toW;rw[jn_eq];cases s;rw[bifF];congr 2;rw[bifT];congr 2;exact decide_eq_decide.2 (by simp only[if_true];have:=@Qv2 v;omega);simp
def Ww(w:Qg):Prop:=Wd w.Az∧w.Az.length<4398046511104
theorem Qk7{n:Nat}{w:Qg}(hn:big≤n)(h:Ww w):Qao n w=some (toW (wv w)):=by unfold Qao;rw[Wv hn (by have:=h.2;omega),sbind,←Vp h.1,Yw,sbind];rfl
theorem Jct(s t:Bool)(x y:Nat):(if (s != t) then -((x*y:Nat):Int) else ((x*y:Nat):Int))=(if s then -(x:Int) else (x:Int))*(if t then -(y:Int) else (y:Int)):=by cases s<;>cases t<;>simp[Int.neg_mul,Int.mul_neg]
theorem Qqv{n:Nat}{w u:Qg}(hn:big≤n)(hw:Ww w)(hu:Ww u):Qgn n w u=some (toW (wv w*wv u)):=by unfold Qgn;rw[Qdf hn (by have:=hw.2;omega) (by have:=hu.2;omega) hw.1 hu.1,sbind,Yw,sbind,Jct];rfl
theorem Ja3{x y:Nat}:cmpI x y<0↔x<y:=by by_cases h:x<y;simp[cmpI,h];rw[cmpI,if_neg h];split<;>omega
theorem Qqw{n:Nat}{w u:Qg}(hn:big≤n)(hw:Ww w)(hu:Ww u):Qgp n w u=some (toW (wv w+wv u)):=by unfold Qgp;have l1:=hw.2;have l2:=hu.2;rw[Q3t hn (by omega) (by omega) hw.1 hu.1,sbind,Yw,sbind,Q3u hn (by omega) (by omega) hw.1 hu.1,sbind,bifd,Yw,sbind,Yw,sbind];unfold wv;rcases w with ⟨s,a⟩;rcases u with ⟨t,b⟩;simp only[];generalize val a=x;generalize val b=y;have hc:=@Ja3 x y;cases s<;>cases t<;>simp only[beq_self_eq_true,bifT,bifF,Bool.false_eq_true,if_true,if_false,show(false == true)=false by rfl,show(true == false)=false by rfl,hc];congr 2;split<;>congr 2<;>omega;split<;>congr 2<;>omega;congr 2;omega
theorem Qqx{n:Nat}{w:Qg}(hn:big≤n)(h:Ww w):Qgo n w=some (toW (-wv w)):=by unfold Qgo;rw[Wv hn (by have:=h.2;omega),sbind,←Vp h.1,Yw,sbind];unfold wv;cases w.Neg<;>simp
theorem Jcu(z:Int):(toW (-z)).Az=(toW z).Az:=by unfold toW;simp
theorem Qd6(z:Int):Wd (toW z).Az:=K0 _
theorem Qk8{n:Nat}{w:Qg}(hn:big≤n)(h:Ww w):Qbi n w=some (Int.sign (wv w)):=by unfold Qbi wv;rw[Qsi hn (by have:=h.2;omega) h.1,sbind,bifd];by_cases h0:val w.Az=0;rw[if_pos h0,h0];cases w.Neg<;>rfl;rw[if_neg h0];cases w.Neg;rw[bifF,if_neg (by decide),Int.sign_eq_one_of_pos (by omega)];rw[bifT,if_pos rfl,Int.sign_eq_neg_one_of_neg (by omega)]
theorem Qd7(w:Qg):(wv w).natAbs=val w.Az:=by unfold wv;split<;>omega
theorem Je3{w:Qg}(h:Ww w):Ww (toW (-wv w)):=by refine⟨Qd6 _,?_⟩;rw[Jcu];show(toL (wv w).natAbs).length<_;rw[Qd7];exact Nat.lt_of_le_of_lt (J9 h.1) h.2
theorem Qqy{n:Nat}{w u:Qg}(hn:big≤n)(hw:Ww w)(hu:Ww u):Qgq n w u=some (toW (wv w - wv u)):=by unfold Qgq;rw[Qqx hn hu,sbind,Qqw hn hw (Je3 hu),sbind,Qcb,Int.sub_eq_add_neg]
theorem Qz0{n:Nat}{w u:Qg}(hn:big≤n)(hw:Ww w)(hu:Ww u)(h:Ww (toW (wv w - wv u))):Qix n w u=some (Int.sign (wv w - wv u)):=by unfold Qix;rw[Qqy hn hw hu,sbind,Qk8 hn h,sbind,Qcb]
def fv(f:Qa):Rat:=mkRat (wv f.Num) (val f.Den)
def toF(q:Rat):Qa:=⟨toW q.num,toL q.den⟩
theorem Q1(q:Rat):fv (toF q)=q:=by unfold fv toF;rw[Qcb,Jy];exact Rat.mkRat_self q
theorem Qjl{z:Int}{d:Nat}(hd:d≠0):(mkRat z d).num=z / (Nat.gcd z.natAbs d:Int)∧(mkRat z d).den=d / Nat.gcd z.natAbs d:=by rw[←Rat.normalize_eq_mkRat hd,Rat.normalize_eq];exact⟨rfl,rfl⟩
theorem Jcv(s:Bool)(x g:Nat)(h:g ∣ x):(if s then -((x / g:Nat):Int) else ((x / g:Nat):Int))=(if s then -(x:Int) else (x:Int)) / (g:Int):=by cases s;simp;simp only[if_true];rw[Int.neg_ediv_of_dvd (Int.natCast_dvd_natCast.2 h)];simp
theorem Qc3{n:Nat}{w:Qg}{d:List Nat}(hn:big≤n)(hw:Ww w)(hd:Wd d)(hl:d.length<4398046511104)(h0:val d≠0):Ze n w d=some (toF (mkRat (wv w) (val d))):=by unfold Ze;have h1:=hw.2;have hg:Nat.gcd (val w.Az) (val d) ∣ val w.Az:=Nat.gcd_dvd_left _ _;have hlw:(toL (val w.Az / Nat.gcd (val w.Az) (val d))).length<4398046511104:=Nat.lt_of_le_of_lt (Nat.le_trans (Y7 (Nat.div_le_self _ _)) (J9 hw.1)) h1;rw[Qt8 hn h1 hl hw.1 hd,sbind,Qk7 hn ⟨K0 _,hlw⟩,sbind];obtain⟨e1,e2⟩:=Qjl (z:=wv w) h0;unfold toF;rw[e1,e2,Qd7];congr 2;unfold wv;rw[Jy];congr 1;exact Jcv _ _ _ hg
def Fw(f:Qa):Prop:=Ww f.Num∧Wd f.Den∧f.Den.length<4398046511104
theorem Qpe{n:Nat}{f:Qa}(hn:big≤n)(hf:Fw f):∃ p,V9 n f=some p∧Ww p.1∧Wd p.2∧p.2.length≤max 1 f.Den.length∧p.1.Az.length≤f.Num.Az.length∧val p.2≠0∧mkRat (wv p.1) (val p.2)=fv f:=by obtain⟨h1,h2,h3⟩:=hf;unfold V9 fv;rw[Qsi hn (by omega) h2,sbind,bifd];by_cases h0:val f.Den=0;rw[if_pos h0,Qet hn (by omega),sbind];refine⟨_,rfl,⟨Y5,by simp⟩,K0 _,?_,by simp,by simp only[Jy];decide,?_⟩;have:=Qbh (n:=1) (k:=1) (by rw[Xh,Qbs];omega);simp only[];omega;simp only[Jy,h0,Rat.mkRat_zero];rfl;rw[if_neg h0];exact⟨_,rfl,h1,h2,by simp only[];omega,Nat.le_refl _,h0,rfl⟩
theorem K8{n:Nat}{f:Qa}(hn:big≤n)(hf:Fw f):K4 n f=some (toF (fv f)):=by obtain⟨p,h1,h2,h3,h4,h5,h6,h7⟩:=Qpe hn hf;unfold K4;rw[h1,sbind,Qc3 hn h2 h3 (by have:=hf.2.2;omega) h6,sbind,h7]
theorem Qdg{x y:Nat}:(toL (x*y)).length≤(toL x).length+(toL y).length:=by refine Qbh ?_;have h1:=Zs (K0 x);have h2:=Zs (K0 y);rw[Jy] at h1 h2;rw[Jey];exact Nat.mul_lt_mul'' h1 h2
theorem Qux{x y k:Nat}(h1:(toL x).length≤k)(h2:(toL y).length≤k):(toL (x+y)).length≤k+1:=by refine Qbh ?_;have g1:=Zs (K0 x);have g2:=Zs (K0 y);rw[Jy] at g1 g2;have g3:=bp_le h1;have g4:=bp_le h2;rw[Xh];omega
theorem Qay{n:Nat}{w:Qg}{d:List Nat}(hn:big≤n)(hw:Ww w)(hd:Wd d)(hl:d.length<4398046511104):Za n w d=some (toW (wv w*(val d:Int))):=by unfold Za;rw[Qqv hn hw ⟨hd,hl⟩,sbind];rfl
def Fk(k:Nat)(f:Qa):Prop:=Wd f.Num.Az∧f.Num.Az.length≤k∧Wd f.Den∧f.Den.length≤k
theorem Fk_Fw{k:Nat}{f:Qa}(h:Fk k f)(hk:k<4398046511104):Fw f:=⟨⟨h.1,by have:=h.2.1;omega⟩,h.2.2.1,by have:=h.2.2.2;omega⟩
theorem Qfv{n k:Nat}{f:Qa}(hn:big≤n)(hf:Fk k f)(h1:1≤k)(hk:k<4398046511104):∃ w d,V9 n f=some (w,d)∧Wd w.Az∧w.Az.length≤k∧Wd d∧d.length≤k∧val d≠0∧mkRat (wv w) (val d)=fv f:=by obtain⟨⟨w,d⟩,h1,h2,h3,h4,h5,h6,h7⟩:=Qpe hn (Fk_Fw hf hk);exact⟨w,d,h1,h2.1,Nat.le_trans h5 hf.2.1,h3,by have:=hf.2.2.2;simp only at h4;omega,h6,h7⟩
theorem Qjr{w:Qg}{y k j:Nat}(h1:Wd w.Az)(h2:w.Az.length≤k)(h3:(toL y).length≤j):(toW (wv w*(y:Int))).Az.length≤k+j:=by unfold toW;simp only[];rw[Int.natAbs_mul,Qd7,Int.natAbs_natCast];have:=@Qdg (val w.Az) y;have:=J9 h1;omega
theorem Vd{n k:Nat}{f g:Qa}(hn:big≤n)(h1:1≤k)(hk:k<1099511627776)(hf:Fk k f)(hg:Fk k g):K1 n f g=some (toF (fv f+fv g)):=by
 obtain⟨w,d,a1,a2,a3,a4,a5,a6,a7⟩:=Qfv hn hf h1 (by omega);obtain⟨u,e,b1,b2,b3,b4,b5,b6,b7⟩:=Qfv hn hg h1 (by omega);have l1:=Qjr a2 a3 (Nat.le_trans (J9 b4) b5);have l2:=Qjr b2 b3 (Nat.le_trans (J9 a4) a5);unfold K1;rw[a1,sbind,b1,sbind,Qay hn ⟨a2,by omega⟩ b4 (by omega),sbind,Qay hn ⟨b2,by omega⟩ a4 (by omega),sbind,Qqw hn ⟨Qd6 _,by omega⟩ ⟨Qd6 _,by omega⟩,sbind,Qdf hn (by omega) (by omega) a4 b4,sbind];have l3:=@Qdg (val d) (val e);have l4:=J9 a4;have l5:=J9 b4;rw[Qcb,Qcb];have hs:(toW (wv w * ↑(val e)+wv u * ↑(val d))).Az.length≤2*k+1:=by
  unfold toW at l1 l2 ⊢;simp only[] at l1 l2 ⊢;have:=Int.natAbs_add_le (wv w * ↑(val e)) (wv u * ↑(val d));exact Nat.le_trans (Y7 this) (Qux (by omega) (by omega))
 rw[Qc3 hn ⟨Qd6 _,by omega⟩ (K0 _) (by omega) (by rw[Jy];exact Nat.mul_ne_zero a6 b6),sbind,Jy,Qcb,←a7,←b7,Rat.mkRat_add_mkRat _ _ a6 b6]
theorem Qjm{n k:Nat}{f g:Qa}(hn:big≤n)(h1:1≤k)(hk:k<1099511627776)(hf:Fk k f)(hg:Fk k g):Qdr n f g=some (toF (fv f - fv g)):=by
 obtain⟨w,d,a1,a2,a3,a4,a5,a6,a7⟩:=Qfv hn hf h1 (by omega);obtain⟨u,e,b1,b2,b3,b4,b5,b6,b7⟩:=Qfv hn hg h1 (by omega);have l1:=Qjr a2 a3 (Nat.le_trans (J9 b4) b5);have l2:=Qjr b2 b3 (Nat.le_trans (J9 a4) a5);unfold Qdr;rw[a1,sbind,b1,sbind,Qay hn ⟨a2,by omega⟩ b4 (by omega),sbind,Qay hn ⟨b2,by omega⟩ a4 (by omega),sbind,Qqy hn ⟨Qd6 _,by omega⟩ ⟨Qd6 _,by omega⟩,sbind,Qdf hn (by omega) (by omega) a4 b4,sbind];have l3:=@Qdg (val d) (val e);have l4:=J9 a4;have l5:=J9 b4;rw[Qcb,Qcb];have hs:(toW (wv w * ↑(val e) - wv u * ↑(val d))).Az.length≤2*k+1:=by
  unfold toW at l1 l2 ⊢;simp only[] at l1 l2 ⊢;have:=Int.natAbs_sub_le (wv w * ↑(val e)) (wv u * ↑(val d));exact Nat.le_trans (Y7 this) (Qux (by omega) (by omega))
 rw[Qc3 hn ⟨Qd6 _,by omega⟩ (K0 _) (by omega) (by rw[Jy];exact Nat.mul_ne_zero a6 b6),sbind,Jy,Qcb,←a7,←b7,Rat.sub_eq_add_neg,Rat.neg_mkRat,Rat.mkRat_add_mkRat _ _ a6 b6,Int.neg_mul,←Int.sub_eq_add_neg]
theorem V3{n k:Nat}{f g:Qa}(hn:big≤n)(h1:1≤k)(hk:k<1099511627776)(hf:Fk k f)(hg:Fk k g):Vi n f g=some (toF (fv f*fv g)):=by
 obtain⟨w,d,a1,a2,a3,a4,a5,a6,a7⟩:=Qfv hn hf h1 (by omega);obtain⟨u,e,b1,b2,b3,b4,b5,b6,b7⟩:=Qfv hn hg h1 (by omega);unfold Vi;rw[a1,sbind,b1,sbind,Qqv hn ⟨a2,by omega⟩ ⟨b2,by omega⟩,sbind,Qdf hn (by omega) (by omega) a4 b4,sbind];have l3:=@Qdg (val d) (val e);have l4:=J9 a4;have l5:=J9 b4;have hs:(toW (wv w*wv u)).Az.length≤2*k:=by unfold toW;simp only[];rw[Int.natAbs_mul,Qd7,Qd7];have g1:=@Qdg (val w.Az) (val u.Az);have g2:=J9 a2;have g3:=J9 b2;omega
 rw[Qc3 hn ⟨Qd6 _,by omega⟩ (K0 _) (by omega) (by rw[Jy];exact Nat.mul_ne_zero a6 b6),sbind,Jy,Qcb,←a7,←b7,Rat.mkRat_mul_mkRat]
theorem Jcw(q:Rat):toF (-q)=⟨toW (-q.num),toL q.den⟩:=rfl
theorem Je4{f:Qa}(hf:Fw f):Ww (toF (fv f)).Num:=by
 refine⟨Qd6 _,?_⟩;show(toL (fv f).num.natAbs).length<_;by_cases h0:val f.Den=0;unfold fv;rw[h0,Rat.mkRat_zero];simp[Wx];obtain⟨e1,_⟩:=Qjl (z:=wv f.Num) h0;unfold fv;rw[e1];have h1:(wv f.Num / (Nat.gcd (wv f.Num).natAbs (val f.Den):Int)).natAbs≤val f.Num.Az:=by rw[←Qd7];exact Int.natAbs_ediv_le_natAbs _ _
 exact Nat.lt_of_le_of_lt (Nat.le_trans (Y7 h1) (J9 hf.1.1)) hf.1.2
theorem Qdh{n:Nat}{f:Qa}(hn:big≤n)(hf:Fw f):Qbf n f=some (toF (-fv f)):=by unfold Qbf;have h:=Je4 hf;rw[K8 hn hf,sbind,Qqx hn h,sbind,Jcw];unfold toF;simp only[Qcb]
theorem Qqz{a b:Int}{d e:Nat}(hd:d≠0)(he:e≠0):Int.sign (a*(e:Int) - b*(d:Int))=Int.sign (mkRat a d - mkRat b e).num:=by rw[Rat.sub_eq_add_neg,Rat.neg_mkRat,Rat.mkRat_add_mkRat _ _ hd he,Int.neg_mul,←Int.sub_eq_add_neg];generalize a*(e:Int) - b*(d:Int)=z;have h0:d*e≠0:=Nat.mul_ne_zero hd he;obtain⟨e1,_⟩:=Qjl (z:=z) h0;rw[e1];have hg:(Nat.gcd z.natAbs (d*e):Int) ∣ z:=Int.dvd_natAbs.1 (Int.natCast_dvd_natCast.2 (Nat.gcd_dvd_left _ _));obtain⟨c,hc⟩:=hg;have hp:0<Nat.gcd z.natAbs (d*e):=Nat.gcd_pos_of_pos_right _ (by omega);generalize Nat.gcd z.natAbs (d*e)=g at *;subst hc;rw[Int.mul_ediv_cancel_left _ (by omega),Int.sign_mul,Int.sign_eq_one_of_pos (by omega),Int.one_mul]
theorem Qm9{n k:Nat}{f g:Qa}(hn:big≤n)(h1:1≤k)(hk:k<1099511627776)(hf:Fk k f)(hg:Fk k g):Qf2 n f g=some (Int.sign (fv f - fv g).num):=by
 obtain⟨w,d,a1,a2,a3,a4,a5,a6,a7⟩:=Qfv hn hf h1 (by omega);obtain⟨u,e,b1,b2,b3,b4,b5,b6,b7⟩:=Qfv hn hg h1 (by omega);have l1:=Qjr a2 a3 (Nat.le_trans (J9 b4) b5);have l2:=Qjr b2 b3 (Nat.le_trans (J9 a4) a5);have hs:(toW (wv w * ↑(val e) - wv u * ↑(val d))).Az.length≤2*k+1:=by unfold toW at l1 l2 ⊢;simp only[] at l1 l2 ⊢;have:=Int.natAbs_sub_le (wv w * ↑(val e)) (wv u * ↑(val d));exact Nat.le_trans (Y7 this) (Qux (by omega) (by omega))
 unfold Qf2;rw[a1,sbind,b1,sbind,Qay hn ⟨a2,by omega⟩ b4 (by omega),sbind,Qay hn ⟨b2,by omega⟩ a4 (by omega),sbind,Qz0 hn ⟨Qd6 _,by omega⟩ ⟨Qd6 _,by omega⟩ (by rw[Qcb,Qcb];exact⟨Qd6 _,by omega⟩),sbind,Qcb,Qcb,Qqz a6 b6,a7,b7]
def runG{α β τ:Type}(g:Nat->α->β->β ⊕ τ)(e:β->τ):List α->Nat->β->τ
 | [],_,b=>e b
 | x::xs,i,b=>match g i x b with
   | .inl b'=>runG g e xs (i+1) b'
   | .inr t=>t
def toLpp{β σ τ0 τ:Type}(mk:β->Nat->σ)(i:Nat):β ⊕ τ->Lp σ (Lp τ0 τ)
 | .inl b=>.go (mk b (i+1))
 | .inr t=>.out (.out t)
theorem Ja4{α β σ τ0 τ:Type}{f:σ->Option (Lp σ (Lp τ0 τ))}{k:τ0->Option τ}{s0:σ}(mk:β->Nat->σ)(g:Nat->α->β->β ⊕ τ)(e0:β->τ0)(e:β->τ)(I:Nat->β->Prop)(xs:List α)(b:β){n:Nat}
 (hb:∀ i x b,xs[i]?=some x->I i b->f (mk b i)=some (toLpp mk i (g i x b))∧∀ b',g i x b=.inl b'->I (i+1) b')
 (he:∀ b,I xs.length b->f (mk b xs.length)=some (.out (.go (e0 b)))) (hk:∀ b,I xs.length b->k (e0 b)=some (e b)) (h0:I 0 b) (hn:xs.length<n) (hs:s0=mk b 0:=by rfl) :
 (loopM f n s0).bind (lpK k)=some (runG g e xs 0 b):=by
 have key:∀(xs:List α) (j:Nat) (b:β) (n:Nat),
  (∀ i x b,xs[i]?=some x->I (j+i) b->f (mk b (j+i))=some (toLpp mk (j+i) (g (j+i) x b))∧∀ b',g (j+i) x b=.inl b'->I (j+i+1) b') →
  (∀ b,I (j+xs.length) b->f (mk b (j+xs.length))=some (.out (.go (e0 b))))->(∀ b,I (j+xs.length) b->k (e0 b)=some (e b))->I j b->xs.length<n->(loopM f n (mk b j)).bind (lpK k)=some (runG g e xs j b):=by
  intro xs
  induction xs with
  | nil=>
    intro j b n _ he hk h0 hn;simp only[List.length_nil,Nat.add_zero] at he hk;rw[Yh (he b h0) (by omega),Option.bind_some];exact hk b h0
  | cons x xs ih=>
    intro j b n hb he hk h0 hn;obtain⟨m,rfl⟩:∃ m,n=m+1:=⟨n - 1,by simp at hn;omega⟩
    obtain⟨h1,h2⟩:=hb 0 x b rfl h0;simp only[Nat.add_zero] at h1 h2;simp only[runG];cases hg:g j x b with
    | inl b'=>
      rw[hg] at h1;rw[Qfu h1];refine ih (j+1) b' m (λi y c hy hc=>?_) (λc hc=>?_) (λc hc=>?_) (h2 b' hg) (by simp at hn;omega);have:=hb (i+1) y c (by simpa using hy);rw[show j+(i+1)=j+1+i by omega] at this;exact this hc;have:=he c;rw[List.length_cons,show j+(xs.length+1)=j+1+xs.length by omega] at this;exact this hc;have:=hk c;rw[List.length_cons,show j+(xs.length+1)=j+1+xs.length by omega] at this;exact this hc
    | inr t=>rw[hg] at h1;rw[Yh h1 (by omega)];rfl
 rw[hs];exact key xs 0 b n (λi x c hx hc=>by rw[Nat.zero_add] at hc ⊢;exact hb i x c hx hc) (λc hc=>by rw[Nat.zero_add] at hc ⊢;exact he c hc) (λc hc=>hk c (by rwa [Nat.zero_add] at hc)) h0 hn
theorem Ki{α:Type}{l:List α}{i:Nat}{x:α}(h:l[i]?=some x):getI l (i:Int)=some x:=by rw[Qhy,h]
theorem Kh{α:Type}{l:List α}{i:Nat}{x:α}(h:l[i]?=some x):i<l.length:=by rcases Nat.lt_or_ge i l.length with h1 | h1;exact h1;rw[List.getElem?_eq_none h1] at h;cases h
theorem Jm{α:Type}{l:List α}{i:Nat}{x:α}(h:l[i]?=some x):x∈l:=List.mem_of_getElem? h
theorem w1{i:Nat}(h:i<9223372036854775807):wrap64 ((i:Int)+1)=((i+1:Nat):Int):=by rw[w64 (by omega) (by omega)];omega
theorem Q02{σ τ:Type}{f:σ->Option (Lp σ τ)}(F:Nat->σ){t:τ}:∀(N k n:Nat),(∀ i,i<N->f (F (k+i))=some (.go (F (k+i+1))))->f (F (k+N))=some (.out t)->N<n->loopM f n (F k)=some t
 | 0,k,n,_,he,hn=>Yh he (by omega)
 | N+1,k,n,hb,he,hn=>by
   obtain⟨m,rfl⟩:∃ m,n=m+1:=⟨n - 1,by omega⟩
   have h0:=hb 0 (by omega);simp only[Nat.add_zero] at h0;rw[Qfu h0];exact Q02 F N (k+1) m (λi hi=>by have:=hb (i+1) (by omega);rw[show k+(i+1)=k+1+i by omega] at this;exact this) (by rw[show k+1+N=k+(N+1) by omega];exact he) (by omega)
theorem Qh1{σ τ R:Type}{f:σ->Option (Lp σ τ)}{s:σ}{K:τ->Option R}{n:Nat}(F:Nat->σ)(N:Nat)(t:τ)(hb:∀ i,i<N->f (F i)=some (.go (F (i+1))))(he:f (F N)=some (.out t))(hn:N<n)(hs:s=F 0):(loopM f n s).bind K=K t:=by rw[hs,Q02 F (t:=t) N 0 n (λi hi=>by rw[Nat.zero_add];exact hb i hi) (by rw[Nat.zero_add];exact he) hn,Option.bind_some]
theorem Qx7{α σ τ:Type}{f:Nat->α->σ->Option (Lp σ τ)}(F:Nat->σ):∀(xs:List α) (k:Nat),(∀ i x,xs[i]?=some x->f (k+i) x (F (k+i))=some (.go (F (k+i+1))))->rangeL f xs k (F k)=some (.go (F (k+xs.length)))
 | [],_,_=>rfl
 | x::xs,k,hb=>by have h0:=hb 0 x rfl;simp only[Nat.add_zero] at h0;simp only[rangeL,h0,Option.bind_some];rw[Qx7 F xs (k+1) (λi y hy=>by have:=hb (i+1) y (by simpa using hy);rw[show k+(i+1)=k+1+i by omega] at this;exact this),List.length_cons,show k+1+xs.length=k+(xs.length+1) by omega]
theorem X2{α σ τ R:Type}{f:Nat->α->σ->Option (Lp σ τ)}{s:σ}{K:Lp σ τ->Option R}(F:Nat->σ)(xs:List α)(hb:∀ i x,xs[i]?=some x->f i x (F i)=some (.go (F (i+1))))(hs:s=F 0):(rangeL f xs 0 s).bind K=K (.go (F xs.length)):=by rw[hs,Qx7 F xs 0 (λi x hx=>by rw[Nat.zero_add];exact hb i x hx),Option.bind_some,Nat.zero_add]
theorem Qx8{α R:Type}{f:Nat->α->Unit->Option (Lp Unit R)}{r:R}(P:Nat->α->Prop):∀(xs:List α) (k:Nat),(∀ i x,xs[i]?=some x->(P (k+i) x->f (k+i) x ()=some (.go ()))∧(¬ P (k+i) x->f (k+i) x ()=some (.out r))) →
 ((∀ i x,xs[i]?=some x->P (k+i) x)->rangeL f xs k ()=some (.go ()))∧(¬(∀ i x,xs[i]?=some x->P (k+i) x)->rangeL f xs k ()=some (.out r))
 | [],k,_=>⟨λ_=>rfl,λh=>absurd (λi x hx=>by simp at hx) h⟩
 | x::xs,k,hb=>by
   obtain⟨h1,h2⟩:=hb 0 x rfl;simp only[Nat.add_zero] at h1 h2;obtain⟨g1,g2⟩:=Qx8 P xs (k+1) (λi y hy=>by have:=hb (i+1) y (by simpa using hy);rw[show k+(i+1)=k+1+i by omega] at this;exact this);by_cases hp:P k x;have e:(∀ i y,(x::xs)[i]?=some y->P (k+i) y)↔(∀ i y,xs[i]?=some y->P (k+1+i) y):=by
    constructor;intro h i y hy;have:=h (i+1) y (by simpa using hy);rw[show k+(i+1)=k+1+i by omega] at this;exact this;intro h i y hy;cases i with
    | zero=>simp at hy;subst hy;exact hp
    | succ i=>rw[show k+(i+1)=k+1+i by omega];exact h i y (by simpa using hy)
   rw[e];simp only[rangeL,h1 hp,Option.bind_some];exact⟨g1,g2⟩;refine⟨λh=>absurd (h 0 x rfl) hp,λ_=>?_⟩;simp only[rangeL,h2 hp,Option.bind_some]
open Classical in
theorem Yx{α R:Type}{f:Nat->α->Unit->Option (Lp Unit R)}{K:Unit->Option R}{r:R}(P:Nat->α->Prop)(xs:List α)
 (hb:∀ i x,xs[i]?=some x->(P i x->f i x ()=some (.go ()))∧(¬ P i x->f i x ()=some (.out r))) :
 (rangeL f xs 0 ()).bind (lpK K)=if (∀ i x,xs[i]?=some x->P i x) then K () else some r:=by
 obtain⟨g1,g2⟩:=Qx8 P xs 0 (λi x hx=>by rw[Nat.zero_add];exact hb i x hx);simp only[Nat.zero_add] at g1 g2;by_cases h:∀ i x,xs[i]?=some x->P i x;rw[if_pos h,g1 h,Option.bind_some,Wr];rw[if_neg h,g2 h,Option.bind_some,Qft]
theorem Q03{R:Type}{f:Int->Option (Lp Int (Lp Unit R))}{r:R}(P:Nat->Prop):∀(N k n:Nat),(∀ i,i<k+N->k≤i->(P i->f (i:Int)=some (.go ((i+1:Nat):Int)))∧(¬ P i->f (i:Int)=some (.out (.out r))))->f ((k+N:Nat):Int)=some (.out (.go ()))->N<n →
 ((∀ i,k≤i->i<k+N->P i)->loopM f n (k:Int)=some (.go ()))∧(¬(∀ i,k≤i->i<k+N->P i)->loopM f n (k:Int)=some (.out r))
 | 0,k,n,_,he,hn=>⟨λ_=>Yh he (by omega),λh=>absurd (λi h1 h2=>by omega) h⟩
 | N+1,k,n,hb,he,hn=>by
   obtain⟨m,rfl⟩:∃ m,n=m+1:=⟨n - 1,by omega⟩
   obtain⟨h1,h2⟩:=hb k (by omega) (Nat.le_refl _);obtain⟨g1,g2⟩:=Q03 P N (k+1) m (λi hi hk=>hb i (by omega) (by omega)) (by rw[show k+1+N=k+(N+1) by omega];exact he) (by omega);by_cases hp:P k;have e:(∀ i,k≤i->i<k+(N+1)->P i)↔(∀ i,k+1≤i->i<k+1+N->P i):=by constructor;intro h i a b;exact h i (by omega) (by omega);intro h i a b;rcases Nat.eq_or_lt_of_le a with c | c;exact c ▸ hp;exact h i c (by omega)
   rw[e,Qfu (h1 hp)];exact⟨g1,g2⟩;exact⟨λh=>absurd (h k (Nat.le_refl _) (by omega)) hp,λ_=>Yh (h2 hp) (by omega)⟩
open Classical in
theorem Qom{R:Type}{f:Int->Option (Lp Int (Lp Unit R))}{K:Unit->Option R}{r:R}{n:Nat}(P:Nat->Prop)(N:Nat)
 (hb:∀ i,i<N->(P i->f (i:Int)=some (.go ((i+1:Nat):Int)))∧(¬ P i->f (i:Int)=some (.out (.out r)))) (he:f (N:Int)=some (.out (.go ()))) (hn:N<n) :
 (loopM f n 0).bind (lpK K)=if (∀ i,i<N->P i) then K () else some r:=by
 obtain⟨g1,g2⟩:=Q03 (n:=n) (r:=r) P N 0 (λi hi _=>hb i (by omega)) (by rw[Nat.zero_add];exact he) hn;simp only[Nat.zero_add,Nat.zero_le,true_implies] at g1 g2;by_cases h:∀ i,i<N->P i;rw[if_pos h];have:=g1 h;rw[show((0:Nat):Int)=0 from rfl] at this;rw[this,Option.bind_some,Wr];rw[if_neg h];have:=g2 h;rw[show((0:Nat):Int)=0 from rfl] at this;rw[this,Option.bind_some,Qft]
theorem Qae{α β:Type}(h:α->β){l:List α}{i:Nat}{x:α}(hx:l[i]?=some x):(l.take (i+1)).map h=(l.take i).map h++[h x]:=by
 rw[List.take_succ_eq_append_getElem (Kh hx),List.map_append];have:l[i]'(Kh hx)=x:=by have:=List.getElem?_eq_getElem (Kh hx);rw[this] at hx;exact Option.some.inj hx
 simp[this]
theorem Qz1:∀ {a b:List Nat},Wd a->Wd b->a.length=b.length->val a=val b->a=b
 | [],[],_,_,_,_=>rfl
 | [],_::_,_,_,h,_=>by simp at h
 | _::_,[],_,_,h,_=>by simp at h
 | x::a,y::b,ha,hb,hl,hv=>by
   obtain⟨h1,h2⟩:=Vk.1 ha;obtain⟨h3,h4⟩:=Vk.1 hb;simp only[val] at hv;have:x=y:=by omega
   subst this;rw[Qz1 h2 h4 (by simpa using hl) (by omega)]
theorem Qpf{x y:Nat}:cmpI x y=0↔x=y:=by unfold cmpI;split;constructor<;>intro h<;>omega;split;constructor<;>intro h<;>omega;constructor<;>intro h<;>omega
open Classical in
theorem Qk9{n:Nat}{f:Qa}(hn:big≤n)(hf:Fw f):Xq n f=some (decide (f=toF (fv f))):=by
 unfold Xq;rw[K8 hn hf,sbind,jn_eq];have w1:Wd (toF (fv f)).Num.Az:=K0 _;have w2:Wd (toF (fv f)).Den:=K0 _;generalize toF (fv f)=g at *;obtain⟨⟨h1,h2⟩,h3,h4⟩:=hf;obtain⟨⟨s,a⟩,d⟩:=f;obtain⟨⟨t,b⟩,e⟩:=g;simp only at h1 h2 h3 h4 w1 w2 ⊢;have hno:∀ {P:Prop},(P->False)->(some false:Option Bool)=some (decide P):=λh=>by rw[decide_eq_false h]
 by_cases c1:s=t;subst c1;rw[show(s == s)=true by simp,bifT];by_cases c2:(a.length:Int)=(b.length:Int)
 rw[decide_eq_true c2,bifT];by_cases c3:(d.length:Int)=(e.length:Int)
 rw[decide_eq_true c3,bifT,Qh0 hn (by omega) (by omega) h1 w1,sbind];by_cases c4:val a=val b;rw[decide_eq_true (Qpf.2 c4),bifT,Qh0 hn (by omega) (by omega) h3 w2,sbind];by_cases c5:val d=val e;rw[decide_eq_true (Qpf.2 c5),Qz1 h1 w1 (by omega) c4,Qz1 h3 w2 (by omega) c5,decide_eq_true rfl];rw[decide_eq_false λh=>c5 (Qpf.1 h)];exact hno λh=>by cases h;exact c5 rfl
 rw[decide_eq_false λh=>c4 (Qpf.1 h),bifF];exact hno λh=>by cases h;exact c4 rfl
 rw[decide_eq_false c3,bifF];exact hno λh=>by cases h;exact c3 rfl
 rw[decide_eq_false c2,bifF];exact hno λh=>by cases h;exact c2 rfl
 rw[show(s == t)=false by simpa using c1,bifF];exact hno λh=>by cases h;exact c1 rfl
def qw(q:Rat):Nat:=max (toL q.num.natAbs).length (toL q.den).length
theorem Vq{j k:Nat}{f:Qa}(h:Fk j f)(hk:j≤k):Fk k f:=⟨h.1,by have:=h.2.1;omega,h.2.2.1,by have:=h.2.2.2;omega⟩
theorem Q6{q:Rat}{k:Nat}(h:qw q≤k):Fk k (toF q):=by unfold qw at h;exact⟨Qd6 _,by show(toL q.num.natAbs).length≤k;omega,K0 _,by show(toL q.den).length≤k;omega⟩
theorem toL1:(toL 1).length=1:=by rw[Qa1 (by decide)];simp[Wx]
theorem Qwq{z:Int}{d k:Nat}(hd:d≠0)(h1:(toL z.natAbs).length≤k)(h2:(toL d).length≤k):qw (mkRat z d)≤k:=by obtain⟨e1,e2⟩:=Qjl (z:=z) hd;unfold qw;rw[e1,e2];have g1:=Y7 (Int.natAbs_ediv_le_natAbs z (Nat.gcd z.natAbs d:Int));have g2:=Y7 (Nat.div_le_self d (Nat.gcd z.natAbs d));omega
theorem Zn:qw 0=1:=by unfold qw;rw[show(0:Rat).num=0 from rfl,show(0:Rat).den=1 from rfl,toL1];simp[Wx]
theorem Je5(q:Rat):1≤qw q:=by have:=(Qv2 (v:=q.den)).2 q.den_nz;unfold qw;omega
theorem qw_fv{f:Qa}{k:Nat}(h:Fk k f)(h1:1≤k):qw (fv f)≤k:=by unfold fv;by_cases h0:val f.Den=0;rw[h0,Rat.mkRat_zero,Zn];exact h1;refine Qwq h0 ?_ ?_;rw[Qd7];exact Nat.le_trans (J9 h.1) h.2.1;exact Nat.le_trans (J9 h.2.2.1) h.2.2.2
theorem Qt9(q:Rat):(toL q.num.natAbs).length≤qw q:=by unfold qw;omega
theorem Qua(q:Rat):(toL q.den).length≤qw q:=by unfold qw;omega
theorem X3{a b:Rat}{j k:Nat}(ha:qw a≤j)(hb:qw b≤k):qw (a*b)≤j+k:=by rw[←Rat.mkRat_self a,←Rat.mkRat_self b,Rat.mkRat_mul_mkRat];have n1:=Qt9 a;have n2:=Qt9 b;have d1:=Qua a;have d2:=Qua b;have:=@Qdg a.num.natAbs b.num.natAbs;have:=@Qdg a.den b.den;exact Qwq (Nat.mul_ne_zero a.den_nz b.den_nz) (by rw[Int.natAbs_mul];omega) (by omega)
theorem Yl{a b:Rat}{j k:Nat}(ha:qw a≤j)(hb:qw b≤k):qw (a+b)≤j+k+1:=by rw[←Rat.mkRat_self a,←Rat.mkRat_self b,Rat.mkRat_add_mkRat _ _ a.den_nz b.den_nz];have n1:=Qt9 a;have n2:=Qt9 b;have d1:=Qua a;have d2:=Qua b;have m1:=@Qdg a.num.natAbs b.den;have m2:=@Qdg b.num.natAbs a.den;have m3:=@Qdg a.den b.den;refine Qwq (Nat.mul_ne_zero a.den_nz b.den_nz) ?_ (by omega);refine Nat.le_trans (Y7 (Int.natAbs_add_le _ _)) ?_;rw[Int.natAbs_mul,Int.natAbs_mul,Int.natAbs_natCast,Int.natAbs_natCast];exact Qux (by omega) (by omega)
theorem Quy(a:Rat):(-a).num=-a.num:=rfl
theorem Q53(a:Rat):(-a).den=a.den:=rfl
theorem Qmr(a:Rat):qw (-a)=qw a:=by unfold qw;rw[Quy,Q53,Int.natAbs_neg]
theorem Qx9{a b:Rat}{j k:Nat}(ha:qw a≤j)(hb:qw b≤k):qw (a - b)≤j+k+1:=by rw[Rat.sub_eq_add_neg];exact Yl ha (by rw[Qmr];exact hb)
theorem Q9b{a:Rat}{j:Nat}(ha:qw a≤j):qw a⁻¹≤j:=by
 have n1:=Qt9 a;have d1:=Qua a;have p:=Je5 a;unfold qw;rw[Rat.num_inv,Rat.den_inv];have h1:(toL (a.num.sign*(a.den:Int)).natAbs).length≤j:=by
  rw[Int.natAbs_mul,Int.natAbs_natCast];refine Nat.le_trans (Y7 (y:=a.den) ?_) (by omega);have:a.num.sign.natAbs≤1:=by rw[Int.natAbs_sign];split<;>omega
  calc a.num.sign.natAbs*a.den≤1*a.den:=Nat.mul_le_mul_right _ this
   _=a.den:=Nat.one_mul _
 have h2:(toL (if a.num=0 then 1 else a.num.natAbs)).length≤j:=by
  split
  . rw[toL1];omega
  . omega
 omega
theorem Qq0{a b:Rat}{j k:Nat}(ha:qw a≤j)(hb:qw b≤k):qw (a / b)≤j+k:=by rw[Rat.div_def];exact X3 ha (Q9b hb)
theorem Q9c{a:Rat}{j:Nat}(ha:qw a≤j):∀ n:Nat,qw (a ^ n)≤n*j+1
 | 0=>by rw[Rat.pow_zero];unfold qw;rw[show(1:Rat).num=1 from rfl,show(1:Rat).den=1 from rfl,show(1:Int).natAbs=1 from rfl,toL1];omega
 | n+1=>by have:=X3 (Q9c ha n) ha;rw[Rat.pow_succ,Nat.succ_mul];omega
theorem Jcx(x:Int):toF (x:Rat)=⟨toW x,toL 1⟩:=by unfold toF;rw[Rat.num_intCast,Rat.den_intCast]
theorem Q1y{n:Nat}{x:Int}(hn:big≤n)(h1:-9223372036854775808≤x)(h2:x≤9223372036854775807):Qkd n x=some (toW x):=by
 unfold Qkd;rw[bifd];split;rename_i h;have e:(18446744073709551616 - Int.toNat (x%18446744073709551616))%18446744073709551616=x.natAbs:=by omega
 rw[sbind,e,Qet hn (by omega),sbind,Yw,sbind,if_pos rfl,show -((x.natAbs:Nat):Int)=x by omega];rename_i h;have e:Int.toNat (x%18446744073709551616)=x.natAbs:=by omega
 rw[e,Qet hn (by omega),sbind,Yw,sbind,if_neg (by decide),show((x.natAbs:Nat):Int)=x by omega]
theorem Qh2{n:Nat}{x:Int}(hn:big≤n)(h1:-9223372036854775808≤x)(h2:x≤9223372036854775807):Jp n x=some (toF (x:Rat)):=by unfold Jp;rw[Q1y hn h1 h2,sbind,Qet hn (by decide),sbind,Jcx]
theorem Wu{n:Nat}(hn:big≤n):Jp n 0=some (toF 0):=Qh2 hn (by decide) (by decide)
theorem Qb2{n:Nat}(hn:big≤n):Jp n 1=some (toF 1):=Qh2 hn (by decide) (by decide)
theorem Q7b{z:Int}{d:Nat}(hd:d≠0):(mkRat z d).num.sign=z.sign:=by have:=Qqz (a:=z) (b:=0) hd (e:=1) (by decide);rw[Rat.zero_mkRat,show mkRat z d - 0=mkRat z d by rw[Rat.sub_eq_add_neg,show(-0:Rat)=0 from rfl,Rat.add_zero]] at this;rw[←this];simp
theorem Qan{n k:Nat}{f:Qa}(hn:big≤n)(h1:1≤k)(hk:k<1099511627776)(hf:Fk k f):Yq n f=some (fv f).num.sign:=by obtain⟨w,d,a1,a2,a3,a4,a5,a6,a7⟩:=Qfv hn hf h1 (by omega);unfold Yq;rw[a1,sbind,Qk8 hn ⟨a2,by omega⟩,sbind,←a7,Q7b a6]
theorem Q3w{a b:Rat}:(a - b).num=0↔a=b:=by rw[Rat.num_eq_zero];grind
theorem Qcv{n k:Nat}{f g:Qa}(hn:big≤n)(h1:1≤k)(hk:k<1099511627776)(hf:Fk k f)(hg:Fk k g):Xz n f g=some (decide (fv f=fv g)):=by unfold Xz;rw[Qm9 hn h1 hk hf hg,sbind];refine congrArg some (decide_eq_decide.2 ?_);rw[Int.sign_eq_zero_iff_zero,Q3w]
def qz(q:Rat):Nat:=blen q.num.natAbs+blen q.den
theorem Qz2{n k:Nat}{f:Qa}(hn:big≤n)(hk:k<1099511627776)(hf:Fk k f):Yp n f=some ((blen (val f.Num.Az)+blen (val f.Den):Nat):Int):=by unfold Yp;obtain⟨h1,h2,h3,h4⟩:=hf;have b1:=@Qr1 (val f.Num.Az);have b2:=@Qr1 (val f.Den);have b3:=J9 h1;have b4:=J9 h3;rw[Qsm hn (by omega) h1,sbind,Qsm hn (by omega) h3,sbind,w64 (by omega) (by omega)];rfl
theorem Qpg{n:Nat}{q:Rat}(hn:big≤n)(hk:qw q<1099511627776):Yp n (toF q)=some (qz q:Int):=by rw[Qz2 hn hk (Q6 (Nat.le_refl _))];unfold qz toF toW;simp only[Jy]
theorem Qya{v b:Nat}(h:blen v≤b):(toL v).length≤b / 32+1:=by refine Qbh ?_;have h1:=@Qzv v;rw[Qt5];exact Nat.lt_of_lt_of_le h1 (Nat.pow_le_pow_right (by decide) (by omega))
theorem qw_qz{q:Rat}{b:Nat}(h:qz q≤b):qw q≤b / 32+1:=by unfold qz at h;have h1:=@Qya q.num.natAbs b (by omega);have h2:=@Qya q.den b (by omega);unfold qw;omega
theorem Jcy:∀ {u:Qg},wv u≠0->(wv u).sign=if u.Neg then -1 else 1
 | ⟨false,a⟩,h=>by have e:wv ⟨false,a⟩=(val a:Int):=rfl;rw[e] at h ⊢;rw[Int.sign_eq_one_of_pos (by omega)];rfl
 | ⟨true,a⟩,h=>by have e:wv ⟨true,a⟩=-(val a:Int):=rfl;rw[e] at h ⊢;rw[Int.sign_eq_neg_one_of_neg (by omega)];rfl
theorem Q9d{z:Int}{d:Nat}(hz:z≠0)(hd:d≠0):(mkRat z d)⁻¹=mkRat (z.sign*(d:Int)) z.natAbs:=by
 have h0:mkRat z d≠0:=λh=>hz ((Rat.mkRat_eq_zero hd).1 h);have h1:mkRat z d*mkRat (z.sign*(d:Int)) z.natAbs=1:=by rw[Rat.mkRat_mul_mkRat,←Int.mul_assoc,Int.mul_sign_self,show(1:Rat)=mkRat 1 1 from rfl,Rat.mkRat_eq_iff (Nat.mul_ne_zero hd (by omega)) (by decide)];simp[Int.mul_comm]
 grind
theorem Qdi{n k:Nat}{f g:Qa}(hn:big≤n)(h1:1≤k)(hk:k<1099511627776)(hf:Fk k f)(hg:Fk k g):Zk n f g=some (if fv g=0 then (toF 0,false) else (toF (fv f / fv g),true)):=by
 obtain⟨w,d,a1,a2,a3,a4,a5,a6,a7⟩:=Qfv hn hf h1 (by omega);obtain⟨u,e,b1,b2,b3,b4,b5,b6,b7⟩:=Qfv hn hg h1 (by omega);unfold Zk;rw[a1,sbind,b1,sbind,Qk8 hn ⟨b2,by omega⟩,sbind,bifd];have hz:(wv u).sign=0↔fv g=0:=by rw[←b7,Rat.mkRat_eq_zero b6,Int.sign_eq_zero_iff_zero]
 by_cases h0:fv g=0;rw[if_pos (hz.2 h0),if_pos h0,Wu hn,sbind];rw[if_neg (λh=>h0 (hz.1 h)),if_neg h0,Qay hn ⟨a2,by omega⟩ b4 (by omega),sbind,Qdf hn (by omega) (by omega) a4 b2,sbind];have l1:=Qjr a2 a3 (Nat.le_trans (J9 b4) b5);have l3:=@Qdg (val d) (val u.Az);have l4:=J9 a4;have l5:=J9 b2;have hu0:wv u≠0:=λh=>h0 (by rw[←b7,h,Rat.zero_mkRat]);have hv0:val u.Az≠0:=by rw[←Qd7];omega
 rw[Qc3 (w:=⟨(toW (wv w * ↑(val e))).Neg != u.Neg,(toW (wv w * ↑(val e))).Az⟩) hn ⟨Qd6 (wv w * ↑(val e)),by show(toW (wv w * ↑(val e))).Az.length<_;omega⟩ (K0 _) (by omega) (by rw[Jy];exact Nat.mul_ne_zero a6 hv0),sbind,Jy];refine congrArg some (Prod.ext ?_ rfl);refine congrArg toF ?_;have e1:wv (⟨((toW (wv w * ↑(val e))).Neg != u.Neg),(toW (wv w * ↑(val e))).Az⟩:Qg)=(wv w*(val e:Int))*(wv u).sign:=by
  have t:=Qcb (wv w * ↑(val e));generalize toW (wv w * ↑(val e))=x at t ⊢;rw[←t];have hs:=Jcy hu0;rw[hs];unfold wv;cases x.Neg<;>cases u.Neg<;>simp
 rw[e1,←a7,←b7,Rat.div_def];have e2:=Q9d hu0 b6;rw[Qd7] at e2;rw[e2,Rat.mkRat_mul_mkRat];congr 1;rw[Int.mul_assoc,Int.mul_comm (val e:Int)]
theorem Quz{v j:Nat}(h:(toL v).length≤j):∀ t,(toL (v ^ t)).length≤t*j+1
 | 0=>by rw[Nat.pow_zero,toL1];omega
 | t+1=>by have:=Quz h t;have:=@Qdg (v ^ t) v;rw[Nat.pow_succ,Nat.succ_mul];omega
theorem Qph{n j t:Nat}{a:List Nat}(hn:big≤n)(ha:Wd a)(hl:a.length≤j)(hj:j<1099511627776)(ht:t≤7+1):Qfh n a (t:Int)=some (toL (val a ^ t)):=by unfold Qfh;rw[Qet hn (by decide),sbind];rw[Qh1 (λi=>(toL (val a ^ i),(i:Int))) t (toL (val a ^ t))];intro i hi;have h1:=Quz (Nat.le_trans (J9 ha) hl) i;have h2:i*j≤8*j:=Nat.mul_le_mul_right _ (by omega);simp only[bifd];rw[if_pos (by omega),Qdf hn (by omega) (by omega) (K0 _) ha,sbind,Jy,w1 (by omega),Nat.pow_succ];simp only[bifd];rw[if_neg (by omega)];unfold big at hn;omega;rfl
theorem Q54(z:Int)(t:Nat):(if (decide (z<0) && decide (t%2=1))=true then -((z.natAbs ^ t:Nat):Int) else ((z.natAbs ^ t:Nat):Int))=z ^ t:=by
 rw[Int.natCast_pow];by_cases hz:z<0;have e:(z.natAbs:Int)=-z:=by omega
 rw[e,decide_eq_true hz,Bool.true_and];rcases Nat.mod_two_eq_zero_or_one t with h | h;rw[if_neg (by rw[h];decide)];obtain⟨m,rfl⟩:∃ m,t=2*m:=⟨t / 2,by omega⟩
 rw[Int.pow_mul,Int.pow_mul];congr 1;rw[Int.pow_succ,Int.pow_succ,Int.pow_succ,Int.pow_succ];simp[Int.neg_mul_neg];rw[if_pos (by rw[h];decide)];obtain⟨m,rfl⟩:∃ m,t=2*m+1:=⟨t / 2,by omega⟩
 rw[Int.pow_succ,Int.pow_succ,Int.pow_mul,Int.pow_mul];have:(-z) ^ 2=z ^ 2:=by rw[Int.pow_succ,Int.pow_succ,Int.pow_succ,Int.pow_succ];simp[Int.neg_mul_neg]
 rw[this,Int.mul_neg,Int.neg_neg];have e:(z.natAbs:Int)=z:=by omega
 rw[decide_eq_false hz,Bool.false_and,if_neg (by decide),e]
theorem Qjn{n k:Nat}{f:Qa}{e:Int}(hn:big≤n)(h1:1≤k)(hk:k<1099511627)(hf:Fk k f):
 Qdt n f e=some (if e < -8∨8<e∨(e<0∧fv f=0) then (toF 0,false) else (toF (fv f ^ e),true)):=by
 unfold Qdt;simp only[jn_eq];by_cases c1:e < -8;rw[decide_eq_true c1,bifT,bifT,Wu hn,sbind,if_pos (.inl c1)];rw[decide_eq_false c1,bifF];by_cases c2:8<e;rw[decide_eq_true c2,bifT,bifT,Wu hn,sbind,if_pos (.inr (.inl c2))];rw[decide_eq_false c2,bifF];have hS:=Qan hn h1 (by omega) hf;have hq:=qw_fv hf h1;have hF:Fk k (toF (fv f)):=Q6 hq;obtain⟨g1,g2,g3,g4⟩:=hF;have hN:=K8 hn (Fk_Fw hf (by omega));have ht:max e (wrap64 (-e))=((e.natAbs:Nat):Int):=by rw[w64 (by omega) (by omega)];omega
 have p1:=Qph (t:=e.natAbs) hn g1 g2 (by omega) (by omega);have p2:=Qph (t:=e.natAbs) hn g3 g4 (by omega) (by omega);have l1:=Quz (Nat.le_trans (J9 g1) g2) e.natAbs;have l2:=Quz (Nat.le_trans (J9 g3) g4) e.natAbs;have l3:e.natAbs*k≤8*k:=Nat.mul_le_mul_right _ (by omega);have hmod:decide (Int.tmod ((e.natAbs:Nat):Int) 2=1)=decide (e.natAbs%2=1):=by refine decide_eq_decide.2 ?_;rw[Int.tmod_eq_emod_of_nonneg (by omega)];omega
 have v1:val (toF (fv f)).Num.Az=(fv f).num.natAbs:=Jy _;have v2:val (toF (fv f)).Den=(fv f).den:=Jy _;have v3:(toF (fv f)).Num.Neg=decide ((fv f).num<0):=rfl;rw[v1] at p1 l1;rw[v2] at p2 l2
 have fin:∀(u d:Nat),(toL u).length≤8*k+1->(if (toF (fv f)).Num.Neg=true then (Qao n (⟨decide (Int.tmod (max e (wrap64 (-e))) 2=1),toL u⟩:Qg)).bind λr26=>some ((⟨r26,toL d⟩:Qa),true) else (Qao n (⟨false,toL u⟩:Qg)).bind λr28=>some ((⟨r28,toL d⟩:Qa),true)) =
  some (⟨toW (if (decide ((fv f).num<0) && decide (e.natAbs%2=1))=true then -(u:Int) else (u:Int)),toL d⟩,true):=by
  intro u d hu;rw[ht,hmod,v3];by_cases hz:(fv f).num<0;rw[if_pos (decide_eq_true hz),Qk7 hn ⟨K0 _,by show(toL u).length<_;omega⟩,sbind,decide_eq_true hz,Bool.true_and];unfold wv;simp only[Jy];rw[if_neg (by rw[decide_eq_false hz];decide),Qk7 hn ⟨K0 _,by show(toL u).length<_;omega⟩,sbind,decide_eq_false hz,Bool.false_and];unfold wv;simp only[Jy]
 have bifi:∀ {α:Type}(b:Bool) (x y:α),(bif b then x else y)=if b=true then x else y:=λb x y=>by cases b<;>rfl
 by_cases c3:e<0;rw[decide_eq_true c3,bifT,hS,sbind];by_cases c4:fv f=0;rw[c4,show((0:Rat).num.sign)=0 from rfl,decide_eq_true rfl,bifT,Wu hn,sbind,if_pos (.inr (.inr ⟨c3,c4 ▸ rfl⟩))];have hn0:(fv f).num≠0:=λh=>c4 (Rat.num_eq_zero.1 h);rw[decide_eq_false (by rw[Int.sign_eq_zero_iff_zero];exact hn0),bifF,hN,sbind,ht,p1,sbind,p2,sbind,bifT];rw[bifi,←ht,fin _ _ (by omega),if_neg (c:=e < -8∨8<e∨(e<0∧fv f=0)) (by rintro(h | h | h);exact c1 h;exact c2 h;exact c4 h.2)];refine congrArg some (Prod.ext ?_ rfl);have ee:e=-((e.natAbs:Nat):Int):=by omega
 have es:fv f ^ e=(fv f ^ e.natAbs)⁻¹:=by rw[←Rat.zpow_natCast,←Rat.zpow_neg,←ee]
 rw[es];unfold toF;rw[Rat.num_inv,Rat.den_inv,Rat.num_pow,Rat.den_pow];have hnp:(fv f).num ^ e.natAbs≠0:=Int.pow_ne_zero hn0;rw[if_neg hnp,Int.natAbs_pow];have hs:=Q54 (fv f).num e.natAbs;have hp:0<(fv f).num.natAbs ^ e.natAbs:=Nat.pow_pos (by omega);congr 2;rw[←hs];by_cases hc:(decide ((fv f).num<0) && decide (e.natAbs%2=1))=true;rw[if_pos hc,if_pos hc,Int.sign_eq_neg_one_of_neg (by omega),Int.neg_mul,Int.one_mul];rw[if_neg hc,if_neg hc,Int.sign_eq_one_of_pos (by omega),Int.one_mul];rw[decide_eq_false c3,bifF,bifF,hN,sbind,ht,p1,sbind,p2,sbind,bifF];rw[bifi,←ht,fin _ _ (by omega),if_neg (c:=e < -8∨8<e∨(e<0∧fv f=0)) (by rintro(h | h | h);exact c1 h;exact c2 h;exact c3 h.1)];refine congrArg some (Prod.ext ?_ rfl);have es:fv f ^ e=fv f ^ e.natAbs:=by
  rw[←Rat.zpow_natCast,show((e.natAbs:Nat):Int)=e by omega]
 rw[es];unfold toF;rw[Rat.num_pow,Rat.den_pow,Q54]
theorem Qu0{a:Rat}{j:Nat}(ha:qw a≤j){e:Int}(h:e.natAbs≤8):qw (a ^ e)≤8*j+1:=by
 have l3:e.natAbs*j≤8*j:=Nat.mul_le_mul_right _ (by omega);have h1:=Q9c ha e.natAbs;rcases Int.lt_or_le e 0 with c | c;have es:a ^ e=(a ^ e.natAbs)⁻¹:=by rw[←Rat.zpow_natCast,←Rat.zpow_neg,show -((e.natAbs:Nat):Int)=e by omega]
 rw[es];exact Q9b (by omega);have es:a ^ e=a ^ e.natAbs:=by rw[←Rat.zpow_natCast,show((e.natAbs:Nat):Int)=e by omega]
 rw[es];omega
def rv(l:List Qa):List Rat:=l.map fv
def toR(l:List Rat):List Qa:=l.map toF
theorem Kw(l:List Rat):rv (toR l)=l:=by
 unfold rv toR;rw[List.map_map]
 conv=>rhs;rw[←List.map_id l]
 exact List.map_congr_left λq _=>Q1 q
theorem Q3(l:List Qa):(rv l).length=l.length:=by unfold rv;simp
theorem Q2(l:List Rat):(toR l).length=l.length:=by unfold toR;simp
def FR(k:Nat)(l:List Qa):Prop:=∀ x∈l,Fk k x
def QR(k:Nat)(l:List Rat):Prop:=∀ x∈l,qw x≤k
theorem J6{k:Nat}{l:List Rat}(h:QR k l):FR k (toR l):=λx hx=>by unfold toR at hx;obtain⟨q,hq,rfl⟩:=List.mem_map.1 hx;exact Q6 (h q hq)
theorem QR_rv{k:Nat}{l:List Qa}(h:FR k l)(h1:1≤k):QR k (rv l):=λx hx=>by unfold rv at hx;obtain⟨q,hq,rfl⟩:=List.mem_map.1 hx;exact qw_fv (h q hq) h1
theorem Js{j k:Nat}{l:List Qa}(h:FR j l)(hk:j≤k):FR k l:=λx hx=>Vq (h x hx) hk
theorem Q8{j k:Nat}{l:List Rat}(h:QR j l)(hk:j≤k):QR k l:=λx hx=>Nat.le_trans (h x hx) hk
theorem Qz3{α:Type}{n:Nat}{a:List α}{g:α->Rat}{f:Nat->α->List Qa->Option (Lp (List Qa) (List Qa))}(_:big≤n)(hl:a.length≤1000000)
 (hb:∀ i x s,a[i]?=some x->f i x s=(appM 56 s [toF (g x)]).bind λy=>some (Lp.go y)):(rangeL f a 0 []).bind (lpK λs=>some s)=some (toR (a.map g)):=by
 rw[X2 (λi=>(a.take i).map λx=>toF (g x)) a,Wr,List.take_length];unfold toR;rw[List.map_map];rfl;intro i x hx;have:=Kh hx;rw[hb i x _ hx,Km (by simp;omega) (by simp;omega),sbind,Qae _ hx];rfl
theorem Qsn{n k:Nat}{a:List Qa}(hn:big≤n)(hk:k<1099511627776)(ha:FR k a)(hl:a.length≤1000000):Qki n a=some (toR (rv a)):=by unfold Qki;refine Qz3 (g:=fv) hn hl λi x s hx=>?_;rw[K8 hn (Fk_Fw (ha x (Jm hx)) (by omega)),sbind]
theorem Zv{n k:Nat}{a:List Qa}(hn:big≤n)(hk:k<1099511627776)(ha:FR k a)(hl:a.length≤1000000):Qhk n a=some (toR (rv a)):=Qsn hn hk ha hl
def scaleQ(c:Rat)(l:List Rat):List Rat:=l.map (c * ·)
theorem Xx{n k:Nat}{c:Qa}{a:List Qa}(hn:big≤n)(h1:1≤k)(hk:k<1099511627776)(hc:Fk k c)(ha:FR k a)(hl:a.length≤1000000):Wz n c a=some (toR (scaleQ (fv c) (rv a))):=by unfold Wz;rw[Qz3 (g:=λx=>fv c*fv x) hn hl λi x s hx=>?_];unfold scaleQ rv;rw[List.map_map];rfl;rw[V3 hn h1 hk hc (ha x (Jm hx)),sbind]
theorem Ql5{j k:Nat}{c:Rat}{l:List Rat}(hc:qw c≤j)(h:QR k l):QR (j+k) (scaleQ c l):=λx hx=>by unfold scaleQ at hx;obtain⟨q,hq,rfl⟩:=List.mem_map.1 hx;exact X3 hc (h q hq)
theorem Q04{α β τ R:Type}{f:Nat->α->List β->Option (Lp (List β) τ)}{K:Lp (List β) τ->Option R}(g:α->β->β)(xs:List α)(s:List β)(h:xs.length=s.length)
 (hb:∀ i x y s',xs[i]?=some x->s[i]?=some y->s'[i]?=some y->f i x s'=some (.go (s'.set i (g x y)))):(rangeL f xs 0 s).bind K=K (.go (List.zipWith g xs s)):=by
 have hlen:∀ i,i≤xs.length->(List.zipWith g (xs.take i) (s.take i)).length=i:=λi hi=>by simp;omega
 rw[X2 (λi=>List.zipWith g (xs.take i) (s.take i)++s.drop i) xs];rw[List.take_length,h,List.take_length,List.drop_length,List.append_nil];intro i x hx;have hi:=Kh hx;have hy:s[i]?=some s[i]:=List.getElem?_eq_getElem (by omega);have hg:(List.zipWith g (xs.take i) (s.take i)++s.drop i)[i]?=some s[i]:=by rw[List.getElem?_append_right (by rw[hlen i (by omega)];exact Nat.le_refl _),hlen i (by omega),Nat.sub_self,List.getElem?_drop,Nat.add_zero,hy]
 rw[hb i x s[i] _ hx hy hg];refine congrArg (λz=>some (Lp.go z)) ?_;have hd:s.drop i=s[i]::s.drop (i+1):=List.drop_eq_getElem_cons (by omega);have e1:xs.take (i+1)=xs.take i++[x]:=by rw[List.take_add_one,hx];rfl
 have e2:s.take (i+1)=s.take i++[s[i]]:=by rw[List.take_add_one,hy];rfl
 rw[hd,List.set_append_right _ _ (by rw[hlen i (by omega)];exact Nat.le_refl _),hlen i (by omega),Nat.sub_self,List.set_cons_zero,e1,e2,List.zipWith_append (by simp;omega)];simp;simp
def addQ(a b:List Rat):List Rat:=List.zipWith (·+·) a b
theorem Q9e{α:Type}{x:α}{l:List α}:getI (x::l) 0=some x:=rfl
theorem Qaz{n k:Nat}{a b:List Qa}(hn:big≤n)(h1:1≤k)(hk:k<1099511627776)(ha:FR k a)(hb:FR k b)(hl:a.length≤1000000):
 Zu n [a,b]=some (if a.length=b.length then (toR (addQ (rv a) (rv b)),true) else ([],false)):=by
 unfold Zu;have hs:sub [a,b] (1:Int) (([a,b]:List (List Qa)).length:Int)=some [b]:=rfl;rw[show decide ((([a,b]:List (List Qa)).length:Int)=0)=false from rfl,bifF,Q9e,sbind,Qsn hn hk ha hl,sbind,hs,sbind];simp only[rangeL];rw[Q2,Q3];by_cases h:a.length=b.length;rw[if_pos h,decide_eq_true (show(b.length:Int)=(a.length:Int) by omega),Bool.not_true,bifF,Q04 (λ(x:Qa) (y:Qa)=>toF (fv y+fv x)) b (toR (rv a)) (by rw[Q2,Q3,h]),Wr,sbind];simp only[];rw[sbind,Wr];refine congrArg some (Prod.ext ?_ rfl);simp only[];unfold addQ toR rv;rw[List.map_zipWith,List.map_map,List.zipWith_map_right,List.zipWith_map,List.zipWith_comm];congr 1;funext x y;simp only[Function.comp,Q1];intro i x y s' hx hy hy';have hy2:Fk k y:=J6 (QR_rv ha h1) y (Jm hy);rw[Ki hy',sbind,Vd hn h1 hk hy2 (hb x (Jm hx)),sbind,sbind,Int.toNat_natCast];rw[if_neg h,decide_eq_false (show ¬(b.length:Int)=(a.length:Int) by omega),Bool.not_false,bifT,sbind];rfl
theorem Qz4{α β γ:Type}{g:α->β->γ}{P:γ->Prop}:∀ {a:List α}{b:List β},(∀ x∈a,∀ y∈b,P (g x y))->∀ z∈List.zipWith g a b,P z
 | [],_,_,z,hz=>by simp at hz
 | _::_,[],_,z,hz=>by simp at hz
 | x::a,y::b,h,z,hz=>by rcases List.mem_cons.1 hz with rfl | hz;exact h x (.head _) y (.head _);exact Qz4 (λx' hx y' hy=>h x' (.tail _ hx) y' (.tail _ hy)) z hz
theorem Qq1{j k:Nat}{a b:List Rat}(ha:QR j a)(hb:QR k b):QR (j+k+1) (addQ a b):=Qz4 λx hx y hy=>Yl (ha x hx) (hb y hy)
theorem Qeu{a b:List Rat}:(addQ a b).length=min a.length b.length:=by unfold addQ;simp
theorem Zo{c:Rat}{a:List Rat}:(scaleQ c a).length=a.length:=by unfold scaleQ;simp
theorem Qb3{n m:Nat}(hn:big≤n)(hm:m≤300):Zj n (m:Int)=some (toR (List.replicate m 0)):=by
 unfold Zj;have e:min (max (m:Int) 0) 300=(m:Int):=by omega
 rw[e,Qje (by omega) (by omega),sbind];rw[Qh1 (λi=>(List.replicate i (toF 0)++List.replicate (m - i) (⟨⟨false,[]⟩,[]⟩:Qa),(i:Int))) m (toR (List.replicate m 0))];intro i hi;simp only[bifd];have hd:List.replicate (m - i) (⟨⟨false,[]⟩,[]⟩:Qa)=⟨⟨false,[]⟩,[]⟩::List.replicate (m - (i+1)) ⟨⟨false,[]⟩,[]⟩:=by rw[show m - i=(m - (i+1))+1 by omega,List.replicate_succ]
 rw[if_pos (by omega),Wu hn,sbind,hd,W5 (by simp),sbind,Qah (by simp),w1 (by omega)];refine congrArg (λz=>some (Lp.go (z,_))) ?_;rw[List.replicate_succ',List.append_assoc];rfl;simp only[bifd];rw[if_neg (by omega),Nat.sub_self,List.replicate_zero,List.append_nil];unfold toR;rw[List.map_replicate];unfold big at hn;omega;simp
def mixQ:List Rat->List (List Rat)->List Rat->List Rat
 | c::cs,a::l,z=>mixQ cs l (List.zipWith (λx o=>o+c*x) a z)
 | _,_,z=>z
theorem Q05:∀ {cs:List Rat}{l:List (List Rat)}{z:List Rat}{c a},cs.length=l.length->mixQ (cs++[c]) (l++[a]) z=List.zipWith (λx o=>o+c*x) a (mixQ cs l z)
 | [],[],z,c,a,_=>rfl
 | [],_::_,_,_,_,h=>by simp at h
 | _::_,[],_,_,_,h=>by simp at h
 | x::cs,y::l,z,c,a,h=>by simp only[List.cons_append,mixQ];exact Q05 (by simpa using h)
theorem Qgc{m:Nat}:∀ {cs:List Rat}{l:List (List Rat)}{z:List Rat},(∀ a∈l,a.length=m)->z.length=m->(mixQ cs l z).length=m
 | [],_,z,_,h=>by simpa [mixQ] using h
 | _::_,[],z,_,h=>by simpa [mixQ] using h
 | x::cs,y::l,z,hl,h=>by simp only[mixQ];exact Qgc (λa ha=>hl a (.tail _ ha)) (by have:=hl y (.head _);simp;omega)
theorem Qq2{j k:Nat}:∀ {cs:List Rat}{l:List (List Rat)}{z:List Rat}{b:Nat},QR j cs->(∀ a∈l,QR k a)->QR b z->QR (b+l.length*(j+k+1)) (mixQ cs l z)
 | [],_,z,b,_,_,h=>Q8 h (by omega)
 | _::_,[],z,b,_,_,h=>Q8 h (by omega)
 | x::cs,y::l,z,b,hc,hl,h=>by simp only[mixQ];have h2:QR (b+(j+k)+1) (List.zipWith (λx' o=>o+x*x') y z):=Qz4 λu hu o ho=>Yl (h o ho) (X3 (hc x (.head _)) (hl y (.head _) u hu));refine Q8 (Qq2 (λq hq=>hc q (.tail _ hq)) (λa ha=>hl a (.tail _ ha)) h2) ?_;rw[List.length_cons,Nat.succ_mul];omega
theorem Q3x{m:Nat}:∀ {a z:List Rat},a.length=m->z.length=m->List.zipWith (λx o=>o+0*x) a z=z
 | [],[],_,_=>rfl
 | [],_::_,h,h'=>by simp at h h';omega
 | _::_,[],h,h'=>by simp at h h';omega
 | x::a,y::z,h,h'=>by simp only[List.length_cons] at h h';rw[List.zipWith_cons_cons,Q3x (m:=m - 1) (by omega) (by omega)];congr 1;grind
theorem Q3y{α:Type}{l:List (List α)}{m:Nat}:(∀(i:Nat) x,l[i]?=some x->x.length=m)↔∀ a∈l,a.length=m:=by constructor;intro h a ha;obtain⟨j,hj⟩:=List.getElem?_of_mem ha;exact h j a hj;intro h i x hx;exact h x (Jm hx)
theorem Qon{n:Nat}{c:List Qa}{l:List (List Qa)}{m:Int}:Qhj n c l m=Qte n c l m:=Eq.symm (Eq.symm rfl)
theorem Jcz(l:List Qa)(i:Nat):rv (l.take i)=(rv l).take i:=by unfold rv;rw[List.map_take]
open Classical in
theorem Qub{n j k m:Nat}{c:List Qa}{l:List (List Qa)}(hn:big≤n)(h1:1≤j)(h2:1≤k)(hj:j<1048576)(hk:k<1048576)(hc:FR j c)(hl:∀ a∈l,FR k a)(hm:m≤300)(hll:l.length≤10000):
 Qte n c l (m:Int)=some (if c.length=l.length∧∀ a∈l,a.length=m then (toR (mixQ (rv c) (l.map rv) (List.replicate m 0)),true) else ([],false)):=by
 unfold Qte;simp only[jn_eq];by_cases g1:c.length=l.length;rw[decide_eq_true (show(c.length:Int)=(l.length:Int) by omega),Bool.not_true,bifF,decide_eq_false (show ¬(m:Int)<0 by omega),bifF,decide_eq_false (show ¬(300:Int)<(m:Int) by omega),bifF];rw[Yx (λ_ (a:List Qa)=>a.length=m) (r:=(([]:List Qa),false))];rw[Q3y];by_cases g2:∀ a∈l,a.length=m;rw[if_pos g2,if_pos ⟨g1,g2⟩,Qb3 hn hm,sbind];have hcr:=QR_rv hc h1;rw[X2 (λi=>toR (mixQ (rv (c.take i)) ((l.take i).map rv) (List.replicate m 0))) l,Wr,←g1,List.take_length,g1,List.take_length];intro i a hx;have hi:=Kh hx;have hci:c[i]?=some c[i]:=List.getElem?_eq_getElem (by omega);have hck:Fk j c[i]:=hc _ (List.getElem_mem (by omega));have ha:=hl a (Jm hx);have hal:=g2 a (Jm hx);generalize c[i]'(by omega)=ck at hci hck;have e1:c.take (i+1)=c.take i++[ck]:=by rw[List.take_add_one,hci];rfl
 have e2:l.take (i+1)=l.take i++[a]:=by rw[List.take_add_one,hx];rfl
 have e3:rv (c.take (i+1))=rv (c.take i)++[fv ck]:=by unfold rv;rw[e1,List.map_append];rfl
 have e4:(l.take (i+1)).map rv=(l.take i).map rv++[rv a]:=by rw[e2,List.map_append];rfl
 have e5:(rv (c.take i)).length=((l.take i).map rv).length:=by rw[Q3];simp;omega
 rw[Ki hci,sbind,Qan hn h1 (by omega) hck,sbind,bifd,e3,e4,Q05 e5]
 have hz0:(mixQ (rv (c.take i)) ((l.take i).map rv) (List.replicate m 0)).length=m:=Qgc (λb hb=>by
  obtain⟨d,hd,rfl⟩:=List.mem_map.1 hb
  rw[Q3];exact g2 d (List.mem_of_mem_take hd)) (by simp)
 have hzq:QR (1+(l.take i).length*(j+k+1)) (mixQ (rv (c.take i)) ((l.take i).map rv) (List.replicate m 0)):=by
  have:=Qq2 (j:=j) (k:=k) (b:=1) (cs:=rv (c.take i)) (l:=(l.take i).map rv) (z:=List.replicate m 0) (λq hq=>by rw[Jcz] at hq;exact hcr q (List.mem_of_mem_take hq)) (λb hb=>by
   obtain⟨d,hd,rfl⟩:=List.mem_map.1 hb
   exact QR_rv (hl d (List.mem_of_mem_take hd)) h2) (λq hq=>by rw[(List.mem_replicate.1 hq).2,Zn];exact Nat.le_refl _)
  rwa [List.length_map] at this
 have hb1:(l.take i).length*(j+k+1)≤10000*2097152:=Nat.mul_le_mul (by simp;omega) (by omega);have hzq2:=Q8 hzq (show _≤20971520001 by omega);generalize mixQ (rv (c.take i)) ((l.take i).map rv) (List.replicate m 0)=z at hz0 hzq2;by_cases g3:(fv ck).num.sign=0;rw[if_pos g3];have h0:fv ck=0:=Rat.num_eq_zero.1 (Int.sign_eq_zero_iff_zero.1 g3);rw[h0,Q3x (m:=m) (by rw[Q3,hal]) hz0];rw[if_neg g3,Q04 (λ(x:Qa) (o:Qa)=>toF (fv o+fv ck*fv x)) a (toR z) (by rw[Q2,hal,hz0]),Wr];refine congrArg (λz=>some (Lp.go z)) ?_;unfold toR rv;rw[List.map_zipWith,List.zipWith_map_right,List.zipWith_map_left];congr 1;funext x y;rw[Q1];intro i' x y s' hx' hy hy';have hy2:Fk 20971520001 y:=J6 hzq2 y (Jm hy);have hxk:=ha x (Jm hx');have hp:qw (fv ck*fv x)≤j+k:=X3 (qw_fv hck h1) (qw_fv hxk h2);rw[Ki hy',sbind,sbind,V3 (k:=j+k) hn (by omega) (by omega) (Vq hck (by omega)) (Vq hxk (by omega)),sbind,Vd (k:=20971520001) hn (by omega) (by omega) hy2 (Q6 (by omega)),sbind,sbind,Int.toNat_natCast,Q1];rfl;rw[if_neg g2,if_neg (λh=>g2 h.2)];intro i x hx;constructor;intro h;rw[decide_eq_true (show(x.length:Int)=(m:Int) by omega)];rfl;intro h;rw[decide_eq_false (show ¬(x.length:Int)=(m:Int) by omega)];rfl;rw[decide_eq_false (show ¬(c.length:Int)=(l.length:Int) by omega),if_neg (λh=>g1 h.1)];rfl
theorem Qz5(l:List Qa)(i:Nat):(rv l)[i]?=(l[i]?).map fv:=by unfold rv;simp
theorem Qb4{n k:Nat}{a b:List Qa}(hn:big≤n)(h1:1≤k)(hk:k<1099511627776)(ha:FR k a)(hb:FR k b):Qap n a b=some (decide (rv a=rv b)):=by
 classical
 unfold Qap;by_cases h:a.length=b.length;rw[decide_eq_true (show(a.length:Int)=(b.length:Int) by omega),Bool.not_true,bifF];rw[Yx (λi (x:Qa)=>∀ y,b[i]?=some y->fv x=fv y) (r:=false)];have e:(∀(i:Nat) x,a[i]?=some x->∀ y,b[i]?=some y->fv x=fv y)↔rv a=rv b:=by constructor;intro g;refine List.ext_getElem? λi=>?_;rw[Qz5,Qz5];rcases Nat.lt_or_ge i a.length with hi | hi;have e1:a[i]?=some a[i]:=List.getElem?_eq_getElem hi;have e2:b[i]?=some (b[i]'(by omega)):=List.getElem?_eq_getElem (by omega);have:=g i _ e1 _ e2;rw[e1,e2];exact congrArg some this;rw[List.getElem?_eq_none hi,List.getElem?_eq_none (by omega)];intro g i x hx y hy;have:=congrArg (·[i]?) g;simp only[Qz5,hx,hy,Option.map_some] at this;exact Option.some.inj this
 by_cases hd:rv a=rv b;rw[if_pos (e.2 hd),decide_eq_true hd];rw[if_neg (λg=>hd (e.1 g)),decide_eq_false hd];intro i x hx;have hi:=Kh hx;have e2:b[i]?=some (b[i]'(by omega)):=List.getElem?_eq_getElem (by omega);rw[Ki e2,sbind,Qcv hn h1 hk (ha x (Jm hx)) (hb _ (Jm e2)),sbind];constructor;intro g;rw[decide_eq_true (g _ e2)];rfl;intro g;rw[decide_eq_false (λg'=>g λy hy=>by rw[e2] at hy;cases hy;exact g')];rfl;rw[decide_eq_false (show ¬(a.length:Int)=(b.length:Int) by omega),Bool.not_false,bifT,decide_eq_false];intro g;apply h;rw[←Q3 a,g,Q3]
theorem Qg3(x m:Int):Zb x m=some (decide (0≤x∧x<m)):=by unfold Zb;simp only[jn_eq,bifd];by_cases h:0≤x;rw[if_pos h];simp[h];rw[if_neg h];simp[h]
def rdT(i:Qt):List Int:=if i.Op=6∨i.Op=11 then [i.A] else if i.Op=7∨i.Op=8∨i.Op=9∨i.Op=10 then [i.A,i.B] else []
theorem Qpi(i:Qt):Qff i=some (rdT i):=by unfold Qff rdT;simp only[jn_eq,bifd];by_cases h6:i.Op=6;simp[h6];by_cases h11:i.Op=11;simp[h11];by_cases h7:i.Op=7;simp[h7];by_cases h8:i.Op=8;simp[h8];by_cases h9:i.Op=9;simp[h9];by_cases h10:i.Op=10;simp[h10];simp[h6,h7,h8,h9,h10,h11]
def TW(t:Ql):Prop:=∀ c∈t.Code,Fw c.N
theorem Qev{α:Type}{l:List α}{P:α->Prop}:(∀(i:Nat) x,l[i]?=some x->P x)↔∀ a∈l,P a:=by constructor;intro h a ha;obtain⟨j,hj⟩:=List.getElem?_of_mem ha;exact h j a hj;intro h i x hx;exact h x (Jm hx)
noncomputable def dP(p:Prop):Bool:=@decide p (Classical.propDecidable p)
theorem decP{p:Prop}[Decidable p]:decide p=dP p:=by unfold dP;congr
theorem dP_t{p:Prop}(h:p):dP p=true:=by unfold dP;exact @decide_eq_true p (Classical.propDecidable p) h
theorem dP_f{p:Prop}(h:¬ p):dP p=false:=by unfold dP;exact @decide_eq_false p (Classical.propDecidable p) h
theorem dP_c{p q:Prop}(h:p↔q):dP p=dP q:=by rw[show p=q from propext h]
theorem Qb5{p q:Prop}[Decidable p](h:p↔q):some (decide p)=some (dP q):=by rw[decP,dP_c h]
theorem Qz6{p q:Prop}(h:p↔q):some (dP p)=some (dP q):=by rw[dP_c h]
theorem Qu1{p q r:Prop}[Decidable p][Decidable q](h:p∧q↔r):(if p then some (decide q) else some false)=some (dP r):=by by_cases hp:p;rw[if_pos hp];exact Qb5 ⟨λhq=>h.1 ⟨hp,hq⟩,λhr=>(h.2 hr).2⟩;rw[if_neg hp,dP_f λhr=>hp (h.2 hr).1]
theorem Je6{p q r:Prop}[Decidable p](h:p∧q↔r):(if p then some (dP q) else some false)=some (dP r):=by by_cases hp:p;rw[if_pos hp];exact Qz6 ⟨λhq=>h.1 ⟨hp,hq⟩,λhr=>(h.2 hr).2⟩;rw[if_neg hp,dP_f λhr=>hp (h.2 hr).1]
def blankF(f:Qa):Prop:=f.Num.Neg=false∧f.Num.Az=[]∧f.Den=[]
theorem Qyb(f:Qa):Qhi f=some (dP (blankF f)):=by unfold Qhi blankF;obtain⟨⟨s,a⟩,d⟩:=f;simp only[jn_eq];cases s;simp only[Bool.not_false,bifT,bifd];refine Qu1 ⟨λh=>⟨trivial,List.eq_nil_of_length_eq_zero (by omega),List.eq_nil_of_length_eq_zero (by omega)⟩,λh=>?_⟩;obtain⟨_,rfl,rfl⟩:=h;exact⟨rfl,rfl⟩;simp only[Bool.not_true,bifF];rw[dP_f λh=>by cases h.1]
theorem bifP{α:Type}(p:Prop)(a b:α):(bif dP p then a else b)=@ite _ p (Classical.propDecidable p) a b:=by by_cases h:p;rw[dP_t h,if_pos h];rfl;rw[dP_f h,if_neg h];rfl
theorem bifnP{α:Type}(p:Prop)(a b:α):(bif !dP p then a else b)=@ite _ p (Classical.propDecidable p) b a:=by by_cases h:p;rw[dP_t h,if_pos h];rfl;rw[dP_f h,if_neg h];rfl
def mayR(t:Ql)(i:Nat)(x:Qt):Prop:=
 if x.Op=1 then x.A=0∧x.B=0∧x.N=toF (fv x.N) else
 blankF x.N∧(∀ r∈rdT x,0≤r∧r<(i:Int)) ∧
 if x.Op=2 then x.A=0∧x.B=0 else if x.Op=3 then (0≤x.A∧x.A<t.Au)∧x.B=0 else if x.Op=4 then (0≤x.A∧x.A<t.Ay)∧x.B=0 else
 if x.Op=6 then x.B=0 else if x.Op=11 then -8≤x.B∧x.B≤8 else (rdT x).length=2
theorem Q1z{n:Nat}{t:Ql}{i:Nat}{x:Qt}(hn:big≤n)(ht:Fw x.N)(hx:t.Code[i]?=some x):Qh8 n t (i:Int)=some (dP (mayR t i x)):=by
 unfold Qh8 mayR;rw[Ki hx,sbind,bifd];by_cases h1:x.Op=1
 have e1:(if x.Op=1 then x.A=0∧x.B=0∧x.N=toF (fv x.N) else blankF x.N∧(∀ r∈rdT x,0≤r∧r<(i:Int)) ∧
  if x.Op=2 then x.A=0∧x.B=0 else if x.Op=3 then (0≤x.A∧x.A<t.Au)∧x.B=0 else if x.Op=4 then (0≤x.A∧x.A<t.Ay)∧x.B=0 else
  if x.Op=6 then x.B=0 else if x.Op=11 then -8≤x.B∧x.B≤8 else (rdT x).length=2)=(x.A=0∧x.B=0∧x.N=toF (fv x.N)):=if_pos h1
 simp only[e1];rw[if_pos h1];have hR:=Qk9 hn ht;simp only[jn_eq,Qjz,sbind];have e2:Qba (⟨x.Op,x.A,x.B⟩:K7) ⟨1,0,0⟩=decide (x.A=0∧x.B=0):=by unfold Qba;simp only[h1];by_cases a:x.A=0<;>by_cases b:x.B=0<;>simp[a,b]
 rw[e2,hR,sbind,bifd];rw[@decP _ (Classical.propDecidable _)];refine Je6 ⟨λh=>⟨h.1.1,h.1.2,h.2⟩,λh=>⟨⟨h.1,h.2.1⟩,h.2.2⟩⟩
 have e1:(if x.Op=1 then x.A=0∧x.B=0∧x.N=toF (fv x.N) else blankF x.N∧(∀ r∈rdT x,0≤r∧r<(i:Int)) ∧
  if x.Op=2 then x.A=0∧x.B=0 else if x.Op=3 then (0≤x.A∧x.A<t.Au)∧x.B=0 else if x.Op=4 then (0≤x.A∧x.A<t.Ay)∧x.B=0 else
  if x.Op=6 then x.B=0 else if x.Op=11 then -8≤x.B∧x.B≤8 else (rdT x).length=2)=(blankF x.N∧(∀ r∈rdT x,0≤r∧r<(i:Int)) ∧
  if x.Op=2 then x.A=0∧x.B=0 else if x.Op=3 then (0≤x.A∧x.A<t.Au)∧x.B=0 else if x.Op=4 then (0≤x.A∧x.A<t.Ay)∧x.B=0 else
  if x.Op=6 then x.B=0 else if x.Op=11 then -8≤x.B∧x.B≤8 else (rdT x).length=2):=if_neg h1
 simp only[e1];rw[if_neg h1,Qyb,sbind,bifnP];by_cases hb:blankF x.N;rw[if_pos hb,Qpi,sbind,Yx (λ_ (r:Int)=>0≤r∧r<(i:Int)) (r:=false)];rw[Qev];by_cases hr:∀ r∈rdT x,0≤r∧r<(i:Int);rw[if_pos hr];have fin:∀ {o:Option Bool}{p:Prop},o=some (dP p)->o=some (dP (blankF x.N∧(∀ r∈rdT x,0≤r∧r<(i:Int))∧p)):=λh=>h.trans (Qz6 ⟨λg=>⟨hb,hr,g⟩,λg=>g.2.2⟩);refine fin ?_;simp only[jn_eq,Qjz,sbind,Qg3,Qpi,bifd];by_cases g2:x.Op=2;simp only[if_pos g2];refine congrArg some ?_;unfold Qba;simp only[g2];rw[←decP];by_cases a:x.A=0<;>by_cases b:x.B=0<;>simp[a,b];simp only[if_neg g2];by_cases g3:x.Op=3;simp only[if_pos g3];exact Qu1 Iff.rfl;simp only[if_neg g3];by_cases g4:x.Op=4;simp only[if_pos g4];exact Qu1 Iff.rfl;simp only[if_neg g4];by_cases g6:x.Op=6;simp only[if_pos g6];exact Qb5 Iff.rfl;simp only[if_neg g6];by_cases g11:x.Op=11;simp only[if_pos g11];exact Qu1 Iff.rfl;simp only[if_neg g11];exact Qb5 (by omega);rw[if_neg hr,dP_f λh=>hr h.2.1];intro j r _;simp only[Qg3,sbind];constructor;intro h;rw[decide_eq_true h];rfl;intro h;rw[decide_eq_false h];rfl;rw[if_neg hb,dP_f λh=>hb h.1]
def wholeR(t:Ql):Prop:=(1≤t.Au∧t.Au≤6)∧(0≤t.Ay∧t.Ay≤6)∧(t.Ar.length:Int)=t.Au∧t.Code.length≤300
def tapeR(t:Ql):Prop:=wholeR t∧(∀(i:Nat) x,t.Code[i]?=some x->mayR t i x)∧∀ o∈t.Ar,0≤o∧o<(t.Code.length:Int)
theorem Qyc(t:Ql)(h:-9223372036854775808≤t.Au∧t.Au≤9223372036854775807):Qhh t=some (dP (wholeR t)):=by
 unfold Qhh wholeR;simp only[jn_eq,Qg3,sbind,bifd];have hw:(0≤wrap64 (t.Au - 1)∧wrap64 (t.Au - 1)<6)↔(0≤t.Au - 1∧t.Au - 1<6):=by unfold wrap64;omega
 by_cases g1:0≤t.Au - 1∧t.Au - 1<6;rw[if_pos (hw.2 g1)];by_cases g2:0≤t.Ay∧t.Ay<7;rw[if_pos g2];by_cases g3:(t.Ar.length:Int)=t.Au;rw[if_pos g3];exact Qb5 (by omega);rw[if_neg g3,dP_f (by omega)];rw[if_neg g2,dP_f (by omega)];rw[if_neg (λh=>g1 (hw.1 h)),dP_f (by omega)]
theorem Q7c{R:Type}{f:Nat->Qt->Unit->Option (Lp Unit R)}{K:Unit->Option R}{xs:List Qt}(P:Nat->Qt->Prop)(r:Nat->R)
 (hb:∀ i x,xs[i]?=some x->(P i x->f i x ()=some (.go ()))∧(¬ P i x->f i x ()=some (.out (r i)))) :
 ((∀(i:Nat) x,xs[i]?=some x->P i x)∧(rangeL f xs 0 ()).bind (lpK K)=K ())∨(¬(∀(i:Nat) x,xs[i]?=some x->P i x)∧∃ j,(rangeL f xs 0 ()).bind (lpK K)=some (r j)):=by
 have key:∀(xs:List Qt) (k:Nat),(∀ i x,xs[i]?=some x->(P (k+i) x->f (k+i) x ()=some (.go ()))∧(¬ P (k+i) x->f (k+i) x ()=some (.out (r (k+i))))) →
  ((∀(i:Nat) x,xs[i]?=some x->P (k+i) x)∧(rangeL f xs k ()).bind (lpK K)=K ())∨(¬(∀(i:Nat) x,xs[i]?=some x->P (k+i) x)∧∃ j,(rangeL f xs k ()).bind (lpK K)=some (r j)):=by
  intro xs
  induction xs with
  | nil=>intro k _;exact .inl ⟨λi x h=>by simp at h,rfl⟩
  | cons x xs ih=>
    intro k hb;have h0:=hb 0 x rfl;simp only[Nat.add_zero] at h0;by_cases hp:P k x;have:=ih (k+1) (λi y hy=>by have:=hb (i+1) y (by simpa using hy);rw[show k+(i+1)=k+1+i by omega] at this;exact this);simp only[rangeL,h0.1 hp,sbind];rcases this with ⟨h3,h4⟩ | ⟨h3,h4⟩;refine .inl ⟨λi y hy=>?_,h4⟩;cases i with
    | zero=>simp at hy;subst hy;exact hp
    | succ i=>rw[show k+(i+1)=k+1+i by omega];exact h3 i y (by simpa using hy)
    refine .inr ⟨λh=>h3 λi y hy=>?_,h4⟩;have:=h (i+1) y (by simpa using hy);rwa [show k+(i+1)=k+1+i by omega] at this;refine .inr ⟨λh=>hp (h 0 x rfl),k,?_⟩;simp only[rangeL,h0.2 hp,sbind];rfl
 have:=key xs 0 (λi x hx=>by rw[Nat.zero_add];exact hb i x hx);simp only[Nat.zero_add] at this;exact this
theorem Qpj{n:Nat}{t:Ql}(hn:big≤n)(ht:TW t)(hd:-9223372036854775808≤t.Au∧t.Au≤9223372036854775807):Zc n t=some (dP (tapeR t)):=by
 unfold Zc Qkc;rw[Qyc t hd,sbind,bifnP];by_cases hw:wholeR t;rw[if_pos hw]
 have key:=Q7c (K:=λ(_:Unit)=>(rangeL (λ(_:Nat) (x26:Int) (_:Unit)=>
  (Zb x26 (t.Code.length:Int)).bind λr28=>
  bif !r28 then (
   some (Lp.out ((t.Code.length:Int))))
  else (
   some (Lp.go ()))) t.Ar 0 ()).bind (lpK λ(_:Unit)=>
 some (-1:Int))) (f:=λ(i11:Nat) (_:Qt) (_:Unit)=>
  (Qh8 n t (i11:Int)).bind λr14=>
  bif !r14 then (
   some (Lp.out ((i11:Int))))
  else (
   some (Lp.go ()))) (xs:=t.Code) (λi x=>mayR t i x) (λi=>(i:Int)) (λi x hx=>by
  rw[Q1z hn (ht x (Jm hx)) hx,sbind];constructor;intro h;rw[dP_t h];rfl
  intro h;rw[dP_f h];rfl)
 rcases key with ⟨k1,k2⟩ | ⟨k1,j,k2⟩;rw[k2,Yx (λ_ (o:Int)=>0≤o∧o<(t.Code.length:Int)) (r:=(t.Code.length:Int))];rw[Qev];by_cases ho:∀ o∈t.Ar,0≤o∧o<(t.Code.length:Int);rw[if_pos ho,sbind];exact Qb5 ⟨λ_=>⟨hw,k1,ho⟩,λ_=>rfl⟩;rw[if_neg ho,sbind];exact Qb5 ⟨λh=>by omega,λh=>absurd h.2.2 ho⟩;intro i o _;simp only[Qg3,sbind];constructor;intro h;rw[decide_eq_true h];rfl;intro h;rw[decide_eq_false h];rfl;rw[k2,sbind];exact Qb5 ⟨λh=>by omega,λh=>absurd h.2.1 k1⟩;rw[if_neg hw,sbind];exact Qb5 ⟨λh=>by omega,λh=>absurd h.1 hw⟩
theorem J2(f:Qc):Qo f f=true:=by simp[Qo]
theorem Jw{k a b c:Int}(h:k≠0):Qo ⟨k,a,b,c⟩ ⟨0,0,0,0⟩=false:=by unfold Qo;rw[show(k == 0)=false by simpa using h];rfl
def noteG(g:Qh)(q:Rat):Qh:=⟨⟨wrap64 (g.Count.Seen+1),max g.Count.Peak (qz q:Int)⟩,g.limit⟩
theorem Qj2{n:Nat}{g:Qh}{q:Rat}(hn:big≤n)(hq:qw q<1099511627776):Vc n g (toF q)=some (decide ((qz q:Int)≤g.limit),noteG g q):=by unfold Vc Qbo;rw[Qpg hn hq,sbind,sbind];rfl
def fitQ(lim:Int):List Rat->Nat->Option Nat
 | [],_=>none
 | q::l,i=>if (qz q:Int)≤lim then fitQ lim l (i+1) else some i
theorem Qoo{n:Nat}{g:Qh}{l:List Rat}(hn:big≤n)(hl:QR 1099511627775 l):
 ∃ g',g'.limit=g.limit∧V5 n g (toR l)=some (match fitQ g.limit l 0 with | none=>((l.length:Int),true,g') | some i=>((i:Int),false,g')):=by
 unfold V5
 have key:∀(l:List Rat) (i:Nat) (g:Qh) (K:Qh->Option (Int×Bool×Qh)),QR 1099511627775 l->∃ g',g'.limit=g.limit ∧
  (rangeL (λ(i15:Nat) (x16:Qa) (s14:Qh)=>
   (Vc n s14 x16).bind λr18=>
   bif !r18.1 then (some (Lp.out (((i15:Int),false,r18.2)))) else (some (Lp.go r18.2))) (toR l) i g).bind (lpK K)=match fitQ g.limit l i with | none=>K g' | some i=>some ((i:Int),false,g'):=by
  intro l
  induction l with
  | nil=>intro i g K _;exact⟨g,rfl,rfl⟩
  | cons q l ih=>
    intro i g K hl;simp only[toR,List.map_cons,rangeL,fitQ];rw[Qj2 hn (by have:=hl q (.head _);omega),sbind];simp only[];by_cases h:(qz q:Int)≤g.limit;rw[decide_eq_true h,if_pos h,Bool.not_true,bifF,sbind];obtain⟨g',h1,h2⟩:=ih (i+1) (noteG g q) K λx hx=>hl x (.tail _ hx);exact⟨g',h1,h2⟩;rw[decide_eq_false h,if_neg h,Bool.not_false,bifT,sbind];exact⟨noteG g q,rfl,rfl⟩
 obtain⟨g',h1,h2⟩:=key l 0 g (λs20=>some (((toR l).length:Int),true,s20)) hl;refine⟨g',h1,?_⟩;rw[h2,Q2];cases fitQ g.limit l 0<;>rfl
def opQ(x:Qt)(T:Rat)(Y P done:List Rat):Option Rat:=
 if x.Op=6 then some (-done.getD x.A.toNat 0) else
 if x.Op=11 then (if x.B < -8∨8<x.B∨(x.B<0∧done.getD x.A.toNat 0=0) then none else some (done.getD x.A.toNat 0 ^ x.B)) else
 if x.Op=7 then some (done.getD x.A.toNat 0+done.getD x.B.toNat 0) else
 if x.Op=8 then some (done.getD x.A.toNat 0 - done.getD x.B.toNat 0) else
 if x.Op=9 then some (done.getD x.A.toNat 0*done.getD x.B.toNat 0) else
 if x.Op=10 then (if done.getD x.B.toNat 0=0 then none else some (done.getD x.A.toNat 0 / done.getD x.B.toNat 0)) else
 if x.Op=1 then some (fv x.N) else
 if x.Op=3 then some (Y.getD x.A.toNat 0) else
 if x.Op=4 then some (P.getD x.A.toNat 0) else some T
def runQ(lim:Int)(T:Rat)(Y P:List Rat):List Qt->Nat->List Rat->(Int×Nat) ⊕ List Rat
 | [],_,done=>.inr done
 | x::c,i,done=>match opQ x T Y P done with
   | none=>.inl (3,i)
   | some q=>if (qz q:Int)≤lim then runQ lim T Y P c (i+1) (done++[q]) else .inl (6,i)
theorem Qew{l:List Rat}{r:Int}(h1:0≤r)(h2:r<(l.length:Int)):getI (toR l) r=some (toF (l.getD r.toNat 0)):=by
 obtain⟨k,rfl⟩:∃ k:Nat,r=(k:Int):=⟨r.toNat,by omega⟩
 have hk:k<l.length:=by omega
 rw[Qhy,Int.toNat_natCast];unfold toR;rw[List.getElem?_map,List.getElem?_eq_getElem hk,List.getD_eq_getElem?_getD,List.getElem?_eq_getElem hk];rfl
theorem Vy{k:Nat}{l:List Rat}{i:Nat}(h:QR k l)(h1:1≤k):qw (l.getD i 0)≤k:=by rw[List.getD_eq_getElem?_getD];rcases Nat.lt_or_ge i l.length with hi | hi;rw[List.getElem?_eq_getElem hi];exact h _ (List.getElem_mem hi);rw[List.getElem?_eq_none hi];show qw 0≤k;rw[Zn];exact h1
theorem rdT_A{x:Qt}(h:x.Op=6∨x.Op=11∨x.Op=7∨x.Op=8∨x.Op=9∨x.Op=10):x.A∈rdT x:=by unfold rdT;by_cases a:x.Op=6∨x.Op=11;rw[if_pos a];simp;rw[if_neg a,if_pos (by omega)];simp
theorem rdT_B{x:Qt}(h:x.Op=7∨x.Op=8∨x.Op=9∨x.Op=10):x.B∈rdT x:=by unfold rdT;rw[if_neg (by omega),if_pos (by omega)];simp
theorem Qq3{t:Ql}{i:Nat}{x:Qt}(h:mayR t i x):∀ r∈rdT x,0≤r∧r<(i:Int):=by unfold mayR at h;by_cases h1:x.Op=1;intro r hr;unfold rdT at hr;rw[if_neg (by omega),if_neg (by omega)] at hr;cases hr;rw[if_neg h1] at h;exact h.2.1
theorem Qyd{t:Ql}{i:Nat}{x:Qt}(h:mayR t i x)(h3:x.Op=3):0≤x.A∧x.A<t.Au:=by unfold mayR at h;rw[if_neg (by omega),if_neg (by omega),if_pos h3] at h;exact h.2.2.1
theorem Qye{t:Ql}{i:Nat}{x:Qt}(h:mayR t i x)(h3:x.Op=4):0≤x.A∧x.A<t.Ay:=by unfold mayR at h;rw[if_neg (by omega),if_neg (by omega),if_neg (by omega),if_pos h3] at h;exact h.2.2.1
theorem Q7d{n k:Nat}{g:Qh}{t:Ql}{x:Qt}{T:Rat}{Y P done:List Rat}(hn:big≤n)(h1:1≤k)(hk:k<1048576)(hx:mayR t done.length x)(hN:Fk k x.N)
 (hT:qw T≤k) (hY:QR k Y) (hP:QR k P) (hD:QR k done) (hy:(Y.length:Int)=t.Au) (hp:(P.length:Int)=t.Ay) :
 ∃ v,Kz n g x ⟨toF T,toR Y,toR P⟩ (toR done)=some (match opQ x T Y P done with | none=>(v,false) | some q=>(toF q,true))∧∀ q,opQ x T Y P done=some q->qw q≤8*k+1:=by
 unfold Kz opQ;have rd:=Qq3 hx;have dA:x.Op=6∨x.Op=11∨x.Op=7∨x.Op=8∨x.Op=9∨x.Op=10->getI (toR done) x.A=some (toF (done.getD x.A.toNat 0)):=λh=>Qew (rd _ (rdT_A h)).1 (rd _ (rdT_A h)).2;have dB:x.Op=7∨x.Op=8∨x.Op=9∨x.Op=10->getI (toR done) x.B=some (toF (done.getD x.B.toNat 0)):=λh=>Qew (rd _ (rdT_B h)).1 (rd _ (rdT_B h)).2;have qA:qw (done.getD x.A.toNat 0)≤k:=Vy hD h1;have qB:qw (done.getD x.B.toNat 0)≤k:=Vy hD h1;generalize done.getD x.A.toNat 0=a at dA qA ⊢;generalize done.getD x.B.toNat 0=b at dB qB ⊢;have fA:Fk k (toF a):=Q6 qA;have fB:Fk k (toF b):=Q6 qB;simp only[bifd];by_cases o6:x.Op=6
 . simp only[if_pos o6]
   unfold Qe1;rw[dA (by omega),sbind,Qdh hn (Fk_Fw fA (by omega)),sbind,sbind,Q1];exact⟨toF 0,rfl,λq hq=>by cases hq;rw[Qmr];omega⟩
 simp only[if_neg o6];by_cases o11:x.Op=11
 . simp only[if_pos o11]
   unfold Qe2;rw[dA (by omega),sbind,Qjn hn h1 (by omega) fA,sbind,Q1];refine⟨toF 0,?_,λq hq=>?_⟩
   . split<;>rfl
   . split at hq
     . cases hq
     . rename_i hc
       cases hq;exact Qu0 qA (by omega)
 simp only[if_neg o11];by_cases o7:x.Op=7
 . simp only[if_pos o7]
   unfold Qe3;rw[dA (by omega),sbind,dB (by omega),sbind,Vd hn h1 (by omega) fA fB,sbind,sbind,Q1,Q1];exact⟨toF 0,rfl,λq hq=>by cases hq;have:=Yl qA qB;omega⟩
 simp only[if_neg o7];by_cases o8:x.Op=8
 . simp only[if_pos o8]
   unfold Qe4;rw[dA (by omega),sbind,dB (by omega),sbind,Qjm hn h1 (by omega) fA fB,sbind,sbind,Q1,Q1];exact⟨toF 0,rfl,λq hq=>by cases hq;have:=Qx9 qA qB;omega⟩
 simp only[if_neg o8];by_cases o9:x.Op=9
 . simp only[if_pos o9]
   unfold Qe5;rw[dA (by omega),sbind,dB (by omega),sbind,V3 hn h1 (by omega) fA fB,sbind,sbind,Q1,Q1];exact⟨toF 0,rfl,λq hq=>by cases hq;have:=X3 qA qB;omega⟩
 simp only[if_neg o9];by_cases o10:x.Op=10
 . simp only[if_pos o10]
   unfold Qe6;rw[dA (by omega),sbind,dB (by omega),sbind,Qdi hn h1 (by omega) fA fB,sbind,Q1,Q1];refine⟨toF 0,?_,λq hq=>?_⟩
   . split<;>rfl
   . split at hq
     . cases hq
     . cases hq
       have:=Qq0 qA qB;omega
 simp only[if_neg o10];unfold We;simp only[bifd];by_cases o1:x.Op=1
 . simp only[if_pos o1]
   unfold Qf3;rw[K8 hn (Fk_Fw hN (by omega)),sbind,sbind,sbind];exact⟨toF 0,rfl,λq hq=>by cases hq;have:=qw_fv hN h1;omega⟩
 simp only[if_neg o1];by_cases o3:x.Op=3
 . simp only[if_pos o3]
   obtain⟨a1,a2⟩:=Qyd hx o3;rw[Qew a1 (by omega),sbind,sbind];exact⟨toF 0,rfl,λq hq=>by cases hq;have:=Vy (i:=x.A.toNat) hY h1;omega⟩
 simp only[if_neg o3];by_cases o4:x.Op=4
 . simp only[if_pos o4]
   obtain⟨a1,a2⟩:=Qye hx o4;rw[Qew a1 (by omega),sbind,sbind];exact⟨toF 0,rfl,λq hq=>by cases hq;have:=Vy (i:=x.A.toNat) hP h1;omega⟩
 simp only[if_neg o4];exact⟨toF 0,rfl,λq hq=>by cases hq;omega⟩
theorem Qwr(l:List Rat)(q:Rat):toR l++[toF q]=toR (l++[q]):=by unfold toR;simp
theorem Q3z{n k:Nat}{g:Qh}{t:Ql}{T:Rat}{Y P:List Rat}(hn:big≤n)(h1:129≤k)(hk:k<1048576)(ht:tapeR t)(hR:Zc n t=some true)(hN:∀ c∈t.Code,Fk k c.N)
 (hT:qw T≤k) (hY:QR k Y) (hP:QR k P) (hy:(Y.length:Int)=t.Au) (hp:(P.length:Int)=t.Ay) (hg:g.limit≤4096) :
 ∃ g',Vt n g t ⟨toF T,toR Y,toR P⟩=some (match runQ g.limit T Y P t.Code 0 [] with | .inl e=>([],⟨e.1,0,0,(e.2:Int)⟩,g') | .inr l=>(toR l,⟨0,0,0,0⟩,g')):=by
 unfold Vt;simp only[jn_eq,hR,sbind,Bool.not_true,bifF];rw[Q2,Q2,decide_eq_true hy,decide_eq_true hp,Bool.not_true,bifF,bifF]
 have key:∀(c:List Qt) (done:List Rat) (g:Qh) (K:Qh×List Qa->Option (List Qa×Qc×Qh)),(∀(j:Nat) x,c[j]?=some x->mayR t (done.length+j) x)->(∀ x∈c,Fk k x.N)->QR k done->g.limit≤4096->done.length+c.length≤300 →
  ∃ g',(rangeL (λ(i30:Nat) (x31:Qt) (s29:Qh×(List Qa))=>
    (Kz n s29.1 x31 ⟨toF T,toR Y,toR P⟩ s29.2).bind λr33=>
    bif !r33.2 then (
     some (Lp.out ((([]:List Qa),(⟨(3:Int),0,0,(i30:Int)⟩:Qc),s29.1))))
    else (
     (Qbk n s29.1 r33.1).bind λr35=>
     bif !r35.1 then (
      some (Lp.out ((([]:List Qa),(⟨(6:Int),0,0,(i30:Int)⟩:Qc),r35.2))))
     else (
      (appM 56 s29.2 ([r33.1]:List Qa)).bind λy37=>
      some (Lp.go (r35.2,y37))))) c done.length (g,toR done)).bind (lpK K)=match runQ g.limit T Y P c done.length done with | .inl e=>some ([],⟨e.1,0,0,(e.2:Int)⟩,g') | .inr l=>K (g',toR l):=by
  intro c
  induction c with
  | nil=>intro done g K _ _ _ _ _;exact⟨g,rfl⟩
  | cons x c ih=>
    intro done g K hm hN hD hg hl;simp only[rangeL,runQ];obtain⟨v,e1,e2⟩:=Q7d (g:=g) hn (by omega) hk (by have:=hm 0 x rfl;rwa [Nat.add_zero] at this) (hN x (.head _)) hT hY hP hD hy hp;rw[e1,sbind];cases hq:opQ x T Y P done with
    | none=>exact⟨g,rfl⟩
    | some q=>
      have hqk:=e2 q hq;simp only[Bool.not_true,bifF];unfold Qbk;rw[Qj2 hn (by omega),sbind,sbind];simp only[];by_cases hf:(qz q:Int)≤g.limit
      . rw[decide_eq_true hf,if_pos hf,Bool.not_true,bifF,Km (by rw[Q2];simp at hl ⊢;omega) (by rw[Q2];simp at hl ⊢;omega),sbind,sbind]
        simp only[];have hq2:qw q≤k:=by have:=qw_qz (q:=q) (b:=4096) (by omega);omega
        have hlen:(done++[q]).length=done.length+1:=by simp
        obtain⟨g',h⟩:=ih (done++[q]) (noteG g q) K (λj y hy=>by
         rw[hlen,show done.length+1+j=done.length+(j+1) by omega];exact hm (j+1) y (by simpa using hy)) (λy hy=>hN y (.tail _ hy)) (λz hz=>by
         rcases List.mem_append.1 hz with hz | hz
         . exact hD z hz
         . rw[List.mem_singleton.1 hz];exact hq2) hg (by rw[hlen];simp at hl;omega)
        refine⟨g',?_⟩;rw[hlen] at h;rw[Qwr];exact h
      . rw[decide_eq_false hf,if_neg hf,Bool.not_false,bifT,sbind]
        exact⟨noteG g q,rfl⟩
 obtain⟨⟨d1,d2,d3,d4⟩,m1,m2⟩:=ht;obtain⟨g',h⟩:=key t.Code [] g (λs39=>some (s39.2,(⟨0,0,0,0⟩:Qc),s39.1)) (λj x hx=>by rw[show([]:List Rat).length+j=j by simp];exact m1 j x hx) hN (λ_ h=>by cases h) hg (by simpa using d4);refine⟨g',?_⟩;rw[show(([]:List Rat).length)=0 from rfl,show toR []=[] from rfl] at h;rw[h];cases runQ g.limit T Y P t.Code 0 []<;>rfl
def digB(c:Nat):Bool:=decide (48≤c∧c≤57)
def letB(c:Nat):Bool:=decide (97≤c∧c≤122∨65≤c∧c≤90∨c=95)
def sgnL:List UInt8:=[43,45,42,47,94,40,41,91,93,44,59,61]
def sgnB(c:Nat):Bool:=sgnL.any (λx=>x.toNat=c)
def kindC(c:Nat):Int:=if digB c then 1 else if letB c then 2 else if sgnB c then 3 else 0
def goC(k:Int)(c:Nat):Bool:=(decide (k=1) && digB c) || (decide (k=2) && (letB c || digB c))
def mostC(k:Int):Nat:=if k=1 then 60 else if k=2 then 12 else 1
def wdB(k:Int):List UInt8->Bool
 | []=>false
 | c::r=>decide (k≠0) && (decide (kindC c.toNat=k) && (r.all (λb=>goC k b.toNat) && decide (r.length+1≤mostC k)))
theorem Qq4(c:Nat):Qcn c=some (digB c):=by unfold Qcn digB;simp only[jn_eq,bifd];grind
theorem Qpk(c:Nat):Qcw c=some (letB c):=by unfold Qcw letB;simp only[jn_eq,bifd];grind
theorem Q7e{s:List UInt8}{p:Nat}{c:UInt8}(h:s[p]?=some c)(hc:c.toNat<128):decR s p=c.toNat∧decW s p=1:=by
 have h1:((⟨s.toArray⟩:ByteArray).get! (p+0)).toNat=c.toNat:=by
  have hp:=Kh h;have:((⟨s.toArray⟩:ByteArray).get! (p+0))=c:=by show s.toArray[p+0]! = c;simp[h]
  rw[this]
 unfold decR decW Utf8.decode;simp only[h1];rw[if_pos hc];exact⟨rfl,rfl⟩
theorem Q10{n c:Nat}(hn:big≤n):Qke n c=some (sgnB c):=by
 unfold Qke;unfold big at hn;have e:sgnB c=runG (τ:=Bool) (λ_ (x:UInt8) (_:Unit)=>if x.toNat=c then .inr true else .inl ()) (λ_=>false) sgnL 0 ():=by
  unfold sgnB;have:∀(l:List UInt8) (i:Nat),l.any (λx=>decide (x.toNat=c))=runG (τ:=Bool) (λ_ (x:UInt8) (_:Unit)=>if x.toNat=c then .inr true else .inl ()) (λ_=>false) l i ():=by
   intro l
   induction l with
   | nil=>intro i;rfl
   | cons x l ih=>
     intro i;simp only[List.any_cons,runG];by_cases h:x.toNat=c;simp[h];simp only[decide_eq_false h,if_neg h,Bool.false_or];exact ih (i+1)
  exact this _ 0
 rw[e];refine Ja4 (λ_ i=>i) (λ_ (x:UInt8) (_:Unit)=>if x.toNat=c then .inr true else .inl ()) (λ_=>()) _ (λ_ _=>True) sgnL () (λi x b hx _=>⟨?_,λ_ _=>trivial⟩) (λb _=>by simp[bifd,sgnL]) (λb _=>rfl) trivial (by simp[sgnL];omega);have hi:=Kh hx;have hlt:x.toNat<128:=by
  have:∀ y∈sgnL,y.toNat<128:=by decide
  exact this x (Jm hx)
 obtain⟨e1,e2⟩:=Q7e hx hlt;have e1':decR [43,45,42,47,94,40,41,91,93,44,59,61] i=x.toNat:=e1;have e2':decW [43,45,42,47,94,40,41,91,93,44,59,61] i=1:=e2;have hi':i<([43,45,42,47,94,40,41,91,93,44,59,61]:List UInt8).length:=hi;simp only[bifd,if_pos hi',sbind,e1',e2'];rw[show Int.toNat ((x.toNat:Int)%256)=x.toNat by omega];by_cases h:x.toNat=c;rw[if_pos h,if_pos h];rfl;rw[if_neg h,if_neg h];rfl
theorem Q11{n c:Nat}(hn:big≤n):Qkf n c=some (kindC c):=by
 unfold Qkf kindC;rw[Qq4,sbind];cases digB c with
 | true=>rfl
 | false=>
   rw[bifF,Qpk,sbind];cases letB c with
   | true=>rfl
   | false=>rw[bifF,Q10 hn,sbind];cases sgnB c<;>rfl
theorem Q12(k:Int)(c:Nat):Qkg k c=some (goC k c):=by unfold Qkg goC;simp only[jn_eq,Qq4,Qpk,sbind,bifd];by_cases h1:k=1;subst h1;cases digB c<;>simp;by_cases h2:k=2;subst h2;cases letB c<;>cases digB c<;>simp;simp[h1,h2]
theorem Q13(k:Int):Qkh k=some (mostC k:Int):=by unfold Qkh mostC;simp only[bifd];grind
def firstL(k:Int)(s:List UInt8):Nat:=1+((s.drop 1).takeWhile (λc=>goC k c.toNat)).length
theorem Qso{α:Type}{p:α->Bool}:∀ {l:List α}{i:Nat},i<(l.takeWhile p).length->∃ x,l[i]?=some x∧p x=true
 | [],i,h=>by simp at h
 | y::l,0,h=>by
   cases hy:p y with
   | true=>exact⟨y,rfl,hy⟩
   | false=>rw[List.takeWhile_cons,hy] at h;simp at h
 | y::l,i+1,h=>by
   rw[List.takeWhile_cons] at h;cases hy:p y with
   | true=>rw[hy] at h;simp only[if_true,List.length_cons] at h;exact Qso (l:=l) (i:=i) (by omega)
   | false=>rw[hy] at h;simp at h
theorem Qsp{α:Type}{p:α->Bool}:∀ {l:List α}{x:α},l[(l.takeWhile p).length]?=some x->p x=false
 | [],x,h=>by simp at h
 | y::l,x,h=>by
   rw[List.takeWhile_cons] at h;cases hy:p y with
   | true=>rw[hy] at h;simp only[if_true,List.length_cons,List.getElem?_cons_succ] at h;exact Qsp h
   | false=>rw[hy] at h;simp at h;rw[←h];exact hy
theorem Quc{α:Type}(p:α->Bool)(l:List α):(l.takeWhile p).length≤l.length:=(List.takeWhile_sublist p).length_le
theorem Qz7{n:Nat}{s:List UInt8}{k:Int}(hn:big≤n)(hs:s.length≤4611686018427387904):Qiy n s k=some (firstL k s:Int):=by
 unfold Qiy;unfold big at hn;generalize hp:(λc:UInt8=>goC k c.toNat)=p;have hp':∀ c:UInt8,goC k c.toNat=p c:=λc=>by rw[←hp]
 have hlen:((s.drop 1).takeWhile p).length≤s.length:=Nat.le_trans (Quc _ _) (by simp);have hF:firstL k s=1+((s.drop 1).takeWhile p).length:=by unfold firstL;rw[hp]
 rw[hF];refine Qhz (λs':Int=>s.length+2 - s'.toNat) (λs'=>∃ j:Nat,s'=((1+j:Nat):Int)∧j≤((s.drop 1).takeWhile p).length) (λt=>t=((1+((s.drop 1).takeWhile p).length:Nat):Int)) ⟨0,rfl,Nat.zero_le _⟩ (by simp;omega) (λs' hI=>?_) (λt ht=>by rw[ht]);obtain⟨j,rfl,hj⟩:=hI;simp only[jn_eq,bifd];by_cases hl:1+j<s.length;rw[if_pos (by omega),Jas hl,sbind,Q12,sbind];have hg:(s.drop 1)[j]?=some s[1+j]:=by rw[List.getElem?_drop,List.getElem?_eq_getElem hl]
 by_cases hj2:j<((s.drop 1).takeWhile p).length;obtain⟨x,h1,h2⟩:=Qso hj2;rw[hg] at h1;cases h1;left;refine⟨((1+(j+1):Nat):Int),?_,⟨j+1,rfl,by omega⟩,by omega⟩;have:goC k (s[1+j]).toNat=true:=by rw[hp'];exact h2
 rw[this,bifT,w1 (by omega)];rfl;right;obtain rfl:j=((s.drop 1).takeWhile p).length:=by omega
 have h2:=Qsp hg;refine⟨_,?_,rfl⟩;have:goC k (s[1+((s.drop 1).takeWhile p).length]).toNat=false:=by rw[hp'];exact h2
 rw[this,bifF];right;rw[if_neg (by omega)];refine⟨_,rfl,?_⟩;have:((s.drop 1).takeWhile p).length≤(s.drop 1).length:=Quc _ _;rw[List.length_drop] at this;have:j=((s.drop 1).takeWhile p).length:=by omega
 rw[this]
theorem Qsq{α:Type}{p:α->Bool}:∀ {l:List α},(l.takeWhile p).length=l.length↔l.all p=true
 | []=>by simp
 | x::l=>by
   rw[List.takeWhile_cons];cases hx:p x with
   | true=>simp[hx,Qsq]
   | false=>simp[hx]
theorem Qz8{n:Nat}{w:Qh6}(hn:big≤n)(hs:w.Text.length≤4611686018427387904):Qgt n w=some (wdB w.Aq w.Text):=by
 unfold Qgt;simp only[jn_eq,Qz7 hn hs,sbind,Q13,bifd];cases hw:w.Text with
 | nil=>rfl
 | cons c r=>
   rw[if_neg (by simp)];by_cases h0:w.Aq=0;rw[if_pos h0,bifT];simp[wdB,h0];rw[if_neg h0,show getS (c::r) (0:Int)=some c.toNat by rfl,sbind,Q11 hn,sbind];by_cases hk:kindC c.toNat=w.Aq;simp only[decide_eq_true hk,Bool.not_true,bifF];have hl:(firstL w.Aq (c::r):Int)=((c::r).length:Int)↔r.all (λb=>goC w.Aq b.toNat)=true:=by rw[←Qsq];unfold firstL;simp only[List.drop_succ_cons,List.drop_zero,List.length_cons];omega
   by_cases ha:r.all (λb=>goC w.Aq b.toNat)=true;rw[if_pos (hl.2 ha)];simp only[wdB,ha,hk];simp;congr 1;rw[Bool.eq_iff_iff];simp;omega;rw[if_neg (λh=>ha (hl.1 h))];have:r.all (λb=>goC w.Aq b.toNat)=false:=by simpa using ha
   simp only[wdB,this,Bool.false_and,Bool.and_false];simp only[decide_eq_false hk,Bool.not_false,bifT];simp[wdB,hk]
theorem Qu2{lim T Y P}(hlim:lim≤4096):∀ {c:List Qt}{i:Nat}{done l:List Rat},QR 129 done->runQ lim T Y P c i done=.inr l->l.length=done.length+c.length∧QR 129 l
 | [],i,done,l,hd,h=>by simp only[runQ] at h;cases h;exact⟨rfl,hd⟩
 | x::c,i,done,l,hd,h=>by
   simp only[runQ] at h;cases hq:opQ x T Y P done with
   | none=>rw[hq] at h;cases h
   | some q=>
     rw[hq] at h;simp only[] at h;by_cases hf:(qz q:Int)≤lim
     . rw[if_pos hf] at h
       obtain⟨h1,h2⟩:=Qu2 hlim (λz hz=>by
        rcases List.mem_append.1 hz with hz | hz
        . exact hd z hz
        . rw[List.mem_singleton.1 hz]
          have:=qw_qz (q:=q) (b:=4096) (by omega);omega) h
       exact⟨by rw[h1];simp;omega,h2⟩
     . rw[if_neg hf] at h;cases h
theorem Qpl{lim T Y P}:∀ {c:List Qt}{i:Nat}{done:List Rat}{e},runQ lim T Y P c i done=.inl e->e.1=3∨e.1=6
 | [],i,done,e,h=>by simp only[runQ] at h;cases h
 | x::c,i,done,e,h=>by
   simp only[runQ] at h;cases hq:opQ x T Y P done with
   | none=>rw[hq] at h;cases h;exact .inl rfl
   | some q=>
     rw[hq] at h;simp only[] at h;by_cases hf:(qz q:Int)≤lim
     . rw[if_pos hf] at h;exact Qpl h
     . rw[if_neg hf] at h;cases h;exact .inr rfl
def fieldQ(t:Ql)(lim:Int)(T:Rat)(Y P:List Rat):(Int×Nat) ⊕ List Rat:=
 match runQ lim T Y P t.Code 0 [] with
 | .inl e=>.inl e
 | .inr l=>.inr (t.Ar.map λo=>l.getD o.toNat 0)
structure Qud(n k:Nat)(t:Ql):Prop where
 r:tapeR t
 h:Zc n t=some true
 w:∀ c∈t.Code,Fk k c.N
theorem Qz9{n k:Nat}{t:Ql}{p:Va}{bits:Int}(hn:big≤n)(h1:129≤k)(hk:k<1048576)(ht:Qud n k t)(hT:Fk k p.T)(hY:FR k p.Y)(hP:FR k p.P)(hy:(p.Y.length:Int)=t.Au)(hp:(p.P.length:Int)=t.Ay):
 Qiz n t p bits=some (match fieldQ t (min (max bits 0) 4096) (fv p.T) (rv p.Y) (rv p.P) with | .inl e=>([],⟨e.1,0,0,(e.2:Int)⟩) | .inr l=>(toR l,⟨0,0,0,0⟩)):=by
 obtain⟨r,h,w⟩:=ht;have hd:=r.1;obtain⟨⟨d1,d2⟩,⟨d3,d4⟩,d5,d6⟩:=hd;have eT:=qw_fv hT (by omega);have eY:=QR_rv hY (by omega);have eP:=QR_rv hP (by omega);unfold Qiz Qf4 Qco Wf;rw[K8 hn (Fk_Fw hT (by omega)),sbind,Zv hn (by omega) hY (by omega),sbind,Zv hn (by omega) hP (by omega),sbind,sbind,sbind];simp only[];obtain⟨g',e⟩:=Q3z (g:=⟨⟨0,0⟩,min (max bits 0) 4096⟩) hn h1 hk r h w eT eY eP (by rw[Q3];exact hy) (by rw[Q3];exact hp) (by simp only[];omega);rw[e,sbind];unfold fieldQ;simp only[];cases hr:runQ (min (max bits 0) 4096) (fv p.T) (rv p.Y) (rv p.P) t.Code 0 [] with
 | inl q=>
   have hk:=Qpl hr;simp only[];rw[sbind];simp only[];rw[Jw (by omega),Bool.not_false,bifT]
 | inr l=>
   obtain⟨l1,l2⟩:=Qu2 (by omega) (λ_ h=>by cases h) hr;have hl:l.length=t.Code.length:=by simpa using l1
   simp only[];rw[sbind];simp only[];rw[J2,Bool.not_true,bifF];unfold Qne;simp only[jn_eq,h,sbind,Bool.not_true,bifF];rw[Q2,decide_eq_true (show(l.length:Int)=(t.Code.length:Int) by omega),Bool.not_true,bifF,Qz3 (g:=λo:Int=>l.getD o.toNat 0) hn (by omega) λi o s ho=>?_,sbind];have hb:=r.2.2 o (Jm ho);rw[Qew hb.1 (by omega),sbind,K8 hn (Fk_Fw (Q6 (Vy l2 (by omega))) (by omega)),sbind,Q1]
theorem Q06{t:Ql}{lim T Y P l}(hlim:lim≤4096)(h:fieldQ t lim T Y P=.inr l):l.length=t.Ar.length∧QR 129 l:=by
 unfold fieldQ at h;cases hr:runQ lim T Y P t.Code 0 [] with
 | inl q=>rw[hr] at h;cases h
 | inr l'=>
   rw[hr] at h;cases h;obtain⟨l1,l2⟩:=Qu2 hlim (λ_ h=>by cases h) hr;refine⟨by simp,λq hq=>?_⟩;obtain⟨o,_,rfl⟩:=List.mem_map.1 hq;exact Vy l2 (by omega)
theorem Qv3{t:Ql}{lim T Y P e}(h:fieldQ t lim T Y P=.inl e):e.1=3∨e.1=6:=by
 unfold fieldQ at h;cases hr:runQ lim T Y P t.Code 0 [] with
 | inl q=>rw[hr] at h;cases h;exact Qpl hr
 | inr l'=>rw[hr] at h;cases h
def sumQ(l:List Rat):Rat:=l.foldl (λo x=>o+x) 0
theorem Qu3{k:Nat}:∀ {l:List Rat}{b:Nat}{z:Rat},QR k l->qw z≤b->qw (l.foldl (λo x=>o+x) z)≤b+l.length*(k+1)
 | [],b,z,_,h=>by simpa using h
 | x::l,b,z,hl,h=>by rw[List.foldl_cons];have:=Qu3 (l:=l) (λq hq=>hl q (.tail _ hq)) (Yl h (hl x (.head _)));rw[List.length_cons,Nat.succ_mul];omega
theorem Qpm{n k:Nat}{a:List Qa}(hn:big≤n)(h1:1≤k)(hk:k<1048576)(ha:FR k a)(hl:a.length≤1000):Qbj n a=some (toF (sumQ (rv a))):=by
 unfold Qbj;rw[Wu hn,sbind,X2 (λi=>toF ((rv (a.take i)).foldl (λo x=>o+x) 0)) a,Wr,List.take_length];rfl;intro i x hx;have hi:=Kh hx;have e1:a.take (i+1)=a.take i++[x]:=by rw[List.take_add_one,hx];rfl
 have e3:rv (a.take (i+1))=rv (a.take i)++[fv x]:=by unfold rv;rw[e1,List.map_append];rfl
 have hb:=Qu3 (l:=rv (a.take i)) (b:=1) (z:=0) (QR_rv (λy hy=>ha y (List.mem_of_mem_take hy)) h1) (by rw[Zn];exact Nat.le_refl _);have hc:(rv (a.take i)).length*(k+1)≤1000*1048576:=Nat.mul_le_mul (by rw[Q3];simp;omega) (by omega);rw[Vd (k:=2000000000) hn (by omega) (by omega) (Q6 (by omega)) (Vq (ha x (Jm hx)) (by omega)),sbind,e3,List.foldl_append,Q1];rfl;rfl
def numR(x:Qa):Prop:=x=toF (fv x)∧qz (fv x)≤190
theorem Jc0{n k:Nat}{x:Qa}(hn:big≤n)(hk:k<1048576)(hx:Fk k x):
 ((Xq n x).bind λr69=>bif !r69 then some true else (Yp n x).bind λr71=>some (decide ((190:Int)<r71)))=some (!dP (numR x)):=by
 rw[Qk9 hn (Fk_Fw hx (by omega)),sbind,@decP _ (Classical.propDecidable _),bifnP];unfold numR;by_cases h:x=toF (fv x)
 . have h1:qw (fv x)<1099511627776:=by
    rcases Nat.eq_zero_or_pos k with h0 | h0
    . subst h0
      have:=qw_fv (Vq hx (show 0≤1 by omega)) (Nat.le_refl 1);omega
    . have:=qw_fv hx h0;omega
   have e:Yp n x=some (qz (fv x):Int):=by
    conv=>lhs;rw[h]
    exact Qpg hn h1
   rw[if_pos h,e,sbind];by_cases h2:qz (fv x)≤190
   . rw[dP_t ⟨h,h2⟩,decide_eq_false (by omega)];rfl
   . rw[dP_f λg=>h2 g.2,decide_eq_true (by omega)];rfl
 . rw[if_neg h,dP_f λg=>h g.1];rfl
theorem Qlr{n k:Nat}{l:List (List Qa)}(hn:big≤n)(hk:k<1048576)(hl:∀ r∈l,FR k r):Qbb n l=some (dP (∀ r∈l,∀ x∈r,numR x)):=by
 unfold Qbb;rw[Yx (λ_ (r:List Qa)=>∀ x∈r,numR x) (r:=false)];rw[Qev];by_cases h:∀ r∈l,∀ x∈r,numR x;rw[if_pos h,dP_t h];rw[if_neg h,dP_f h];intro i r hr
 have key:(rangeL (λ(_:Nat) (x60:Qa) (_:Unit)=>
  jn (λ(j66:(Bool)->Option _)=>
   (Xq n x60).bind λr69=>
   bif !r69 then (
    j66 true)
   else (
    (Yp n x60).bind λr71=>
    j66 (decide ((190:Int)<r71)))) (λ(s68:Bool)=>
   bif s68 then (
    some (Lp.out (Lp.out (false))))
   else (
    some (Lp.go ())))) r 0 ()).bind (lpK λ(_:Unit)=>some (Lp.go ()))=@ite _ (∀ x∈r,numR x) (Classical.propDecidable _) (some (Lp.go ())) (some (Lp.out (σ:=Unit) (τ:=Bool) false)):=by
  rw[Yx (λ_ (x:Qa)=>numR x) (r:=Lp.out false),Qev];intro j x hx;have e:=Jc0 hn hk (hl r (Jm hr) x (Jm hx))
  have e2:(jn (λ(j66:(Bool)->Option (Lp Unit (Lp Unit Bool)))=>
   (Xq n x).bind λr69=>
   bif !r69 then (
    j66 true)
   else (
    (Yp n x).bind λr71=>
    j66 (decide ((190:Int)<r71)))) (λ(s68:Bool)=>
   bif s68 then (
    some (Lp.out (Lp.out (false))))
   else (
    some (Lp.go ()))))=((Xq n x).bind λr69=>bif !r69 then some true else (Yp n x).bind λr71=>some (decide ((190:Int)<r71))).bind λs68=>bif s68 then (
    some (Lp.out (Lp.out (false))))
   else (
    some (Lp.go ())):=by
   rw[jn_eq];cases Xq n x with
   | none=>rfl
   | some b=>
     rw[sbind,sbind];cases b;rfl;rw[Bool.not_true,bifF,bifF];cases Yp n x with
     | none=>rfl
     | some z=>rfl
  rw[e2,e,sbind];constructor;intro h;rw[dP_t h];rfl;intro h;rw[dP_f h];rfl
 rw[key];constructor;intro h;rw[if_pos h];intro h;rw[if_neg h]
def shapeR(s:Qv):Prop:=(1≤s.B.length∧s.B.length≤8)∧s.C.length=s.B.length∧s.A.length=s.B.length∧(s.E.length=s.B.length∨s.E.length=0)∧∀(i:Nat) r,s.A[i]?=some r->r.length=i
theorem Qvh(s:Qv):Qfg s=some (dP (shapeR s)):=by
 unfold Qfg shapeR;simp only[jn_eq,bifd,bifnd];by_cases c1:(s.B.length:Int)<1
 . rw[if_pos c1,bifT,dP_f (by omega)]
 rw[if_neg c1];by_cases c2:(8:Int)<(s.B.length:Int)
 . rw[if_pos c2,bifT,dP_f (by omega)]
 rw[if_neg c2];by_cases c3:(s.C.length:Int)=(s.B.length:Int)
 case neg=>rw[if_neg c3,bifT,dP_f (by omega)]
 rw[if_pos c3];by_cases c4:(s.A.length:Int)=(s.B.length:Int)
 case neg=>rw[if_neg c4,bifT,dP_f (by omega)]
 rw[if_pos c4]
 have hr:=Yx (f:=λ(i10:Nat) (x11:List Qa) (_:Unit)=>bif !decide ((x11.length:Int)=(i10:Int)) then some (Lp.out false) else some (Lp.go ())) (K:=λ_=>some true) (r:=false) (λi (r:List Qa)=>r.length=i) s.A (λi x hx=>by
  constructor
  . intro h;rw[decide_eq_true (by omega)];rfl
  . intro h;rw[decide_eq_false (by omega)];rfl)
 have hr':(rangeL (λ(i10:Nat) (x11:List Qa) (_:Unit)=>if (x11.length:Int)=(i10:Int) then some (Lp.go ()) else some (Lp.out false)) s.A 0 ()).bind (lpK λ_=>some true)=(rangeL (λ(i10:Nat) (x11:List Qa) (_:Unit)=>bif !decide ((x11.length:Int)=(i10:Int)) then some (Lp.out false) else some (Lp.go ())) s.A 0 ()).bind (lpK λ_=>some true):=by simp only[bifnd]
 have fin:(s.E.length=s.B.length∨s.E.length=0)->(rangeL (λ(i10:Nat) (x11:List Qa) (_:Unit)=>if (x11.length:Int)=(i10:Int) then some (Lp.go ()) else some (Lp.out false)) s.A 0 ()).bind (lpK λ_=>some true)=some (dP ((1≤s.B.length∧s.B.length≤8)∧s.C.length=s.B.length∧s.A.length=s.B.length∧(s.E.length=s.B.length∨s.E.length=0)∧∀(i:Nat) r,s.A[i]?=some r->r.length=i)):=by
  intro hE;rw[hr',hr];by_cases h:∀(i:Nat) r,s.A[i]?=some r->r.length=i
  . rw[if_pos h,dP_t ⟨by omega,by omega,by omega,hE,h⟩]
  . rw[if_neg h,dP_f λg=>h g.2.2.2.2]
 by_cases c5:(s.E.length:Int)=(s.B.length:Int)
 . rw[if_pos c5,bifF];exact fin (.inl (by omega))
 . rw[if_neg c5]
   by_cases c6:(s.E.length:Int)=0
   . rw[if_pos c6];exact fin (.inr (by omega))
   . rw[if_neg c6,dP_f (by omega)]
structure SchW(k:Nat)(s:Qv):Prop where
 a:∀ r∈s.A,FR k r
 b:FR k s.B
 c:FR k s.C
 e:FR k s.E
 n:s.Name.length≤4611686018427387904
def rowsR(s:Qv):Prop:=∀(i:Nat) r,s.A[i]?=some r->sumQ (rv r)=fv (s.C.getD i ⟨⟨false,[]⟩,[]⟩)
theorem Qws{n k:Nat}{s:Qv}(hn:big≤n)(h1:1≤k)(hk:k<1048576)(hs:SchW k s)(hsh:shapeR s):Qgg n s=some (dP (rowsR s)):=by
 unfold Qgg;obtain⟨⟨g1,g2⟩,g3,g4,g5,g6⟩:=hsh;rw[Yx (λi (r:List Qa)=>sumQ (rv r)=fv (s.C.getD i ⟨⟨false,[]⟩,[]⟩)) (r:=false)];unfold rowsR;by_cases h:∀(i:Nat) r,s.A[i]?=some r->sumQ (rv r)=fv (s.C.getD i ⟨⟨false,[]⟩,[]⟩);rw[if_pos h,dP_t h];rw[if_neg h,dP_f h];intro i r hr;have hi:=Kh hr;have hc:s.C[i]?=some (s.C.getD i ⟨⟨false,[]⟩,[]⟩):=by rw[List.getD_eq_getElem?_getD,List.getElem?_eq_getElem (show i<s.C.length by omega)];rfl
 have hrk:=hs.a r (Jm hr);have hrl:=g6 i r hr;have hck:=hs.c _ (Jm hc);have hb:=Qu3 (l:=rv r) (b:=1) (z:=0) (QR_rv hrk h1) (by rw[Zn];exact Nat.le_refl _);have hcc:(rv r).length*(k+1)≤8*1048576:=Nat.mul_le_mul (by rw[Q3];omega) (by omega);rw[Qpm hn h1 hk hrk (by omega),sbind,Ki hc,sbind,Qcv (k:=10000000) hn (by omega) (by omega) (Q6 (by unfold sumQ;omega)) (Vq hck (by omega)),sbind,Q1];constructor;intro h;rw[decide_eq_true h];rfl;intro h;rw[decide_eq_false h];rfl
def schR(s:Qv):Prop:=wdB 2 s.Name=true∧shapeR s∧((∀ r∈s.A,∀ x∈r,numR x)∧∀ r∈[s.B,s.C,s.E],∀ x∈r,numR x)∧rowsR s∧sumQ (rv s.B)=1∧(s.E≠[]->sumQ (rv s.E)=1)
theorem Q07{n k:Nat}{a:List Qa}(hn:big≤n)(h1:1≤k)(hk:k<1048576)(ha:FR k a)(hl:a.length≤8){β:Type}(f:Bool->Option β):
 ((Qbj n a).bind λr20=>(Xz n r20 (toF 1)).bind f)=f (decide (sumQ (rv a)=1)):=by
 have hb:=Qu3 (l:=rv a) (b:=1) (z:=0) (QR_rv ha h1) (by rw[Zn];exact Nat.le_refl _);have hcc:(rv a).length*(k+1)≤8*1048576:=Nat.mul_le_mul (by rw[Q3];omega) (by omega);have q1:qw 1≤10000000:=by unfold qw;rw[show(1:Rat).num=1 from rfl,show(1:Rat).den=1 from rfl,show(1:Int).natAbs=1 from rfl,toL1];omega
 rw[Qpm hn h1 hk ha (by omega),sbind,Qcv (k:=10000000) hn (by omega) (by omega) (Q6 (by unfold sumQ;omega)) (Q6 q1),sbind,Q1,Q1]
theorem Qvi{n k:Nat}{s:Qv}(hn:big≤n)(h1:1≤k)(hk:k<1048576)(hs:SchW k s):∃ v,Qcs n s=some v∧(v=0↔schR s):=by
 unfold Qcs;rw[Qb2 hn,sbind,Qz8 (w:=⟨2,s.Name,0⟩) hn hs.n,sbind];simp only[];unfold schR;cases hw:wdB 2 s.Name
 . exact⟨1,rfl,by simp⟩
 rw[Bool.not_true,bifF,Qvh,sbind,bifnP];by_cases hsh:shapeR s
 case neg=>rw[if_neg hsh];exact⟨2,rfl,λh=>by omega,λh=>absurd h.2.1 hsh⟩
 rw[if_pos hsh];have hl:=hsh;obtain⟨⟨g1,g2⟩,g3,g4,g5,g6⟩:=hl;simp only[jn_eq];rw[Qlr hn hk hs.a,sbind,bifnP]
 have hs3:∀ r∈[s.B,s.C,s.E],FR k r:=λr hr=>by
  rcases List.mem_cons.1 hr with rfl | hr
  . exact hs.b
  rcases List.mem_cons.1 hr with rfl | hr
  . exact hs.c
  rcases List.mem_cons.1 hr with rfl | hr
  . exact hs.e
  cases hr
 by_cases hA:∀ r∈s.A,∀ x∈r,numR x
 case neg=>rw[if_neg hA,bifT];exact⟨3,rfl,λh=>by omega,λh=>absurd h.2.2.1.1 hA⟩
 rw[if_pos hA,Qlr hn hk hs3,sbind,bifnP];by_cases hB:∀ r∈[s.B,s.C,s.E],∀ x∈r,numR x
 case neg=>rw[if_neg hB];exact⟨3,rfl,λh=>by omega,λh=>absurd h.2.2.1.2 hB⟩
 rw[if_pos hB,Qws hn h1 hk hs hsh,sbind,bifnP];by_cases hR:rowsR s
 case neg=>rw[if_neg hR];exact⟨4,rfl,λh=>by omega,λh=>absurd h.2.2.2.1 hR⟩
 rw[if_pos hR,Q07 hn h1 hk hs.b (by omega),bifnd];by_cases h5:sumQ (rv s.B)=1
 case neg=>rw[if_neg h5];exact⟨5,rfl,λh=>by omega,λh=>absurd h.2.2.2.2.1 h5⟩
 rw[if_pos h5,bifd];by_cases hE:(0:Int)<(s.E.length:Int)
 . have hE':s.E≠[]:=λh=>by rw[h] at hE;simp at hE
   rw[if_pos hE,Q07 hn h1 hk hs.e (by omega),bifnd];by_cases h6:sumQ (rv s.E)=1
   . rw[if_pos h6];exact⟨0,rfl,λ_=>⟨by trivial,hsh,⟨hA,hB⟩,hR,h5,λ_=>h6⟩,λ_=>rfl⟩
   . rw[if_neg h6];exact⟨6,rfl,λh=>by omega,λh=>absurd (h.2.2.2.2.2 hE') h6⟩
 . have hE':s.E=[]:=List.eq_nil_of_length_eq_zero (by omega)
   rw[if_neg hE,bifF];exact⟨0,rfl,λ_=>⟨by trivial,hsh,⟨hA,hB⟩,hR,h5,λh=>absurd hE' h⟩,λ_=>rfl⟩
theorem Qnb{n k:Nat}{s:Qv}(hn:big≤n)(h1:1≤k)(hk:k<1048576)(hs:SchW k s):Qct n s=some (dP (schR s)):=by obtain⟨v,e1,e2⟩:=Qvi hn h1 hk hs;unfold Qct;rw[e1,sbind];exact Qb5 e2
def gapQ(s:Qv):List Rat:=if s.E=[] then [] else addQ (rv s.B) (scaleQ (-1) (rv s.E))
theorem Qpn{n k:Nat}{s:Qv}(hn:big≤n)(h1:1≤k)(hk:k<1048576)(hs:SchW k s)(hr:schR s):Qbl n s=some (toR (gapQ s)):=by
 unfold Qbl gapQ;simp only[jn_eq];rw[Qnb hn h1 hk hs,sbind,dP_t hr,Bool.not_true,bifF];obtain⟨⟨g1,g2⟩,g3,g4,g5,g6⟩:=hr.2.1;by_cases hE:s.E=[]
 rw[if_pos hE,hE];rfl;have hl:s.E.length≠0:=λh=>hE (List.eq_nil_of_length_eq_zero h);have q1:qw (((-1:Int):Int):Rat)≤1:=by unfold qw;rw[Rat.num_intCast,Rat.den_intCast,show(-1:Int).natAbs=1 from rfl,toL1];omega
 have e1:(((-1:Int):Int):Rat)=-1:=rfl;rw[if_neg hE,decide_eq_false (by omega),bifF];unfold Qo9;rw[Qh2 hn (by decide) (by decide),sbind,Xx (k:=k+1) hn (by omega) (by omega) (Q6 (by omega)) (Js hs.e (by omega)) (by omega),sbind,Q1];rw[Qaz (k:=k+1) hn (by omega) (by omega) (Js hs.b (by omega)) (J6 (Q8 (Ql5 q1 (QR_rv hs.e h1)) (by omega))) (by omega),sbind,Q2,Zo,Q3,if_pos (by omega),sbind,Kw,e1]
theorem Q9f{k:Nat}{s:Qv}(h1:1≤k)(hs:SchW k s):QR (2*k+2) (gapQ s):=by
 unfold gapQ;split;intro x hx;cases hx;have q1:qw (-1:Rat)≤1:=by unfold qw;rw[show(-1:Rat).num=-1 from rfl,show(-1:Rat).den=1 from rfl,show(-1:Int).natAbs=1 from rfl,toL1];omega
 exact Q8 (Qq1 (QR_rv hs.b h1) (Ql5 q1 (QR_rv hs.e h1))) (by omega)
end Go.Proofs.YtkkfedionkhgnaaGreatDoor
