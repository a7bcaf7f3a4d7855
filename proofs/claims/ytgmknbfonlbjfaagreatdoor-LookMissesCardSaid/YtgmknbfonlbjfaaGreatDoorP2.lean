import Derived.Test.YtgmknbfonlbjfaaGreatDoorP1
namespace Go.Proofs.YtgmknbfonlbjfaaGreatDoor
open Go Go.RowKit
def wy(w:Qy):Int:=if w.Neg then -(val w.G1:Int) else (val w.G1:Int)
def rW(z:Int):Qy:=⟨decide (z<0),toL z.natAbs⟩
theorem wy_rW(z:Int):wy (rW z)=z:=by unfold wy rW;simp only[Qu];by_cases h:z<0;rw[oj h,oo rfl];omega;rw[oi h,ol oz];omega
theorem Qgo{n:Nat}{w:Qy}(d:big<=n)(e:Wd w.G1)(a:w.G1.length<=35184372088832):J9 n w=some (rW (wy w)):=by unfold J9 rW wy;rw[K6 d a,sbind,<-Ji e,jn_eq];cases w.Neg;rw[bifF,ol oz,oi om,uw];rw[bifT,oo rfl,Int.natAbs_neg,uw];have:=Qcc (v:=val w.G1);refine ud (λb=>some (⟨b,_⟩:Qy)) (vp.2 ?_);omega
theorem Qsk{n:Nat}{w u:Qy}(d:big<=n)(j:Wd w.G1)(i:Wd u.G1)(B:w.G1.length<17592186044410)(v:u.G1.length<17592186044410):X7 n w u=some (rW (wy w+wy u)):=by
 unfold X7;have g1:=Jn j;have A:=Jn i;have len:∀ z,z<=val w.G1+val u.G1->(toL z).length<=35184372088832:=λz x=>xm (Vv x) (xm (Qiw (k:=17592186044410) om om) oz);rw[Qls d om om j i,sbind,Qhb d om om j i,sbind,bifd];obtain⟨s,a⟩:=w;obtain⟨t,b⟩:=u;simp only at *
 have f:∀ s,J9 n ⟨s,toL (val a+val b)⟩=some (rW (if s then -((val a+val b:Nat):Int) else ((val a+val b:Nat):Int))):=λs=>by rw[Qgo d (Q3 _) (len _ (xn _))];unfold wy;simp only[Qu]
 have l:∀ s,val b<=val a->(Ve n a b).bind (λr=>(J9 n ⟨s,r⟩).bind λe=>some e)=some (rW (if s then -((val a - val b:Nat):Int) else ((val a - val b:Nat):Int))):=λs h=>by rw[Ql0 d om om j i h,sbind,Qgo d (Q3 _) (len _ om),sbind];unfold wy;simp only[Qu]
 have m:∀ s,val a<=val b->(Ve n b a).bind (λr=>(J9 n ⟨s,r⟩).bind λe=>some e)=some (rW (if s then -((val b - val a:Nat):Int) else ((val b - val a:Nat):Int))):=λs h=>by rw[Ql0 d om om i j h,sbind,Qgo d (Q3 _) (len _ om),sbind];unfold wy;simp only[Qu]
 have q:=@Qvr (val a) (val b);unfold wy;simp only[f,sbind];by_cases h:val a<val b;rw[oo (q.2 h),m t om];cases s<;>cases t<;>simp only[beq_self_eq_true,bifT,bifF,gm,vb,if_false,show(false == true)=false by rfl,show(true == false)=false by rfl]<;>congr 2<;>omega;rw[ol (λg=>h (q.1 g)),l s om];cases s<;>cases t<;>simp only[beq_self_eq_true,bifT,bifF,gm,vb,if_false,show(false == true)=false by rfl,show(true == false)=false by rfl]<;>congr 2<;>omega
def rF(q:Rat):Qc:=⟨decide (q.num<0),toL q.num.natAbs,toL q.den⟩
def fr(f:Qc):Rat:=mkRat (if f.Neg then -(val f.N:Int) else (val f.N:Int)) (val f.D)
theorem Qow(z:Int):(if decide (z<0) then -(z.natAbs:Int) else (z.natAbs:Int))=z:=by by_cases h:z<0;rw[oj h,oo rfl];omega;rw[oi h,ol oz];omega
theorem fr_rF(q:Rat):fr (rF q)=q:=by unfold fr rF;simp only[Qu];rw[Qow];exact va q
theorem Qzv{p q:Rat}(h:rF p=rF q):p=q:=by rw[<-fr_rF p,h,fr_rF]
theorem Q10:toL 1=[1]:=by rw[Yb oz];rw[show(1:Nat)%4294967296=1 from rfl,show(1:Nat) / 4294967296=0 from rfl,K0]
theorem Qxh:rF 0=⟨false,[],[1]⟩:=by unfold rF;rw[show(0:Rat).num=0 from rfl,show(0:Rat).den=1 from rfl,Q10,show(0:Int).natAbs=0 from rfl,K0];rfl
theorem rF_mk{s:Bool}{x d:Nat}(i:x≠0)(hd:d≠0):rF (mkRat (if s then -(x:Int) else (x:Int)) d)=⟨s,toL (x / Nat.gcd x d),toL (d / Nat.gcd x d)⟩:=by
 obtain⟨a,e⟩:=Qe0 (z:=if s then -(x:Int) else (x:Int)) hd;have j:(if s then -(x:Int) else (x:Int)).natAbs=x:=by cases s<;>simp
 have f:Nat.gcd x d ∣ x:=Nat.gcd_dvd_left _ _;have l:x / Nat.gcd x d≠0:=by have:=Nat.div_pos (Nat.le_of_dvd (Nat.pos_of_ne_zero i) f) (Nat.gcd_pos_of_pos_left d (Nat.pos_of_ne_zero i));omega
 rw[j] at a e;rw[<-Qxa s x _ f] at a;unfold rF;rw[a,e];generalize x / Nat.gcd x d=y at l;cases s;rw[ol oz,oi om,uw];rw[oo rfl,oj om,Int.natAbs_neg,uw]
theorem Za{n:Nat}{f:Qc}(a:big<=n)(j:Wd f.N)(i:Wd f.D)(lN:f.N.length<35184372087850)(lD:f.D.length<35184372087850):J8 n f=some (rF (fr f)):=by
 unfold J8;have g1:=Jn j;have q:=Jn i;rw[K6 a om,sbind,K6 a om,sbind,<-Ji j,<-Ji i];simp only[jn_eq,bifd];have r:=Qcc (v:=val f.N);have s:=Qcc (v:=val f.D);unfold fr;by_cases hd:val f.D=0;rw[oo om,hd,Rat.mkRat_zero,Qxh];rfl;rw[ol om];by_cases d:val f.N=0;rw[oo om,d];have:(if f.Neg=true then -((0:Nat):Int) else ((0:Nat):Int))=0:=by split<;>rfl
 rw[this,Rat.zero_mkRat,Qxh];rw[ol om,rF_mk d hd,Ql1,sbind];have l:Nat.gcd (val f.N) (val f.D)≠0:=by have:=Nat.gcd_pos_of_pos_left (val f.D) (Nat.pos_of_ne_zero d);omega
 have m:(toL (Nat.gcd (val f.N) (val f.D))).length<35184372087850:=ym (Vv (Nat.gcd_le_left _ (Nat.pos_of_ne_zero d))) om;by_cases e:toL (val f.D)=[1]
 rw[oj e,xg,bifF];have:val f.D=1:=by rw[<-Qu (val f.D),e];rfl
 rw[this,Nat.gcd_one_right,Nat.div_one,Nat.div_one];rw[oi e,xt,bifT,Qsj a om om (Q3 _) (Q3 _),sbind,Qu,Qu,Qki a om (Nat.lt_trans m oz) (Q3 _) (Q3 _) (by rw[Qu];exact l),sbind,Qki a om (Nat.lt_trans m oz) (Q3 _) (Q3 _) (by rw[Qu];exact l),sbind,Qu,Qu,Qu]
theorem wy_mk(z:Int)(d:Nat):wy ⟨decide (z<0),toL (z.natAbs*d)⟩=z*(d:Int):=by unfold wy;simp only[Qu,Int.natCast_mul];by_cases h:z<0;rw[oj h,oo rfl,<-Int.neg_mul];congr 1;omega;rw[oi h,ol oz];congr 1;omega
theorem Qbj{n k:Nat}{p q:Rat}(a:big<=n)(hk:k<274877906944)(i:qw p<=k)(j:qw q<=k):Ke n (rF p) (rF q)=some (rF (p+q)):=by
 have u:=Qdj p;have v:=Qdj q;have d:=Qdk p;have f:=Qdk q;have m:=@Yv p.num.natAbs q.den;have r:=@Yv q.num.natAbs p.den;have s:=@Yv p.den q.den;unfold Ke rF;simp only[];rw[Qbh a om om (Q3 _) (Q3 _),sbind,Qbh a om om (Q3 _) (Q3 _),sbind,Qu,Qu,Qu,Qu,Qsk a (Q3 _) (Q3 _) (by simp only[];omega) (by simp only[];omega),sbind,wy_mk,wy_mk,Qbh a om om (Q3 _) (Q3 _),sbind,Qu,Qu];have l:(toL (p.num*(q.den:Int)+q.num*(p.den:Int)).natAbs).length<=2*k+1:=by
  refine xm (Vv (Int.natAbs_add_le _ _)) ?_;rw[wo,wo,uw,uw];exact Qiw om om
 rw[Za a (Q3 _) (Q3 _) (by unfold rW;simp only[];omega) (by simp only[];omega),sbind];have e:fr ⟨(rW (p.num*(q.den:Int)+q.num*(p.den:Int))).Neg,(rW (p.num*(q.den:Int)+q.num*(p.den:Int))).G1,toL (p.den*q.den)⟩=p+q:=by unfold fr rW;simp only[Qu];rw[Qow,<-wu _ _ p.den_nz q.den_nz,va,va]
 rw[e];rfl
theorem Q3q(z:Int)(_:z≠0):(if (!decide (z<0)) then -(z.natAbs:Int) else (z.natAbs:Int))=-z:=by by_cases h:z<0;rw[oj h,xg,ol oz];omega;rw[oi h,xt,oo rfl];omega
theorem Qsl{n k:Nat}{q:Rat}(a:big<=n)(hk:k<274877906944)(f:qw q<=k):X6 n (rF q)=some (rF (-q)):=by
 have i:=Qdj q;have d:=Qdk q;unfold X6 rF;simp only[];rw[Za a (Q3 _) (Q3 _) (by simp only[];omega) (by simp only[];omega),sbind];have e:fr ⟨!decide (q.num<0),toL q.num.natAbs,toL q.den⟩=-q:=by unfold fr;simp only[Qu];by_cases h0:q.num=0;rw[h0];have:q=0:=Rat.num_eq_zero.1 h0;subst this;rfl;rw[Q3q _ h0,<-Rat.neg_mkRat,va]
 rw[e];rfl
theorem Qsm{n k:Nat}{p q:Rat}(a:big<=n)(hk:k<274877906944)(e:qw p<=k)(d:qw q<=k):X8 n (rF p) (rF q)=some (rF (p - q)):=by unfold X8;rw[Qsl a hk d,sbind,Qbj a hk e (by rw[Qzj];exact d),sbind,Rat.sub_eq_add_neg]
theorem Q0w(z u:Int):(if (decide (z<0) != decide (u<0)) then -((z.natAbs*u.natAbs:Nat):Int) else ((z.natAbs*u.natAbs:Nat):Int))=z*u:=by rw[Qw9,Qow,Qow]
theorem Ql3{n k:Nat}{p q:Rat}(a:big<=n)(hk:k<274877906944)(i:qw p<=k)(j:qw q<=k):W0 n (rF p) (rF q)=some (rF (p*q)):=by
 have r:=Qdj p;have s:=Qdj q;have d:=Qdk p;have f:=Qdk q;have l:=@Yv p.num.natAbs q.num.natAbs;have m:=@Yv p.den q.den;unfold W0 rF;simp only[];rw[Qbh a om om (Q3 _) (Q3 _),sbind,Qbh a om om (Q3 _) (Q3 _),sbind,Qu,Qu,Qu,Qu,Za a (Q3 _) (Q3 _) (by simp only[];omega) (by simp only[];omega),sbind];have e:fr ⟨decide (p.num<0) != decide (q.num<0),toL (p.num.natAbs*q.num.natAbs),toL (p.den*q.den)⟩=p*q:=by
  unfold fr;simp only[Qu];rw[Q0w,<-Rat.mkRat_mul_mkRat,va,va]
 rw[e];rfl
theorem Qvy{v:Nat}:((toL v).length:Int)=0↔v=0:=by have:=Qcc (v:=v);omega
theorem Qcn(q:Rat):Jx (rF q)=some q.num.sign:=by unfold Jx rF;simp only[bifd];by_cases h:q.num=0;rw[oo (Qvy.2 om),h];rfl;rw[ol (λg=>h (by have:=Qvy.1 g;omega))];by_cases a:q.num<0;rw[oo a,Int.sign_eq_neg_one_of_neg a];rw[ol a,Int.sign_eq_one_of_pos om]
theorem Qsn{n k:Nat}{p q:Rat}(a:big<=n)(hk:k<274877906944)(d:qw p<=k)(e:qw q<=k):Wz n (rF p) (rF q)=some (Int.sign (p - q).num):=by unfold Wz;rw[Qsm a hk d e,sbind,Qcn,sbind]
open Classical in
theorem Qkj{n:Nat}{f g:Qc}(j:big<=n)(l:f.N.length<=4611686018427387904)(m:f.D.length<=4611686018427387904):Jw n f g=some (decide (f=g)):=by unfold Jw;simp only[jn_eq];obtain⟨s,a,d⟩:=f;obtain⟨t,b,e⟩:=g;simp only at *;by_cases c1:s=t;subst c1;rw[show(s == s)=true by simp,bifT,Qka j l,sbind];by_cases i:a=b;subst i;rw[oj rfl,bifT,Qka j m,sbind];exact ud some (vp.2 ⟨λh=>by rw[h],λh=>by cases h;rfl⟩);rw[oi i,bifF,oi (λh=>by cases h;exact i rfl)];rw[show(s == t)=false by simpa using c1,bifF,oi (λh=>by cases h;exact c1 rfl)]
theorem Qjn{n k:Nat}{p q:Rat}(a:big<=n)(hk:k<274877906944)(e:qw p<=k):Jw n (rF p) (rF q)=some (decide (p=q)):=by have f:=Qdj p;have d:=Qdk p;rw[Qkj a (by show(toL p.num.natAbs).length<=_;omega) (by show(toL p.den).length<=_;omega)];exact ud some (vp.2 ⟨Qzv,λh=>by rw[h]⟩)
theorem Qol{n x:Nat}(a:big<=n)(f:x<18446744073709551616):Xb n x=some (toL x):=by
 unfold Xb;have e:Wd [x%4294967296%4294967296,x / 4294967296%4294967296]:=Jg.2 ⟨om,Jg.2 ⟨om,J4⟩⟩;have d:val [x%4294967296%4294967296,x / 4294967296%4294967296]=x:=by simp only[val];omega
 rw[sbind,K6 a oc,sbind,<-Ji e,d]
theorem Qkk{n:Nat}{x:Int}(d:big<=n)(l:-9223372036854775808<=x)(m:x<=9223372036854775807):Kv n x=some (rF (x:Rat)):=by
 unfold Kv;have a:Wd [1]:=Jg.2 ⟨oz,J4⟩;have j:val [1]=1:=rfl;have i:∀ z,z<18446744073709551616->(toL z).length<=2:=λz r=>Qah (by rw[Kc,Kc,Xf];omega);rw[bifd];by_cases h:x<0;have e:Int.toNat (wrap64 (-(wrap64 (x+1)))%18446744073709551616)=x.natAbs - 1:=by rw[w64 (x:=x+1) om om,w64 om om];omega
 have q:=i (x.natAbs - 1) om;have f:=i x.natAbs om;rw[oo h,sbind,e,Qol d om,sbind,Qls d om oc (Q3 _) a,sbind,Qu,j,show x.natAbs - 1+1=x.natAbs by omega,Za d (Q3 _) a (by simp only[];omega) oc,sbind];congr 2;unfold fr;simp only[Qu,j];rw[oo trivial,show -((x.natAbs:Nat):Int)=x by omega,<-Rat.mkRat_one];have e:Int.toNat (x%18446744073709551616)=x.natAbs:=om
 have f:=i x.natAbs om;rw[ol h,e,Qol d om,sbind,Za d (Q3 _) a (by simp only[];omega) oc,sbind];congr 2;unfold fr;simp only[Qu,j];rw[ol oz,show((x.natAbs:Nat):Int)=x by omega,<-Rat.mkRat_one]
theorem Qjo{n:Nat}(a:big<=n):Kv n 0=some (rF 0):=Qkk a oz oz
def rR(l:List Rat):List Qc:=l.map rF
theorem Qak(l:List Rat):(rR l).length=l.length:=by unfold rR;simp
theorem Qom{l:List Rat}{i:Nat}{q:Rat}(h:l[i]?=some q):(rR l)[i]?=some (rF q):=by unfold rR;rw[ug,h];rfl
theorem Q3r{a b:List Rat}(h:rR a=rR b):a=b:=by
 unfold rR at h
 induction a generalizing b with
 | nil=>cases b with
   | nil=>rfl
   | cons y b=>cases h
 | cons x a f=>cases b with
   | nil=>cases h
   | cons y b=>
     rw[xu,xu] at h;obtain⟨d,e⟩:=List.cons.inj h;rw[Qzv d,f e]
theorem Qso(l:List Rat)(q:Rat):rR (l++[q])=rR l++[rF q]:=by unfold rR;simp
theorem Yc{α:Type}{l:List α}{i:Nat}{x:α}(h:l[i]?=some x):l.take (i+1)=l.take i++[x]:=by rw[List.take_add_one,h];rfl
def FRr(k:Nat)(l:List Qc):Prop:=∀ f∈l,Wd f.N/\Wd f.D/\f.N.length<=k/\f.D.length<=k
def rvr(l:List Qc):List Rat:=l.map fr
theorem Qd0(l:List Qc):(rvr l).length=l.length:=by unfold rvr;simp
theorem fr_tF(f:Qc):fv (tF f)=fr f:=rfl
theorem Qjp(l:List Qc):rv (l.map tF)=rvr l:=by unfold rv rvr;rw[yy];rfl
theorem qw_fr{f:Qc}{k:Nat}(h:Wd f.N/\Wd f.D/\f.N.length<=k/\f.D.length<=k)(a:1<=k):qw (fr f)<=k:=by rw[<-fr_tF];exact qw_fv ⟨h.1,h.2.2.1,h.2.1,h.2.2.2⟩ a
theorem Qra{k:Nat}{l:List Qc}(h:FRr k l)(a:1<=k):QR k (rvr l):=λq e=>by obtain⟨f,d,rfl⟩:=xy.1 e;exact qw_fr (h f d) a
theorem Qjq{n k:Nat}{l:List Qc}(f:big<=n)(hk:k<1099511627776)(h:FRr k l)(j:l.length<=1000000):V8 n l=some (rR (rvr l)):=by
 unfold V8;rw[Yu (λi=>(rR (rvr (l.take i)),(i:Int))) l.length (rR (rvr l))];intro i hi;have d:l[i]?=some l[i]:=oq hi;have a:=h l[i] (um hi);generalize l[i]=p at d a;simp only[bifd];have e:rvr (l.take (i+1))=rvr (l.take i)++[fr p]:=by rw[Yc d];unfold rvr;simp
 rw[oo om,J6 d,sbind,Za f a.1 a.2.1 om om,sbind,Vm (by simp[Qak,Qd0];omega) (by simp[Qak,Qd0];omega),sbind,w1 om,e,Qso];simp only[bifd];rw[ol om,xv];unfold big at f;omega;rfl
open Classical in
theorem Qkl{n:Nat}{a b:List Qc}(q:big<=n)(s:a.length<=1000000)(h:∀ f∈a,f.N.length<=4611686018427387904/\f.D.length<=4611686018427387904):Kn n a b=some (decide (a=b)):=by
 unfold Kn;by_cases j:a.length=b.length;rw[oj (show(a.length:Int)=(b.length:Int) by omega),xg,bifF];rw[Qg3 (λi=>a[i]?=b[i]?) a.length (r:=false)];have e:(∀ i,i<a.length->a[i]?=b[i]?)↔a=b:=by constructor;intro g;refine List.ext_getElem? λi=>?_;rcases xd i a.length with hi | hi;exact g i hi;rw[ou hi,ou om];rintro rfl i _;rfl
 by_cases g:a=b;rw[oo (e.2 g),oj g];rw[ol (λh=>g (e.1 h)),oi g];intro i hi;have m:a[i]?=some a[i]:=oq hi;have d:b[i]?=some (b[i]' om):=oq om;have l:=h a[i] (um hi);generalize a[i]=x at m l;generalize b[i]' om=y at d;simp only[bifd];rw[oo om,J6 m,sbind,J6 d,sbind,Qkj q l.1 l.2,sbind,m,d,w1 om];constructor;intro g;rw[oj (Option.some.inj g)];rfl;intro g;rw[oi (λh=>g (by rw[h]))];rfl;simp only[bifd];rw[ol om];unfold big at q;omega;rw[oi (show ¬(a.length:Int)=(b.length:Int) by omega),xt,bifT,oi];intro g;exact j (by rw[g])
theorem Qxi{q:Rat}{k:Nat}(h:qw q<=k):(rF q).N.length<=k/\(rF q).D.length<=k:=by have:=Qdj q;have:=Qdk q;exact⟨by show(toL q.num.natAbs).length<=k;omega,by show(toL q.den).length<=k;omega⟩
theorem Qjr{n k:Nat}{a b:List Rat}(i:big<=n)(e:a.length<=1000000)(hk:k<274877906944)(h:QR k a):Kn n (rR a) (rR b)=some (decide (a=b)):=by
 classical
 rw[Qkl i (by rw[Qak];exact e) (λf d=>by
  obtain⟨q,j,rfl⟩:=xy.1 d;have:=Qxi (h q j)
  exact⟨om,om⟩)]
 exact ud some (vp.2 ⟨Q3r,λh=>by rw[h]⟩)
def oF(x:Qa):Qc:=⟨x.Num.Neg,x.Num.G1,x.Den⟩
theorem Q3s(q:Rat):oF (toF q)=rF q:=rfl
theorem Q3t(l:List Rat):(toR l).map oF=rR l:=by unfold toR rR;rw[yy];rfl
theorem Qnf(x:Qa):Yi x=some (oF x):=rfl
theorem Qt5{n:Nat}{l:List Qa}(d:big<=n)(e:l.length<=1000000):Yj n l=some (l.map oF):=by unfold Yj;rw[Yu (λi=>((l.take i).map oF,(i:Int))) l.length (l.map oF)];intro i hi;have a:l[i]?=some l[i]:=oq hi;generalize l[i]=p at a;simp only[bifd,Qnf,sbind];rw[oo om,J6 a,sbind,Vm oh oh,sbind,w1 om,Xv oF a];simp only[bifd];rw[ol om,xv];unfold big at d;omega;rfl
theorem Qsp{n k:Nat}{p q:Rat}(a:big<=n)(hk:k<274877906944)(d:qw p<=k):Yl n (toF p) (rF q)=some (decide (p=q)):=by unfold Yl;rw[Qnf,sbind,Q3s,Qjn a hk d,sbind]
theorem Qsq{n k:Nat}{a b:List Rat}(e:big<=n)(d:a.length<=1000000)(hk:k<274877906944)(h:QR k a):Yk n (toR a) (rR b)=some (decide (a=b)):=by unfold Yk;rw[Qt5 e (by rw[Qcd];exact d),sbind,Q3t,Qjr e d hk h,sbind]
theorem Qzw{many k:Nat}{l:List Qc}(e:Va l)(h:FL many k l):FRr k l:=λx d=>by have a:=e.2 x d;have:=h.2 x d;exact⟨a.2.1.2,a.2.2.1.2,this.1,this.2⟩
theorem Ql4{n k:Nat}{a b:List Rat}(j:big<=n)(hk:k<274877906944)(q:QR k a)(r:QR k b)(s:a.length=b.length)(u:a.length<=1000000):Vz n (rR a) (rR b)=some (rR (addQ a b)):=by
 unfold Vz;rw[Yu (λi=>(rR (addQ (a.take i) (b.take i)),(i:Int))) a.length (rR (addQ a b))];intro i hi;have f:a[i]?=some a[i]:=oq hi;have d:b[i]?=some (b[i]' om):=oq om;have l:=q a[i] (um hi);have m:=r (b[i]' om) (um om);generalize a[i]=x at f l;generalize b[i]' om=y at d m;simp only[bifd];have e:addQ (a.take (i+1)) (b.take (i+1))=addQ (a.take i) (b.take i)++[x+y]:=by
  rw[Yc f,Yc d];unfold addQ;rw[List.zipWith_append oh];rfl
 rw[oo (by rw[Qak];omega),J6 (Qom f),sbind,J6 (Qom d),sbind,Qbj j hk l m,sbind,Vm (by simp[Qak,Qha];omega) (by simp[Qak,Qha];omega),sbind,w1 om,e,Qso];simp only[bifd];rw[ol (by rw[Qak];omega),xv,s,xv];unfold big at j;omega;rfl
theorem Qpw{n k:Nat}{c:Rat}{a:List Rat}(f:big<=n)(hk:k<274877906944)(m:qw c<=k)(l:QR k a)(q:a.length<=1000000):V9 n (rF c) (rR a)=some (rR (scaleQ c a)):=by
 unfold V9;rw[Yu (λi=>(rR (scaleQ c (a.take i)),(i:Int))) a.length (rR (scaleQ c a))];intro i hi;have d:a[i]?=some a[i]:=oq hi;have j:=l a[i] (um hi);generalize a[i]=x at d j;simp only[bifd];have e:scaleQ c (a.take (i+1))=scaleQ c (a.take i)++[c*x]:=by rw[Yc d];unfold scaleQ;simp
 rw[oo (by rw[Qak];omega),J6 (Qom d),sbind,Ql3 f hk m j,sbind,Vm (by simp[Qak,Qgl];omega) (by simp[Qak,Qgl];omega),sbind,w1 om,e,Qso];simp only[bifd];rw[ol (by rw[Qak];omega),xv];unfold big at f;omega;rfl
def fresh(out:List Qks)(i:Nat)(s:List UInt8):Prop:=∀ w,out.getLast?=some w->w.At+w.Text.length<=i/\∀ c r,s=c::r->w.At+w.Text.length=(i:Int)->goC w.G3 c.toNat=false
theorem Q3u{a b:Qc}(h:tF a=tF b):a=b:=by obtain⟨s,x,d⟩:=a;obtain⟨t,y,e⟩:=b;unfold tF at h;simp only[] at h;cases h;rfl
theorem Q3v(q:Rat):tF (rF q)=toF q:=rfl
theorem Qal{f:Qc}:rF (fr f)=f↔tF f=toF (fv (tF f)):=by rw[fr_tF,<-Q3v];exact⟨λh=>by rw[h],λh=>(Q3u h).symm⟩
theorem Fk_wd{k:Nat}{f:Qc}(h:Fk k (tF f)):Wd f.N/\Wd f.D/\f.N.length<=k/\f.D.length<=k:=⟨h.1,h.2.2.1,h.2.1,h.2.2.2⟩
theorem Q11{α β:Type}(f:α->β){l:List α}{i:Nat}{x:α}(h:l[i]?=some x):(l.map f)[i]?=some (f x):=by rw[ug,h];rfl
def FKs(k:Nat)(l:List Qc):Prop:=∀ f∈l,Fk k (tF f)
structure SchWr(k:Nat)(s:Qcv):Prop where
 a:∀ r∈s.A,FKs k r
 al:∀ r∈s.A,r.length<=1000000
 b:FKs k s.B
 bl:s.B.length<=1000000
 c:FKs k s.C
 cl:s.C.length<=1000000
 e:FKs k s.E
 el:s.E.length<=1000000
 nl:s.Name.length<=1000000
structure PrbWr(k:Nat)(p:Qch):Prop where
 t:∀ x∈p.Tape.Code,Fk k (tF x.N)
 o:p.Tape.Outs.length<=1000000
 s:SchWr k p.G0
 pk:FKs k p.P
 pl:p.P.length<=1000000
def rRR(l:List (List Rat)):List (List Qc):=l.map rR
set_option maxRecDepth 100000
theorem Fk_tF{k:Nat}{x:Qc}(a:K3 x)(h:x.N.length<=k/\x.D.length<=k):Fk k (tF x):=⟨a.2.1.2,h.1,a.2.2.1.2,h.2⟩
theorem FR_tF{many k:Nat}{l:List Qc}(d:Va l)(h:FL many k l):FR k (l.map tF):=λx e=>by obtain⟨y,a,rfl⟩:=xy.1 e;exact Fk_tF (d.2 y a) (h.2 y a)
theorem PrbW.mono{j k:Nat}{p:Qx}(h:PrbW j p)(hk:j<=k):PrbW k p:=
 ⟨λc a=>Qbi (h.t c a) hk,h.d,⟨λr d=>Qce (h.s.a r d) hk,Qce h.s.b hk,Qce h.s.c hk,Qce h.s.e hk,h.s.n⟩,Qce h.p hk⟩
set_option maxRecDepth 100000
theorem PrbWr.mono{j k:Nat}{p:Qch}(h:PrbWr j p)(hk:j<=k):PrbWr k p:=
 ⟨λx e=>Qbi (h.t x e) hk,h.o,⟨λr d f a=>Qbi (h.s.a r d f a) hk,h.s.al,λf a=>Qbi (h.s.b f a) hk,h.s.bl,λf a=>Qbi (h.s.c f a) hk,h.s.cl,λf a=>Qbi (h.s.e f a) hk,h.s.el,h.s.nl⟩,λf a=>Qbi (h.pk f a) hk,h.pl⟩
set_option maxRecDepth 100000
theorem Qvz{j k:Nat}{l:List Qc}(h:FRr j l)(hk:j<=k):FRr k l:=λf e=>by obtain⟨a,b,c,d⟩:=h f e;exact⟨a,b,om,om⟩
set_option maxRecDepth 100000
def tTry(t:Qt):Q1:=⟨tF t.T,tF t.Gz,tF t.H,tF t.G2,t.Y.map tF,t.Ok⟩
def tHis(h:Qj):Qw:=⟨h.Gx.map tTry,tF h.T,h.Y.map tF⟩
theorem Qt6{n:Nat}{h:Qj}(a:big<=n)(l:h.Gx.length<=1000000)(f:h.Y.length<=1000000)(j:∀ t∈h.Gx,t.Y.length<=1000000):Yh n h=some (tHis h):=by unfold Yh Km;rw[sbind,Qh9 a f,sbind];rw[Yu (λi=>((h.Gx.take i).map tTry,(i:Int))) h.Gx.length (h.Gx.map tTry)];rfl;intro i hi;have d:h.Gx[i]?=some h.Gx[i]:=oq hi;have e:=j h.Gx[i] (um hi);generalize h.Gx[i]=t at d e;rw[oj (show(i:Int)<(h.Gx.length:Int) by omega),bifT,J6 d,sbind,sbind,sbind,sbind,sbind,Qh9 a e,sbind,Vm oh oh,sbind,w1 om,Xv tTry d];rfl;rw[oi om,bifF,xv];unfold big at a;omega;rfl
def SmaT(t:Qt):Prop:=FL 4 2 [t.T,t.Gz,t.H,t.G2]/\FL 8 2 t.Y
theorem Q01{n:Nat}{h:Qj}(A:big<=n):∃ v,Vq n h 3 2=some v/\(v=false->h.Gx.length<=3/\(h.T.N.length<=2/\h.T.D.length<=2)/\FL 8 2 h.Y/\∀ t∈h.Gx,SmaT t):=by
 unfold Vq Ky;simp only[jn_eq,bifd];by_cases I:(3:Int)<(h.Gx.length:Int)
 . rw[oo I];exact⟨true,rfl,λh=>by cases h⟩
 have H:=Qgm h.T 2;rw[show((2:Nat):Int)=2 from rfl] at H;rw[ol I,H,sbind];by_cases x:h.T.N.length<=2/\h.T.D.length<=2
 case neg=>rw[oi x];exact⟨true,rfl,λh=>by cases h⟩
 rw[oj x,xg,bifF];have m:∀ l,∃ v,Qv n l 4 2=some v/\(v=false->FL 4 2 l):=λl=>Qaj (many:=4) (k:=2) A oz;have j:∀ l,∃ v,Qv n l 8 2=some v/\(v=false->FL 8 2 l):=λl=>Qaj (many:=8) (k:=2) A oz;obtain⟨v,g1,M⟩:=j h.Y;rw[g1,sbind];cases v
 case true=>exact⟨true,rfl,λh=>by cases h⟩
 rw[bifF]
 have N:=Qg3 (f:=λ(a:Int)=>
  if a<(h.Gx.length:Int) then (
   (getI h.Gx a).bind λe=>
   (some ([e.T,e.Gz,e.H,e.G2]:List Qc)).bind λC=>
   (Qv n C 4 2).bind λE=>
   bif E then (bif true then some (Lp.out (Lp.out true)) else some (Lp.go (wrap64 (a+(1:Int)))))
   else (
    (getI h.Gx a).bind λG=>
    (Qv n G.Y 8 2).bind λF=>
    bif F then some (Lp.out (Lp.out true)) else some (Lp.go (wrap64 (a+(1:Int))))))
  else (
   some (Lp.out (Lp.go ())))) (n:=n) (K:=λ(_:Unit)=>some false) (r:=true) (λi=>∀ t,h.Gx[i]?=some t->Qv n [t.T,t.Gz,t.H,t.G2] 4 2=some false/\Qv n t.Y 8 2=some false) h.Gx.length (λi hi=>by
  have q:h.Gx[i]?=some h.Gx[i]:=oq hi;generalize h.Gx[i]=t at q;obtain⟨v,s,J⟩:=m [t.T,t.Gz,t.H,t.G2];obtain⟨w,u,L⟩:=j t.Y;rw[oo om,J6 q,sbind,sbind,s,sbind,sbind,u,sbind];cases v
  . cases w
    . rw[bifF,bifF,w1 om]
      exact⟨λ_=>rfl,λg=>absurd (λd hd=>by rw[q] at hd;cases hd;exact⟨s,u⟩) g⟩
    . exact⟨λg=>(by have:=(g t q).2;rw[u] at this;cases this),λ_=>rfl⟩
  . exact⟨λg=>(by have:=(g t q).1;rw[s] at this;cases this),λ_=>rfl⟩) (by rw[ol om]) (by unfold big at A;omega)
 rw[N];by_cases B:∀ i,i<h.Gx.length->∀ t,h.Gx[i]?=some t->Qv n [t.T,t.Gz,t.H,t.G2] 4 2=some false/\Qv n t.Y 8 2=some false
 . rw[oo B]
   refine⟨false,rfl,λ_=>⟨om,x,M rfl,λt O=>?_⟩⟩;obtain⟨i,hi⟩:=wi O;obtain⟨v,s,J⟩:=m [t.T,t.Gz,t.H,t.G2];obtain⟨w,u,L⟩:=j t.Y;obtain⟨a1,a2⟩:=B i (Vs hi) t hi;rw[s] at a1;rw[u] at a2;exact⟨J (Option.some.inj a1),L (Option.some.inj a2)⟩
 . rw[ol B];exact⟨true,rfl,λh=>by cases h⟩
def okT(l:List Q1):List Q1:=l.filter (·.Ok)
def nT(t:Q1):Q1:=⟨toF (fv t.T),toF (fv t.Gz),toF (fv t.H),toF (fv t.G2),toR (rv t.Y),true⟩
def FT(k:Nat)(t:Q1):Prop:=FR k [t.T,t.Gz,t.H,t.G2]/\FR k t.Y/\t.Y.length<=1000000
theorem Qe7{n k:Nat}{l:List Qa}(d:big<=n)(a:1<=k)(hk:k<1099511627776)(h:FR k l)(e:l.length<=1000000):Zc n l=some (toR (rv l)):=by unfold Zc;rw[Qtz d,sbind,Qg9 (k:=k) d a hk (Qer (by rw[Qq8];exact a)) h e,sbind,Qdi,Q1x]
theorem Qon(l:List Q1):(okT l).length<=l.length:=List.length_filter_le _ _
theorem Qhu{n k:Nat}{h:Qw}(f:big<=n)(e:1<=k)(hk:k<1099511627776)(r:h.Gx.length<=1000000)(q:∀ t∈h.Gx,FT k t):Yg n h=some ((okT h.Gx).map nT):=by unfold Yg;rw[Qfn (λi=>(okT (h.Gx.take i)).map nT) h.Gx];rw[xv];rfl;intro i x d;obtain⟨g1,m,g3⟩:=q x (Kg d);have hi:=Vs d;have a:=Qon (h.Gx.take i);rw[xh] at a;rw[Yc d];have l:okT (h.Gx.take i++[x])=okT (h.Gx.take i)++okT [x]:=List.filter_append _ _;rw[l,xw];cases j:x.Ok;rw[bifF,show okT [x]=[] from by unfold okT;simp[j],List.map_nil,uj];rw[bifT,show okT [x]=[x] from by unfold okT;simp[j]];unfold Xa;rw[sbind,Qe7 f e hk g1 oc,sbind,show getI (toR (rv [x.T,x.Gz,x.H,x.G2])) 0=some (toF (fv x.T)) from rfl,sbind,show getI (toR (rv [x.T,x.Gz,x.H,x.G2])) 1=some (toF (fv x.Gz)) from rfl,sbind,show getI (toR (rv [x.T,x.Gz,x.H,x.G2])) 2=some (toF (fv x.H)) from rfl,sbind,show getI (toR (rv [x.T,x.Gz,x.H,x.G2])) 3=some (toF (fv x.G2)) from rfl,sbind,Qe7 f e hk m g3,sbind,Vm oh oh,sbind];rfl;rfl
def szs(h:Qw):List Rat:=(okT h.Gx).map (fv ·.H)
def okR(l:List Qt):List Qt:=l.filter (·.Ok)
def FTr(k:Nat)(t:Qt):Prop:=FRr k [t.T,t.Gz,t.H,t.G2]/\FRr k t.Y/\t.Y.length<=1000000
theorem Qv0(l:List Qt):(okR l).length<=l.length:=List.length_filter_le _ _
theorem Q12(l:List Qt):okT (l.map tTry)=(okR l).map tTry:=by unfold okT okR;rw[List.filter_map];rfl
theorem Qv1(l:List Qt)(x:Qt):okR (l++[x])=if x.Ok=true then okR l++[x] else okR l:=by have e:okR (l++[x])=okR l++okR [x]:=List.filter_append _ _;rw[e];cases a:x.Ok;rw[ol oz,show okR [x]=[] from by unfold okR;simp[a],uj];rw[oo rfl,show okR [x]=[x] from by unfold okR;simp[a]]
theorem Qpx{n:Nat}{h:Qj}(e:big<=n)(f:h.Gx.length<=1000000):Vj n h=some ((okR h.Gx).map (·.T)++[h.T],(okR h.Gx).map (·.Y)++[h.Y]):=by unfold Vj;have a:=Qv0 h.Gx;rw[Yu (λi=>((okR (h.Gx.take i)).map (·.T),(okR (h.Gx.take i)).map (·.Y),(i:Int))) h.Gx.length ((okR h.Gx).map (·.T),(okR h.Gx).map (·.Y))];rw[Vm oh oh,sbind,Vm oh oh,sbind];intro i hi;have d:h.Gx[i]?=some h.Gx[i]:=oq hi;generalize h.Gx[i]=t at d;have a:=Qv0 (h.Gx.take i);rw[xh] at a;simp only[jn_eq];rw[oj (show(i:Int)<(h.Gx.length:Int) by omega),bifT,J6 d,sbind,Yc d,Qv1,w1 om];cases t.Ok;rw[bifF,ol oz];rw[bifT,oo rfl,sbind,Vm oh oh,sbind,sbind,Vm oh oh,sbind,xw,xw];rfl;rw[oi (show ¬(h.Gx.length:Int)<(h.Gx.length:Int) by omega),bifF,xv];unfold big at e;omega;rfl
theorem Qpy{n:Nat}{h:Qj}(e:big<=n)(f:h.Gx.length<=1000000):Xh n h=some ((okR h.Gx).map (·.H)):=by unfold Xh;rw[Yu (λi=>((okR (h.Gx.take i)).map (·.H),(i:Int))) h.Gx.length ((okR h.Gx).map (·.H))];intro i hi;have d:h.Gx[i]?=some h.Gx[i]:=oq hi;generalize h.Gx[i]=t at d;have a:=Qv0 (h.Gx.take i);rw[xh] at a;simp only[jn_eq];rw[oj (show(i:Int)<(h.Gx.length:Int) by omega),bifT,J6 d,sbind,Yc d,Qv1,w1 om];cases t.Ok;rw[bifF,ol oz];rw[bifT,oo rfl,sbind,Vm oh oh,sbind,xw];rfl;rw[oi om,bifF,xv];unfold big at e;omega;rfl
set_option maxRecDepth 100000
def RulW(k:Nat)(r:Qny):Prop:=FR k [r.Tol,r.Safe,r.Low,r.High,r.Least]
theorem RulW.all{k:Nat}{r:Qny}(h:RulW k r):Fk k r.Tol/\Fk k r.Safe/\Fk k r.Low/\Fk k r.High/\Fk k r.Least:=
 ⟨h _ oc,h _ oc,h _ oc,h _ oc,h _ oc⟩
set_option maxRecDepth 100000
theorem sg_lt{a b:Rat}:(a - b).num.sign<0↔a<b:=by rw[Int.sign_neg_iff,<-Int.not_le,Rat.num_nonneg,<-Rat.le_iff_sub_nonneg,Rat.not_le]
theorem sg_gt{a b:Rat}:0<(a - b).num.sign↔b<a:=by
 have e:(a - b).num=-(b - a).num:=by rw[<-Qsc,Rat.neg_sub]
 rw[Int.sign_pos_iff,e,<-sg_lt,Int.sign_neg_iff];omega
theorem sg_le{a b:Rat}:(a - b).num.sign<=0↔a<=b:=by rw[<-Int.not_lt,sg_gt,Rat.not_lt]
theorem sg_ge{a b:Rat}:0<=(a - b).num.sign↔b<=a:=by rw[<-Int.not_lt,sg_lt,Rat.not_lt]
theorem Qrb{a:Rat}:0<a.num.sign↔0<a:=by have:=@sg_gt a 0;rwa [show a - 0=a by grind] at this
theorem Qth{a:Rat}:0<=a.num.sign↔0<=a:=by have:=@sg_ge a 0;rwa [show a - 0=a by grind] at this
set_option maxRecDepth 100000
theorem Qrc{n k:Nat}{h:Qw}(d:big<=n)(f:1<=k)(hk:k<1099511627776)(r:h.Gx.length<=1000000)(u:∀ t∈h.Gx,FT k t)(m:Fk k h.T)(q:FR k h.Y)(a:h.Y.length<=1000000):
 Zy n h=some (((okT h.Gx).map nT).map (·.T)++[toF (fv h.T)],((okT h.Gx).map nT).map (·.Y)++[toR (rv h.Y)]):=by
 have s:=Qon h.Gx;unfold Zy;rw[Qhu d f hk r u,sbind];generalize j:(okT h.Gx).map nT=A;have l:A.length<=1000000:=by rw[<-j,ov];omega
 rw[Qfn (λi=>((A.take i).map (·.T),(A.take i).map (·.Y))) A];rw[xv];show((J7 n h.T).bind _)=_;rw[Qg5 d (Fk_Fw m om),sbind,Vm oh oh,sbind,Qe7 d f hk q a,sbind,Vm oh oh,sbind];intro i x e;have hi:=Vs e;rw[Vm oh oh,sbind,Vm oh oh,sbind,Xv (·.T) e,Xv (·.Y) e];rfl
theorem Qrd{n k:Nat}{h:Qw}(q:big<=n)(d:1<=k)(hk:k<1099511627776)(l:h.Gx.length<=1000000)(r:∀ t∈h.Gx,FT k t):Qdb n h=some (toR (szs h)):=by
 have m:=Qon h.Gx;unfold Qdb;rw[Qhu q d hk l r,sbind];have e:toR (szs h)=((okT h.Gx).map nT).map (·.H):=by unfold toR szs;rw[yy,yy];rfl
 rw[e];generalize f:(okT h.Gx).map nT=A;have j:A.length<=1000000:=by rw[<-f,ov];omega
 rw[Qfn (λi=>(A.take i).map (·.H)) A];rw[xv];rfl;intro i x a;have hi:=Vs a;rw[Vm oh oh,sbind,Xv (·.H) a];rfl
set_option maxRecDepth 100000
def canF(x:Qa):Prop:=x=toF (fv x)
theorem Qjs{n k:Nat}{l:List (List Qa)}(j:big<=n)(hk:k<1099511627776)(h:∀ r∈l,FR k r):Zb n l=some (dP (∀ r∈l,∀ x∈r,canF x)):=by
 classical
 unfold Zb;rw[Zp (λ_ (r:List Qa)=>∀ x∈r,canF x) (r:=false),Qe6];by_cases g:∀ r∈l,∀ x∈r,canF x;rw[oo g,dP_t g];rw[ol g,dP_f g];intro i r m;have d:=h r (Kg m)
 have key:((rangeL (λ(_:Nat) (f:Qa) (_:Unit)=>
  (Y2 n f).bind λe=>
  bif !e then (
   some (Lp.out (Lp.out (false))))
  else (
   some (Lp.go ()))) r 0 ()).bind (lpK λ(_:Unit)=>
 some (Lp.go ())))=if (∀(i:Nat) x,r[i]?=some x->canF x) then (some (Lp.go ()):Option (Lp Unit Bool)) else some (Lp.out false):=by refine Zp (λ_ (x:Qa)=>canF x) r (λi x q=>?_);rw[Qkg j (Fk_Fw (d x (Kg q)) om),sbind];exact⟨λa=>by rw[oj (show x=toF (fv x) from a)];rfl,λa=>by rw[oi (show ¬ x=toF (fv x) from a)];rfl⟩
 rw[Qe6] at key;exact⟨λg=>by rw[key,oo g],λg=>by rw[key,ol g]⟩
def nextT(h:Qw)(i:Nat):Qa:=match h.Gx[i+1]? with | some u=>u.T | none=>h.T
def nextY(h:Qw)(i:Nat):List Qa:=match h.Gx[i+1]? with | some u=>u.Y | none=>h.Y
structure Qgp(h:Qw):Prop where
 c:(∀ t∈h.Gx,∀ r∈[[t.T,t.Gz,t.H,t.G2],t.Y],∀ x∈r,canF x)/\∀ r∈[[h.T],h.Y],∀ x∈r,canF x
 l:(∀ t∈h.Gx,t.Y.length=h.Y.length)/\1<=h.Y.length/\h.Y.length<=6
 m:h.Gx.length<=200
 s:∀ t∈h.Gx,0<fv t.Gz/\0<fv t.H/\fv t.H<=fv t.Gz/\0<=fv t.G2
 n:∀(i:Nat) t,h.Gx[i]?=some t->(t.Ok=true->fv (nextT h i)=fv t.T+fv t.H)/\(t.Ok=false->fv (nextT h i)=fv t.T/\rv (nextY h i)=rv t.Y)
theorem Qre{n k:Nat}{h:Qw}(d:big<=n)(f:1<=k)(hk:k<100000000)(Y:h.Gx.length<=1000000)(q:∀ t∈h.Gx,FT k t)(N:Fk k h.T)(O:FR k h.Y)(S:h.Y.length<=1000000):
 Qda n h=some (dP (Qgp h)):=by
 classical
 have pk:∀ t∈h.Gx,Fk k t.T/\Fk k t.Gz/\Fk k t.H/\Fk k t.G2:=λt j=>by have g:=(q t j).1;exact⟨g _ oc,g _ oc,g _ oc,g _ oc⟩
 unfold Qda Qf5;have eP:Qc7 n h=some (dP ((∀ t∈h.Gx,∀ r∈[[t.T,t.Gz,t.H,t.G2],t.Y],∀ x∈r,canF x)/\∀ r∈[[h.T],h.Y],∀ x∈r,canF x)):=by
  unfold Qc7
  rw[Zp (λ_ (t:Q1)=>∀ r∈[[t.T,t.Gz,t.H,t.G2],t.Y],∀ x∈r,canF x) (r:=false),Qe6,Qjs (k:=k) d om (λr m=>by
   rcases xl.1 m with rfl | m
   . intro x U;rw[yt.1 U];exact N
   . rw[yt.1 m];exact O),sbind]
  . by_cases g:∀ t∈h.Gx,∀ r∈[[t.T,t.Gz,t.H,t.G2],t.Y],∀ x∈r,canF x
    . rw[oo g];exact Qse ⟨λa=>⟨g,a⟩,λa=>a.2⟩
    . rw[ol g,dP_f λa=>g a.1]
  . intro i t hi
    have j:=Kg hi
    have e:Zb n [[t.T,t.Gz,t.H,t.G2],t.Y]=some (dP (∀ r∈[[t.T,t.Gz,t.H,t.G2],t.Y],∀ x∈r,canF x)):=Qjs (k:=k) d om (λr m=>by
     rcases xl.1 m with rfl | m
     . exact(q t j).1
     . rw[yt.1 m];exact(q t j).2.1)
    unfold Xa;rw[sbind,e,sbind];exact⟨λg=>by rw[dP_t g];rfl,λg=>by rw[dP_f g];rfl⟩
 have eL:Qa7 h=some (dP ((∀ t∈h.Gx,t.Y.length=h.Y.length)/\1<=h.Y.length/\h.Y.length<=6)):=by
  unfold Qa7;simp only[jn_eq];rw[Zp (λ_ (t:Q1)=>t.Y.length=h.Y.length) (r:=false),Qe6]
  . by_cases g:∀ t∈h.Gx,t.Y.length=h.Y.length
    . rw[oo g]
      by_cases g1:(1:Int)<=(h.Y.length:Int)
      . rw[oj g1,bifT];exact Qbv ⟨λa=>⟨g,om,om⟩,λa=>by have:=a.2.2;omega⟩
      . rw[oi g1,bifF,dP_f λa=>g1 (by have:=a.2.1;omega)]
    . rw[ol g,dP_f λa=>g a.1]
  . intro i t hi
    exact⟨λg=>by rw[oj om];rfl,λg=>by rw[oi om];rfl⟩
 have eS:Qc8 n h=some (dP (∀ t∈h.Gx,0<fv t.Gz/\0<fv t.H/\fv t.H<=fv t.Gz/\0<=fv t.G2)):=by
  unfold Qc8;simp only[jn_eq];rw[Zp (λ_ (t:Q1)=>0<fv t.Gz/\0<fv t.H/\fv t.H<=fv t.Gz/\0<=fv t.G2) (r:=false),Qe6]
  . by_cases g:∀ t∈h.Gx,0<fv t.Gz/\0<fv t.H/\fv t.H<=fv t.Gz/\0<=fv t.G2
    . rw[oo g,dP_t g]
    . rw[ol g,dP_f g]
  . intro i t hi
    obtain⟨C,G,v,R⟩:=pk t (Kg hi);rw[Qdz (k:=k) d f om G,sbind,Qdz (k:=k) d f om v,sbind,Qnd (k:=k) d f om v G,sbind,Qdz (k:=k) d f om R,sbind];by_cases c1:(fv t.Gz).num.sign<=0
    . rw[oj c1];exact⟨λg=>absurd (Qrb.2 g.1) om,λ_=>rfl⟩
    rw[oi c1];by_cases J:(fv t.H).num.sign<=0
    . rw[oj J];exact⟨λg=>absurd (Qrb.2 g.2.1) om,λ_=>rfl⟩
    rw[oi J];by_cases L:0<(fv t.H - fv t.Gz).num.sign
    . rw[oj L];exact⟨λg=>absurd (sg_le.2 g.2.2.1) om,λ_=>rfl⟩
    rw[oi L];by_cases M:(fv t.G2).num.sign<0
    . rw[oj M];exact⟨λg=>absurd (Qth.2 g.2.2.2) om,λ_=>rfl⟩
    rw[oi M];exact⟨λ_=>rfl,λg=>absurd ⟨Qrb.1 om,Qrb.1 om,sg_le.1 om,Qth.1 om⟩ g⟩
 have eC:Qc9 n h=some (dP (∀(i:Nat) t,h.Gx[i]?=some t->(t.Ok=true->fv (nextT h i)=fv t.T+fv t.H)/\(t.Ok=false->fv (nextT h i)=fv t.T/\rv (nextY h i)=rv t.Y))):=by
  unfold Qc9 Qdu;simp only[jn_eq];rw[Zp (λi (t:Q1)=>(t.Ok=true->fv (nextT h i)=fv t.T+fv t.H)/\(t.Ok=false->fv (nextT h i)=fv t.T/\rv (nextY h i)=rv t.Y)) (r:=false)]
  . by_cases g:∀(i:Nat) t,h.Gx[i]?=some t->(t.Ok=true->fv (nextT h i)=fv t.T+fv t.H)/\(t.Ok=false->fv (nextT h i)=fv t.T/\rv (nextY h i)=rv t.Y)
    . rw[oo g,dP_t g]
    . rw[ol g,dP_f g]
  . intro i t hi
    have T:=Vs hi;obtain⟨C,G,v,R⟩:=pk t (Kg hi);have pY:=(q t (Kg hi)).2.1;have F:=Qjm (qw_fv C f) (qw_fv v f)
    have core:∀(a:Qa) (y:List Qa),Fk k a->FR k y->∀(K:Bool->Option (Lp Unit Bool)),
     ((bif t.Ok then (Kz n t.T t.H).bind λW=>(W7 n a W).bind λX=>some X else (W7 n a t.T).bind λH=>bif H then (Qdt n y t.Y).bind λI=>some I else some false).bind K)=K (dP ((t.Ok=true->fv a=fv t.T+fv t.H)/\(t.Ok=false->fv a=fv t.T/\rv y=rv t.Y))):=λa y Q V K=>by
     cases Z:t.Ok with
     | true=>
       rw[bifT,Qe1 (k:=k) d f om C v,sbind,Qg8 (k:=k+k+1) d om om (Qbi Q om) (Qer F),sbind,sbind,Qdi,decP];congr 1;exact dP_c ⟨λg=>⟨λ_=>g,(λE=>by cases E)⟩,λg=>g.1 rfl⟩
     | false=>
       rw[bifF,Qg8 (k:=k) d f om Q C,sbind];by_cases c:fv a=fv t.T
       . rw[oj c,bifT,Qt2 (k:=k) d f om V pY,sbind,sbind,decP]
         congr 1;exact dP_c ⟨λg=>⟨(λE=>by cases E),λ_=>⟨c,g⟩⟩,λg=>(g.2 rfl).2⟩
       . rw[oi c,bifF,sbind,dP_f λg=>c (g.2 rfl).1]
    have fin:∀ P:Prop,((P->(λs:Bool=>bif !s then some (Lp.out false) else some (Lp.go ()):Bool->Option (Lp Unit Bool)) (dP P)=some (.go ()))/\(¬ P->(λs:Bool=>bif !s then some (Lp.out false) else some (Lp.go ()):Bool->Option (Lp Unit Bool)) (dP P)=some (.out false))):=λP=>⟨λg=>by rw[dP_t g];rfl,λg=>by rw[dP_f g];rfl⟩
    rw[w1 om];by_cases c:i+1<h.Gx.length
    . have l:h.Gx[i+1]?=some h.Gx[i+1]:=oq c
      have j:=um c;generalize h.Gx[i+1]=u at l j;have eT:nextT h i=u.T:=by unfold nextT;rw[l]
      have eY:nextY h i=u.Y:=by unfold nextY;rw[l]
      rw[oj (show((i+1:Nat):Int)<(h.Gx.length:Int) by omega),bifT,J6 l,sbind,sbind,core u.T u.Y (pk u j).1 (q u j).2.1,eT,eY];exact fin _
    . have l:h.Gx[i+1]?=none:=ou om
      have eT:nextT h i=h.T:=by unfold nextT;rw[l]
      have eY:nextY h i=h.Y:=by unfold nextY;rw[l]
      rw[oi (show ¬((i+1:Nat):Int)<(h.Gx.length:Int) by omega),bifF,core h.T h.Y N O,eT,eY];exact fin _
 rw[eP,sbind,bifnP];by_cases g1:(∀ t∈h.Gx,∀ r∈[[t.T,t.Gz,t.H,t.G2],t.Y],∀ x∈r,canF x)/\∀ r∈[[h.T],h.Y],∀ x∈r,canF x
 case neg=>rw[ol g1,sbind,dP_f λa=>g1 a.c];rfl
 rw[oo g1,eL,sbind,bifnP];by_cases A:(∀ t∈h.Gx,t.Y.length=h.Y.length)/\1<=h.Y.length/\h.Y.length<=6
 case neg=>rw[ol A,sbind,dP_f λa=>A a.l];rfl
 rw[oo A];by_cases g3:(200:Int)<(h.Gx.length:Int)
 . rw[oj g3,bifT,sbind,dP_f λa=>by have:=a.m;omega];rfl
 rw[oi g3,bifF,eS,sbind,bifnP];by_cases g4:∀ t∈h.Gx,0<fv t.Gz/\0<fv t.H/\fv t.H<=fv t.Gz/\0<=fv t.G2
 case neg=>rw[ol g4,sbind,dP_f λa=>g4 a.s];rfl
 rw[oo g4,eC,sbind,bifnP];by_cases B:∀(i:Nat) t,h.Gx[i]?=some t->(t.Ok=true->fv (nextT h i)=fv t.T+fv t.H)/\(t.Ok=false->fv (nextT h i)=fv t.T/\rv (nextY h i)=rv t.Y)
 . rw[oo B,sbind,dP_t ⟨g1,A,om,g4,B⟩];rfl
 . rw[ol B,sbind,dP_f λa=>B a.n];rfl
set_option maxRecDepth 100000
def SmaK(k:Nat)(t:Qt):Prop:=FL 4 k [t.T,t.Gz,t.H,t.G2]/\FL 8 k t.Y
theorem Qpz{n a k:Nat}{h:Qj}(B:big<=n)(Q:a<=1000)(_:k<=1000):∃ v,Vq n h (a:Int) (k:Int)=some v/\(v=false->h.Gx.length<=a/\(h.T.N.length<=k/\h.T.D.length<=k)/\FL 8 k h.Y/\∀ t∈h.Gx,SmaK k t):=by
 unfold Vq Ky;simp only[jn_eq,bifd];by_cases I:(a:Int)<(h.Gx.length:Int)
 . rw[oo I];exact⟨true,rfl,λh=>by cases h⟩
 have M:=Qgm h.T k;rw[ol I,M,sbind];by_cases A:h.T.N.length<=k/\h.T.D.length<=k
 case neg=>rw[oi A];exact⟨true,rfl,λh=>by cases h⟩
 rw[oj A,xg,bifF];have q:∀ l,∃ v,Qv n l 4 (k:Int)=some v/\(v=false->FL 4 k l):=λl=>Qaj (many:=4) (k:=k) B oz;have m:∀ l,∃ v,Qv n l 8 (k:Int)=some v/\(v=false->FL 8 k l):=λl=>Qaj (many:=8) (k:=k) B oz;obtain⟨v,g1,N⟩:=m h.Y;rw[g1,sbind];cases v
 case true=>exact⟨true,rfl,λh=>by cases h⟩
 rw[bifF]
 have O:=Qg3 (f:=λ(e:Int)=>
  if e<(h.Gx.length:Int) then (
   (getI h.Gx e).bind λj=>
   (some ([j.T,j.Gz,j.H,j.G2]:List Qc)).bind λE=>
   (Qv n E 4 (k:Int)).bind λF=>
   bif F then (bif true then some (Lp.out (Lp.out true)) else some (Lp.go (wrap64 (e+(1:Int)))))
   else (
    (getI h.Gx e).bind λH=>
    (Qv n H.Y 8 (k:Int)).bind λG=>
    bif G then some (Lp.out (Lp.out true)) else some (Lp.go (wrap64 (e+(1:Int))))))
  else (
   some (Lp.out (Lp.go ())))) (n:=n) (K:=λ(_:Unit)=>some false) (r:=true) (λi=>∀ t,h.Gx[i]?=some t->Qv n [t.T,t.Gz,t.H,t.G2] 4 (k:Int)=some false/\Qv n t.Y 8 (k:Int)=some false) h.Gx.length (λi hi=>by
  have s:h.Gx[i]?=some h.Gx[i]:=oq hi;generalize h.Gx[i]=t at s;obtain⟨v,u,J⟩:=q [t.T,t.Gz,t.H,t.G2];obtain⟨w,x,L⟩:=m t.Y;rw[oo om,J6 s,sbind,sbind,u,sbind,sbind,x,sbind];cases v
  . cases w
    . rw[bifF,bifF,w1 om]
      exact⟨λ_=>rfl,λg=>absurd (λd hd=>by rw[s] at hd;cases hd;exact⟨u,x⟩) g⟩
    . exact⟨λg=>(by have:=(g t s).2;rw[x] at this;cases this),λ_=>rfl⟩
  . exact⟨λg=>(by have:=(g t s).1;rw[u] at this;cases this),λ_=>rfl⟩) (by rw[ol om]) (by unfold big at B;omega)
 rw[O];by_cases C:∀ i,i<h.Gx.length->∀ t,h.Gx[i]?=some t->Qv n [t.T,t.Gz,t.H,t.G2] 4 (k:Int)=some false/\Qv n t.Y 8 (k:Int)=some false
 . rw[oo C]
   refine⟨false,rfl,λ_=>⟨om,A,N rfl,λt P=>?_⟩⟩;obtain⟨i,hi⟩:=wi P;obtain⟨v,u,J⟩:=q [t.T,t.Gz,t.H,t.G2];obtain⟨w,x,L⟩:=m t.Y;obtain⟨a1,a2⟩:=C i (Vs hi) t hi;rw[u] at a1;rw[x] at a2;exact⟨J (Option.some.inj a1),L (Option.some.inj a2)⟩
 . rw[ol C];exact⟨true,rfl,λh=>by cases h⟩
theorem Q0x{k:Nat}{t:Qt}(q:Qa0 t)(h:SmaK k t):FT k (tTry t):=by obtain⟨e,f,i,j,l,_⟩:=q;obtain⟨s1,d⟩:=h;have g1:=s1.2 t.T oc;have m:=s1.2 t.Gz oc;have g3:=s1.2 t.H oc;have g4:=s1.2 t.G2 oc;have yl:=d.1;refine⟨λx a=>?_,FR_tF l d,by show(t.Y.map tF).length<=_;rw[ov];omega⟩;rcases xl.1 a with rfl | a;exact Fk_tF e g1;rcases xl.1 a with rfl | a;exact Fk_tF f m;rcases xl.1 a with rfl | a;exact Fk_tF i g3;rw[yt.1 a];exact Fk_tF j g4
set_option maxRecDepth 100000
theorem Qxj{j k:Nat}{t:Q1}(h:FT j t)(hk:j<=k):FT k t:=⟨Qce h.1 hk,Qce h.2.1 hk,h.2.2⟩
theorem Ql5:∀ {l:List Qc},rR (rvr l)=l↔∀ f∈l,canF (tF f)
 | []=>⟨λ_ _ h=>(by cases h),λ_=>rfl⟩
 | x::l=>by
   have i:=Ql5 (l:=l);have e:rR (rvr (x::l))=rF (fr x)::rR (rvr l):=rfl;rw[e];constructor;intro h f a;have d:=(List.cons.inj h)
   rcases xl.1 a with rfl | a;exact Qal.1 d.1;exact i.1 d.2 f a;intro h;rw[Qal.2 (h x (.head _)),i.2 λf a=>h f (.tail _ a)]
theorem Qd1{n k:Nat}{l:List Qc}(d:big<=n)(j:1<=k)(hk:k<274877906944)(h:FRr k l)(a:l.length<=1000000):Vd n l=some (!dP (∀ f∈l,canF (tF f))):=by
 unfold Vd
 rw[Qjq d (show k<1099511627776 by omega) h a,sbind,Qkl d (by rw[Qak,Qd0];exact a) (λf m=>by
  obtain⟨q,r,rfl⟩:=xy.1 m;have:=Qxi (Qra h j q r)
  omega),sbind]
 have e:∀ i:Decidable (rR (rvr l)=l),@decide _ i=dP (∀ f∈l,canF (tF f)):=λi=>by rw[@decP _ i,dP_c Ql5]
 rw[e]
def nxR(h:Qj)(i:Nat):Qt:=match h.Gx[i+1]? with | some u=>u | none=>⟨h.T,⟨false,[],[]⟩,⟨false,[],[]⟩,⟨false,[],[]⟩,h.Y,false⟩
def P1(t:Qt):Prop:=(∀ f∈t.Y,canF (tF f))/\∀ f∈[t.T,t.Gz,t.H,t.G2],canF (tF f)
def S1(t:Qt):Prop:=0<fr t.Gz/\0<fr t.H/\fr t.H<=fr t.Gz/\0<=fr t.G2
def C1(h:Qj)(i:Nat)(t:Qt):Prop:=(t.Ok=true->fr (nxR h i).T=fr t.T+fr t.H)/\(t.Ok=false->fr (nxR h i).T=fr t.T/\rvr (nxR h i).Y=rvr t.Y)
theorem Qxk(h:Qj)(i:Nat):nextT (tHis h) i=tF (nxR h i).T:=by
 unfold nextT nxR;have e:(tHis h).Gx[i+1]?=(h.Gx[i+1]?).map tTry:=by unfold tHis;rw[ug]
 rw[e];cases h.Gx[i+1]?<;>rfl
theorem Qxl(h:Qj)(i:Nat):nextY (tHis h) i=(nxR h i).Y.map tF:=by
 unfold nextY nxR;have e:(tHis h).Gx[i+1]?=(h.Gx[i+1]?).map tTry:=by unfold tHis;rw[ug]
 rw[e];cases h.Gx[i+1]?<;>rfl
theorem mapCan{l:List Qc}:(∀ x∈l.map tF,canF x)↔∀ f∈l,canF (tF f):=⟨λh f a=>h _ (yx a),λh x d=>by
 obtain⟨f,a,rfl⟩:=xy.1 d
 exact h f a⟩
theorem Qm2{h:Qj}:Qgp (tHis h)↔((∀ f∈h.Y,canF (tF f))/\∀ f∈[h.T],canF (tF f))/\(∀ t∈h.Gx,P1 t/\t.Y.length=h.Y.length)/\(1<=h.Y.length/\h.Y.length<=6)/\h.Gx.length<=200/\(∀(i:Nat) t,h.Gx[i]?=some t->S1 t/\C1 h i t):=by
 have eY:(tHis h).Y=h.Y.map tF:=rfl;have eT:(tHis h).Gx=h.Gx.map tTry:=rfl;have eE:(tHis h).T=tF h.T:=rfl;constructor;rintro⟨⟨c1,j⟩,⟨F,G,H⟩,m,s,I⟩;rw[eT] at c1 F m s I;rw[eY] at j F G H;rw[eE] at j;refine⟨⟨mapCan.1 (j _ oc),λf B=>?_⟩,λt a=>⟨⟨?_,λf B=>?_⟩,?_⟩,⟨by simpa using G,by simpa using H⟩,by simpa using m,λi t hi=>⟨?_,?_⟩⟩;rw[yt.1 B];exact j [tF h.T] oc _ oc;exact mapCan.1 (c1 _ (yx a) (t.Y.map tF) (by show _∈[_,t.Y.map tF];simp));have:=c1 _ (yx a) ([t.T,t.Gz,t.H,t.G2].map tF) (by show _∈[[tF t.T,tF t.Gz,tF t.H,tF t.G2],_];simp);exact mapCan.1 this f B;have:=F _ (yx a);have e:(tTry t).Y=t.Y.map tF:=rfl;rw[e] at this;simpa using this;have:=s (tTry t) (yx (Kg hi));unfold S1;rw[<-fr_tF,<-fr_tF,<-fr_tF];exact this;have:=I i (tTry t) (Q11 tTry hi);rw[Qxk,Qxl,Qjp,fr_tF] at this;have u:fv (tTry t).T=fr t.T:=fr_tF _;have v:fv (tTry t).H=fr t.H:=fr_tF _;have A:rv (tTry t).Y=rvr t.Y:=Qjp _;rw[u,v,A] at this;exact this;rintro⟨⟨c1,j⟩,p,l,m,s⟩
 have C:∀ x∈(tHis h).Gx,∃ t∈h.Gx,x=tTry t:=λx d=>by rw[eT] at d;obtain⟨t,a,rfl⟩:=xy.1 d;exact⟨t,a,rfl⟩
 refine⟨⟨λx d r q=>?_,λr q=>?_⟩,⟨λx d=>?_,by rw[eY];simpa using l.1,by rw[eY];simpa using l.2⟩,by rw[eT];simpa using m,λx d=>?_,λi x d=>?_⟩;obtain⟨t,a,rfl⟩:=C x d;obtain⟨⟨J,K⟩,_⟩:=p t a;have:r=[t.T,t.Gz,t.H,t.G2].map tF\/r=t.Y.map tF:=by have e:[[(tTry t).T,(tTry t).Gz,(tTry t).H,(tTry t).G2],(tTry t).Y]=[[t.T,t.Gz,t.H,t.G2].map tF,t.Y.map tF]:=rfl;rw[e] at q;simpa using q
 rcases this with rfl | rfl;exact mapCan.2 K;exact mapCan.2 J;have:r=[h.T].map tF\/r=h.Y.map tF:=by have e:[[(tHis h).T],(tHis h).Y]=[[h.T].map tF,h.Y.map tF]:=rfl;rw[e] at q;simpa using q
 rcases this with rfl | rfl;exact mapCan.2 j;exact mapCan.2 c1;obtain⟨t,a,rfl⟩:=C x d;have:=(p t a).2;rw[eY];show(t.Y.map tF).length=_
 simpa using this
 obtain⟨t,a,rfl⟩:=C x d;obtain⟨i,hi,rfl⟩:=List.getElem_of_mem a;have:=(s i _ (oq hi)).1;unfold S1 at this;rw[<-fr_tF,<-fr_tF,<-fr_tF] at this;exact this;rw[eT,ug] at d;cases a:h.Gx[i]? with
 | none=>rw[a] at d;cases d
 | some t=>
   rw[a] at d;have E:tTry t=x:=Option.some.inj d;subst E;have:=(s i t a).2;unfold C1 at this;rw[Qxk,Qxl,Qjp,fr_tF];have u:fv (tTry t).T=fr t.T:=fr_tF _;have v:fv (tTry t).H=fr t.H:=fr_tF _;have A:rv (tTry t).Y=rvr t.Y:=Qjp _;rw[u,v,A];exact this
theorem Qjt{q:Rat}:q.num.sign<=0↔¬ 0<q:=by
 rw[Rat.not_lt,<-Int.not_lt,Int.sign_pos_iff];have h:=Rat.num_nonneg (q:=-q);have e:(-q).num=-q.num:=Qsc q;have a:0<=-q↔q<=0:=by grind
 rw[<-a,<-h,e];omega
theorem Qv2{q:Rat}:q.num.sign<0↔¬ 0<=q:=by rw[Int.sign_neg_iff,<-Int.not_le,Rat.num_nonneg]
theorem Qxm{p q:Rat}:0<(p - q).num.sign↔¬ p<=q:=by
 have h:=Qjt (q:=p - q);have e:¬ 0<p - q↔p<=q:=by grind
 rw[<-e,<-h];omega
theorem Qti{β R:Type}{f:β×Int->Option (Lp (β×Int) (Lp β R))}{K:β->Option R}{n:Nat}{Q:R->Prop}(a:Nat->β->Prop)(N:Nat)(w0:β)(h0:a 0 w0)
 (u:∀ i w,i<N->a i w->(∃ w',f (w,(i:Int))=some (.go (w',((i+1:Nat):Int)))/\a (i+1) w')\/(∃ r,f (w,(i:Int))=some (.out (.out r))/\Q r))
 (x:∀ w,a N w->f (w,(N:Int))=some (.out (.go w))) (A:N<n) (s:∀ w,a N w->∃ v,K w=some v/\Q v):∃ v,(loopM f n (w0,0)).bind (lpK K)=some v/\Q v:=by
 have key:∀(m i d:Nat) (w:β),i+m=N->m<d->a i w->∃ v,(loopM f d (w,(i:Int))).bind (lpK K)=some v/\Q v:=by
  intro m
  induction m with
  | zero=>
    intro i d w hi l j;have e:i=N:=om
    subst e;rw[Qjl (x w j) om,xq,Wj];exact s w j
  | succ m C=>
    intro i d w hi l j;obtain⟨n'',rfl⟩:∃ n'',d=n''+1:=⟨d - 1,om⟩
    rcases u i w om j with ⟨w',e,q⟩ | ⟨r,e,B⟩;rw[Qr1 e];exact C (i+1) n'' w' om om q;rw[Qjl e om,xq,Qfl];exact⟨r,rfl,B⟩
 exact key N 0 n w0 om A h0
theorem Q13{h:Qj}{i:Nat}{β:Type}(g:Qt->Option β)(a:h.Gx.length<=1000000)(hi:i<h.Gx.length):
 (bif decide (wrap64 ((i:Int)+1)<(h.Gx.length:Int)) then (getI h.Gx (wrap64 ((i:Int)+1))).bind g else g ⟨h.T,⟨false,[],[]⟩,⟨false,[],[]⟩,⟨false,[],[]⟩,h.Y,false⟩)=g (nxR h i):=by
 rw[w1 om];unfold nxR;by_cases c:i+1<h.Gx.length;rw[oj om,bifT,Xx c,sbind,oq c];rw[oi om,bifF,ou om]
theorem Qp0{n k:Nat}{h:Qj}(E:big<=n)(G:1<=k)(hk:k<100000000)(hl:h.Gx.length<=1000000)(d:∀ t∈h.Gx,FTr k t)(hT:FRr k [h.T])(hY:FRr k h.Y)(M:h.Y.length<=1000000):
 ∃ v,Xi n h=some v/\(v=0↔Qgp (tHis h)):=by
 simp only[Qm2];unfold Xi;simp only[jn_eq];have K:∀ {r:Int}{A:Prop},r≠0->¬ A->∃ v,some r=some v/\(v=0↔A):=λhr hA=>⟨_,rfl,λe=>absurd e hr,λa=>absurd a hA⟩
 rw[Qd1 E G om hY M,sbind];by_cases a1:∀ f∈h.Y,canF (tF f)
 case neg=>rw[dP_f a1,xt,bifT,bifT];exact K oz λp=>a1 p.1.1
 rw[dP_t a1,xg,bifF,Qd1 E G om hT oc,sbind];by_cases a2:∀ f∈[h.T],canF (tF f)
 case neg=>rw[dP_f a2,xt,bifT];exact K oz λp=>a2 p.1.2
 rw[dP_t a2,xg,bifF];refine Qti (λi w=>(w=0\/w=2)/\(∀ t∈h.Gx.take i,P1 t)/\(w=0↔∀ t∈h.Gx.take i,t.Y.length=h.Y.length)) h.Gx.length 0 ⟨.inl rfl,λt d=>by simp at d,λ_ t d=>by simp at d,λ_=>rfl⟩ ?_ ?_ (by unfold big at E;omega) ?_
 . intro i w hi J
   obtain⟨m,L,C⟩:=J;have s:h.Gx[i]?=some h.Gx[i]:=oq hi;have I:=um hi;generalize h.Gx[i]=x at s I;obtain⟨P,x2,x3⟩:=d x I;have eN:Ky x=some [x.T,x.Gz,x.H,x.G2]:=rfl;simp only[];rw[oj (show(i:Int)<(h.Gx.length:Int) by omega),bifT,J6 s,sbind,Qd1 E G om x2 x3,sbind];by_cases Q:∀ f∈x.Y,canF (tF f)
   case neg=>rw[dP_f Q,xt,bifT,bifT];exact .inr ⟨1,rfl,λe=>absurd e oz,λp=>absurd (p.2.1 x I).1.1 Q⟩
   rw[dP_t Q,xg,bifF,sbind,eN,sbind,Qd1 E G om P oc,sbind];by_cases R:∀ f∈[x.T,x.Gz,x.H,x.G2],canF (tF f)
   case neg=>rw[dP_f R,xt,bifT];exact .inr ⟨1,rfl,λe=>absurd e oz,λp=>absurd (p.2.1 x I).1.2 R⟩
   rw[dP_t R,xg,bifF,sbind,w1 om]
   have hP:∀ t∈h.Gx.take (i+1),P1 t:=λt d=>by
    rw[Yc s] at d;rcases yw.1 d with d | d
    . exact L t d
    . rw[yt.1 d];exact⟨Q,R⟩
   by_cases b3:x.Y.length=h.Y.length
   . rw[oj (show(x.Y.length:Int)=(h.Y.length:Int) by omega),xg,bifF]
     refine .inl ⟨w,rfl,m,hP,C.trans ⟨λq t d=>?_,λq t d=>q t ?_⟩⟩
     . rw[Yc s] at d
       rcases yw.1 d with d | d
       . exact q t d
       . rw[yt.1 d];exact b3
     . rw[Yc s];exact List.mem_append_left _ d
   . rw[oi (show ¬(x.Y.length:Int)=(h.Y.length:Int) by omega),xt,bifT]
     exact .inl ⟨2,rfl,.inr rfl,hP,λe=>absurd e oz,λq=>absurd (q x (by rw[Yc s];simp)) b3⟩
 . intro w _
   simp only[];rw[oi om,bifF]
 intro w J;obtain⟨m,L,C⟩:=J;rw[xv] at L C;by_cases c1:w=2
 . rw[oj c1,bifT,bifT]
   refine K oz λp=>?_;have:=C.2 λt d=>(p.2.1 t d).2;omega
 have w0:w=0:=om
 have hL:=C.1 w0;rw[oi c1,bifF];by_cases c2:h.Y.length<1
 . rw[oj (show(h.Y.length:Int)<1 by omega),bifT,bifT]
   exact K oz λp=>by have:=p.2.2.1.1;omega
 rw[oi (show ¬(h.Y.length:Int)<1 by omega),bifF];by_cases c3:6<h.Y.length
 . rw[oj (show(6:Int)<(h.Y.length:Int) by omega),bifT]
   exact K oz λp=>by have:=p.2.2.1.2;omega
 rw[oi (show ¬(6:Int)<(h.Y.length:Int) by omega),bifF];by_cases c4:200<h.Gx.length
 . rw[oj (show(200:Int)<(h.Gx.length:Int) by omega),bifT]
   exact K oz λp=>by have:=p.2.2.2.1;omega
 rw[oi (show ¬(200:Int)<(h.Gx.length:Int) by omega),bifF];subst w0;clear m C c1;refine Qti (λi w=>(∀ j t,j<i->h.Gx[j]?=some t->S1 t)/\(w=0↔∀ j t,j<i->h.Gx[j]?=some t->C1 h j t)) h.Gx.length 0 ⟨λj t H=>absurd H (Nat.not_lt_zero _),λ_ j t H=>absurd H (Nat.not_lt_zero _),λ_=>rfl⟩ ?_ ?_ (by unfold big at E;omega) ?_
 . intro i w hi J
   obtain⟨m,C⟩:=J;have s:h.Gx[i]?=some h.Gx[i]:=oq hi;have I:=um hi;generalize h.Gx[i]=x at s I;obtain⟨P,x2,x3⟩:=d x I;obtain⟨p1,X⟩:=L x I;have eT:rF (fr x.T)=x.T:=Qal.2 (X _ oc);have eW:rF (fr x.Gz)=x.Gz:=Qal.2 (X _ oc);have eH:rF (fr x.H)=x.H:=Qal.2 (X _ oc);have eE:rF (fr x.G2)=x.G2:=Qal.2 (X _ oc);have eY:rR (rvr x.Y)=x.Y:=Ql5.2 p1;have qT:qw (fr x.T)<=k:=qw_fr (P _ oc) G;have qW:qw (fr x.Gz)<=k:=qw_fr (P _ oc) G;have qH:qw (fr x.H)<=k:=qw_fr (P _ oc) G;have sW:Jx x.Gz=some (fr x.Gz).num.sign:=by have:=Qcn (fr x.Gz);rwa [eW] at this
   have sH:Jx x.H=some (fr x.H).num.sign:=by have:=Qcn (fr x.H);rwa [eH] at this
   have sE:Jx x.G2=some (fr x.G2).num.sign:=by have:=Qcn (fr x.G2);rwa [eE] at this
   have sC:Wz n x.H x.Gz=some (fr x.H - fr x.Gz).num.sign:=by have:=Qsn (p:=fr x.H) (q:=fr x.Gz) E om qH qW;rwa [eH,eW] at this
   have sA:Ke n x.T x.H=some (rF (fr x.T+fr x.H)):=by have:=Qbj (p:=fr x.T) (q:=fr x.H) E om qT qH;rwa [eT,eH] at this
   simp only[];rw[oj (show(i:Int)<(h.Gx.length:Int) by omega),bifT,J6 s,sbind,sW,sbind];have stop:¬ S1 x->(∃ r:Int,some (Lp.out (Lp.out (4:Int)):Lp (Int×Int) (Lp Int Int))=some (Lp.out (Lp.out r))/\(r=0↔(((∀ f∈h.Y,canF (tF f))/\∀ f∈[h.T],canF (tF f))/\(∀ t∈h.Gx,P1 t/\t.Y.length=h.Y.length)/\(1<=h.Y.length/\h.Y.length<=6)/\h.Gx.length<=200/\(∀(i:Nat) t,h.Gx[i]?=some t->S1 t/\C1 h i t)))):=λY=>⟨4,rfl,λe=>absurd e oz,λp=>absurd (p.2.2.2.2 i x s).1 Y⟩
   by_cases S:(fr x.Gz).num.sign<=0
   . rw[oj S,bifT,bifT];exact .inr (stop λp=>Qjt.1 S p.1)
   rw[oi S,bifF,sH,sbind];by_cases T:(fr x.H).num.sign<=0
   . rw[oj T,bifT,bifT];exact .inr (stop λp=>Qjt.1 T p.2.1)
   rw[oi T,bifF,sC,sbind];by_cases U:0<(fr x.H - fr x.Gz).num.sign
   . rw[oj U,bifT,bifT];exact .inr (stop λp=>Qxm.1 U p.2.2.1)
   rw[oi U,bifF,sE,sbind];by_cases V:(fr x.G2).num.sign<0
   . rw[oj V,bifT];exact .inr (stop λp=>Qv2.1 V p.2.2.2)
   rw[oi V,bifF,Q13 _ hl hi,w1 om];clear stop;have Y:S1 x:=⟨Classical.not_not.1 λg=>S (Qjt.2 g),Classical.not_not.1 λg=>T (Qjt.2 g),Classical.not_not.1 λg=>U (Qxm.2 g),Classical.not_not.1 λg=>V (Qv2.2 g)⟩
   have hu:(∀ f∈[(nxR h i).T],canF (tF f))/\(∀ f∈(nxR h i).Y,canF (tF f))/\FRr k [(nxR h i).T]/\FRr k (nxR h i).Y/\(nxR h i).Y.length<=1000000:=by
    unfold nxR;cases Z:h.Gx[i+1]? with
    | none=>exact⟨a2,a1,hT,hY,M⟩
    | some u=>
      have O:=Kg Z;obtain⟨u1,u2,u3⟩:=d u O;obtain⟨v1,v2⟩:=L u O;exact⟨λf N=>v2 f (by simp at N;simp[N]),v1,λf N=>u1 f (by simp at N;simp[N]),u2,u3⟩
   have hstep:∀ w':Int,(w'=0↔w=0/\C1 h i x)->(∀ j t,j<i+1->h.Gx[j]?=some t->S1 t)/\(w'=0↔∀ j t,j<i+1->h.Gx[j]?=some t->C1 h j t):=λw' hw'=>by
    refine⟨λj t H l=>?_,hw'.trans ⟨λq j t H l=>?_,λq=>⟨C.2 λj t H=>q j t om,q i x om s⟩⟩⟩
    . by_cases e:j=i
      . subst e;rw[s] at l;cases l;exact Y
      . exact m j t om l
    . by_cases e:j=i
      . subst e;rw[s] at l;cases l;exact q.2
      . exact C.1 q.1 j t om l
   unfold C1 at hstep;generalize nxR h i=u at hu hstep |-;obtain⟨u1,u2,u3,u4,u5⟩:=hu;have euT:rF (fr u.T)=u.T:=Qal.2 (u1 _ oc);have euY:rR (rvr u.Y)=u.Y:=Ql5.2 u2;have quT:qw (fr u.T)<=k:=qw_fr (u3 _ oc) G;have quY:QR k (rvr u.Y):=Qra u4 G
   have same:∀ q:Rat,Jw n u.T (rF q)=some (decide (fr u.T=q)):=λq=>by have:=Qjn (p:=fr u.T) (q:=q) E om quT;rwa [euT] at this
   have sameT:Jw n u.T x.T=some (decide (fr u.T=fr x.T)):=by have:=same (fr x.T);rwa [eT] at this
   have sameY:Kn n u.Y x.Y=some (decide (rvr u.Y=rvr x.Y)):=by have:=Qjr (a:=rvr u.Y) (b:=rvr x.Y) E (by rw[Qd0];exact u5) (show k<274877906944 by omega) quY;rwa [euY,eY] at this
   left;cases B:x.Ok with
   | true=>
     rw[bifT,sA,sbind,same,sbind,xg,bifF,bifF];by_cases F:fr u.T=fr x.T+fr x.H
     . rw[oj F,xg,bifF,bifF]
       exact⟨w,rfl,hstep w ⟨λq=>⟨q,λ_=>F,λg=>by rw[B] at g;cases g⟩,λq=>q.1⟩⟩
     . rw[oi F,xt,bifT]
       exact⟨5,rfl,hstep 5 ⟨λq=>absurd q oz,λq=>absurd (q.2.1 B) F⟩⟩
   | false=>
     rw[bifF,bifF,xt,bifT,sameT,sbind];by_cases F:fr u.T=fr x.T
     . rw[oj F,xg,bifF,sameY,sbind]
       by_cases W:rvr u.Y=rvr x.Y
       . rw[oj W,xg,bifF]
         exact⟨w,rfl,hstep w ⟨λq=>⟨q,λg=>(by rw[B] at g;cases g),λ_=>⟨F,W⟩⟩,λq=>q.1⟩⟩
       . rw[oi W,xt,bifT]
         exact⟨5,rfl,hstep 5 ⟨λq=>absurd q oz,λq=>absurd (q.2.2 B).2 W⟩⟩
     . rw[oi F,xt,bifT,bifT]
       exact⟨5,rfl,hstep 5 ⟨λq=>absurd q oz,λq=>absurd (q.2.2 B).1 F⟩⟩
 . intro w _
   simp only[];rw[oi om,bifF]
 . intro w J
   obtain⟨m,C⟩:=J;refine⟨w,rfl,C.trans ⟨λq=>⟨⟨a1,a2⟩,λt d=>⟨L t d,hL t d⟩,⟨om,om⟩,om,λi t hi=>⟨m i t (Vs hi) hi,q i t (Vs hi) hi⟩⟩,λp j t _ H=>(p.2.2.2.2 j t H).2⟩⟩
set_option maxRecDepth 100000
def addAt(l:List Rat)(a:Int)(c:Rat):List Rat:=l.set a.toNat (l.getD a.toNat 0+c)
theorem Qzx{l:List Rat}{a:Int}{c:Rat}:(addAt l a c).length=l.length:=List.length_set
theorem Qxn{l:List Qa}{i:Nat}{x:Qa}(h:l[i]?=some x):(rv l).getD i 0=fv x:=by rw[ui];unfold rv;rw[ug,h];rfl
structure BkS where
 co:List Rat
 T:Rat
 Y:List Rat
 P:List Rat
def Ql6(x:Jh)(c r:Rat)(vs:List Rat)(s:BkS):BkS:=
 if c=0 then s else
 if x.Op=2 then ⟨s.co,s.T+c,s.Y,s.P⟩ else
 if x.Op=3 then ⟨s.co,s.T,addAt s.Y x.A c,s.P⟩ else
 if x.Op=4 then ⟨s.co,s.T,s.Y,addAt s.P x.A c⟩ else
 if x.Op=6 then ⟨addAt s.co x.A (-c),s.T,s.Y,s.P⟩ else
 if x.Op=7 then ⟨addAt (addAt s.co x.A c) x.B c,s.T,s.Y,s.P⟩ else
 if x.Op=8 then ⟨addAt (addAt s.co x.A c) x.B (-c),s.T,s.Y,s.P⟩ else
 if x.Op=9 then ⟨addAt (addAt s.co x.A (c*vs.getD x.B.toNat 0)) x.B (c*vs.getD x.A.toNat 0),s.T,s.Y,s.P⟩ else
 if x.Op=10 then ⟨addAt (addAt s.co x.A (c / vs.getD x.B.toNat 0)) x.B (-(c / vs.getD x.B.toNat 0*r)),s.T,s.Y,s.P⟩ else
 if x.Op=11 then ⟨addAt s.co x.A (c*((x.B:Rat)*turnQ (vs.getD x.A.toNat 0) r x.B)),s.T,s.Y,s.P⟩ else s
theorem Qrf{x:Jh}{c r:Rat}{vs:List Rat}{s:BkS}:(Ql6 x c r vs s).co.length=s.co.length/\(Ql6 x c r vs s).Y.length=s.Y.length/\(Ql6 x c r vs s).P.length=s.P.length:=by
 unfold Ql6
 repeat' split
 all_goals simp[Qzx]
structure BkW(b:Nat)(co:List Qa)(s:BkS):Prop where
 c:rv co=s.co
 k:FR b co
 t:qw s.T<=b
 y:QR b s.Y
 p:QR b s.P
theorem BkW.mono{b d:Nat}{co:List Qa}{s:BkS}(h:BkW b co s)(a:b<=d):BkW d co s:=⟨h.c,Qce h.k a,xm h.t a,Qix h.y a,Qix h.p a⟩
set_option maxRecDepth 100000
structure BdS where
 ls:List (List Rat)
 Y:List Rat
 P:List Rat
section
variable {n k:Nat}{p:Qx}{t h:Qa}{y w:List Qa}{g:Qp}{md:K2}{sm:Qz}
end
set_option maxRecDepth 100000
structure SameL(a b:BkS):Prop where
 c:b.co.length=a.co.length
 y:b.Y.length=a.Y.length
 p:b.P.length=a.P.length
theorem SameL.bk{x:Jh}{c1 d r:Rat}{vs:List Rat}{s1 a:BkS}(h:SameL s1 a):SameL (Ql6 x c1 r vs s1) (Ql6 x d r vs a):=by obtain⟨a1,a2,a3⟩:=Qrf (x:=x) (c:=c1) (r:=r) (vs:=vs) (s:=s1);obtain⟨e,f,i⟩:=Qrf (x:=x) (c:=d) (r:=r) (vs:=vs) (s:=a);exact⟨by rw[a1,e,h.c],by rw[a2,f,h.y],by rw[a3,i,h.p]⟩
structure BdL(m mp:Nat)(a:BdS):Prop where
 y:a.Y.length=m
 p:a.P.length=mp
 l:∀ x∈a.ls,x.length=m
theorem BdL.step{m mp:Nat}{a:BdS}(h:BdL m mp a){u v:List Rat}(e:u.length=m)(f:v.length=mp):BdL m mp ⟨u::a.ls,addQ a.Y u,addQ a.P v⟩:=
 ⟨by show(addQ a.Y u).length=_;rw[Qha,h.y,e,Nat.min_self],by show(addQ a.P v).length=_;rw[Qha,h.p,f,Nat.min_self],λx d=>by
  rcases xl.1 d with rfl | d;exact e
  exact h.l x d⟩
set_option maxRecDepth 100000
def sumN(f:Nat->Rat):Nat->Rat
 | 0=>0
 | i+1=>sumN f i+f i
def psum(a b:List Rat)(i:Nat):Rat:=sumN (λj=>a.getD j 0*b.getD j 0) i
theorem Qkm{a b:List Rat}{i:Nat}:psum a b (i+1)=psum a b i+a.getD i 0*b.getD i 0:=rfl
section
variable {t:Q5}{lim:Int}{T':Rat}{Y' P' vs ds:List Rat}
end
abbrev Tri:=Rat×Rat×List Rat
def triT(t:Q1):Tri:=(fv t.T,fv t.H,rv t.Y)
def tri(h:Qw):List Tri:=(okT h.Gx).map triT
theorem Q14(h:Qw):(tri h).length=(okT h.Gx).length:=by simp[tri]
def TriK(k d:Nat)(x:Tri):Prop:=qw x.1<=k/\qw x.2.1<=k/\0<x.2.1/\QR k x.2.2/\x.2.2.length=d
theorem Q3w{h:Qw}{k:Nat}(hk:1<=k)(f:Qgp h)(j:∀ t∈h.Gx,FT k t):∀ x∈tri h,TriK k h.Y.length x:=λx l=>by obtain⟨t,d,rfl⟩:=xy.1 l;have a:=(vt.1 d).1;obtain⟨e,i,_⟩:=j t a;have s:=f.s t a;exact⟨qw_fv (e _ oc) hk,qw_fv (e _ oc) hk,s.2.1,QR_rv i hk,by show(rv t.Y).length=_;rw[Qoj];exact f.l.1 t a⟩
theorem Q15{h:Qj}(f:∀ t∈h.Gx,P1 t):
 (okR h.Gx).map (·.T)=rR ((tri (tHis h)).map (·.1))/\(okR h.Gx).map (·.H)=rR ((tri (tHis h)).map (·.2.1))/\(okR h.Gx).map (·.Y)=rRR ((tri (tHis h)).map (·.2.2)):=by
 have e:tri (tHis h)=(okR h.Gx).map λt=>triT (tTry t):=by show(okT (h.Gx.map tTry)).map triT=_;rw[Q12,yy];rfl
 have d:∀ t∈okR h.Gx,P1 t:=λt a=>f t (vt.1 a).1;rw[e];unfold rR rRR;rw[yy,yy,yy,yy,yy,yy];refine⟨ww λt a=>?_,ww λt a=>?_,ww λt a=>?_⟩;exact(Qal.2 ((d t a).2 t.T oc)).symm;exact(Qal.2 ((d t a).2 t.H oc)).symm;show t.Y=rR (rv (t.Y.map tF));rw[Qjp];exact(Ql5.2 (d t a).1).symm
def Qsr(h:Qw)(l:List Qr):Prop:=l.length<=300/\∀ x∈l,0<=x.Gy/\x.Gy<=((szs h).length:Int)/\x.W.length=h.Y.length
theorem Qrg{n k:Nat}{h:Qw}{l:List Qr}(s:big<=n)(f:1<=k)(hk:k<100000000)(m:h.Gx.length<=1000000)(u:∀ t∈h.Gx,FT k t)(v:Fk k h.T)(B:FR k h.Y)(e:h.Y.length<=1000000)(E:l.length<=1000000)(A:∀ x∈l,x.W.length<=1000000):
 Zw n h l=some (dP (Qgp h/\Qsr h l)):=by
 classical
 have C:(szs h).length<=1000000:=by have:=Qon h.Gx;unfold szs;rw[ov];omega
 unfold Zw;simp only[jn_eq];rw[Qre s f hk m u v B e,sbind,bifnP];by_cases d:Qgp h
 case neg=>rw[ol d,bifT,dP_f λg=>d g.1]
 rw[oo d];by_cases j:l.length<=300
 case neg=>rw[oj om,bifT,dP_f λg=>j g.2.1]
 rw[oi om,bifF,Qrd s f om m u,sbind,Zp (λ_ (x:Qr)=>0<=x.Gy/\x.Gy<=((szs h).length:Int)/\x.W.length=h.Y.length) (r:=false)]
 . by_cases g:∀(i:Nat) (x:Qr),l[i]?=some x->0<=x.Gy/\x.Gy<=((szs h).length:Int)/\x.W.length=h.Y.length
   . rw[oo g,dP_t ⟨d,j,λx a=>by obtain⟨i,hi⟩:=List.mem_iff_getElem?.1 a;exact g i x hi⟩]
   . rw[ol g,dP_f λq=>g λi x a=>q.2.2 x (Kg a)]
 . intro i x a
   have F:=A x (Kg a);rw[Qcd,w1 om];constructor
   . rintro⟨a1,a2,a3⟩
     rw[oi om,bifF,oi om,bifF,oj om,xg,bifF]
   . intro g
     by_cases a1:x.Gy<0
     . rw[oj a1,bifT,bifT]
     rw[oi a1,bifF];by_cases a2:(((szs h).length+1:Nat):Int)<=x.Gy
     . rw[oj a2,bifT,bifT]
     rw[oi a2,bifF,oi (λa3=>g ⟨om,om,om⟩),xt,bifT]
def lkT(x:Qh):Qr:=⟨x.Gy,x.W.map tF⟩
theorem Qt7{n:Nat}{l:List Qh}(a:big<=n)(f:l.length<=1000000)(e:∀ x∈l,x.W.length<=1000000):Wf n l=some (l.map lkT):=by unfold Wf;rw[Yu (λi=>((l.take i).map lkT,(i:Int))) l.length (l.map lkT)];intro i hi;have d:l[i]?=some l[i]:=oq hi;simp only[];rw[oj om,bifT,J6 d,sbind,sbind,Qh9 a (e _ (um hi)),sbind,Vm oh oh,sbind,w1 om,Xv lkT d];rfl;simp only[];rw[oi om,bifF,xv];unfold big at a;omega;rw[List.take_zero];rfl
theorem Q16{h:Qj}:((okR h.Gx).map (·.H)).length=(szs (tHis h)).length:=by unfold szs tHis okT okR;rw[ov,ov,List.filter_map,ov];rfl
theorem Qp1{n k:Nat}{h:Qj}{l:List Qh}(A:big<=n)(G:1<=k)(hk:k<100000000)(E:h.Gx.length<=1000000)(K:∀ t∈h.Gx,FTr k t)(H:FRr k [h.T])(J:FRr k h.Y)(u:h.Y.length<=1000000)(M:l.length<=1000000)(I:∀ x∈l,x.W.length<=1000000):
 Xj n h l=some (dP (Qgp (tHis h)/\Qsr (tHis h) (l.map lkT))):=by
 classical
 obtain⟨v,F,B⟩:=Qp0 A G hk E K H J u;have eY:(tHis h).Y.length=h.Y.length:=by show(h.Y.map tF).length=_;rw[ov]
 unfold Xj;simp only[jn_eq];rw[Qg3 (λi=>∀ x,l[i]?=some x->0<=x.Gy/\x.Gy<=((szs (tHis h)).length:Int)/\x.W.length=h.Y.length) l.length (r:=false)];have a:(∀ i,i<l.length->∀ x,l[i]?=some x->0<=x.Gy/\x.Gy<=((szs (tHis h)).length:Int)/\x.W.length=h.Y.length)↔∀ x∈l.map lkT,0<=x.Gy/\x.Gy<=((szs (tHis h)).length:Int)/\x.W.length=(tHis h).Y.length:=by rw[eY];constructor;intro g x d;obtain⟨y,L,rfl⟩:=xy.1 d;obtain⟨i,hi⟩:=List.mem_iff_getElem?.1 L;obtain⟨j,m,s⟩:=g i (Vs hi) y hi;exact⟨j,m,by show(y.W.map tF).length=_;rw[ov,s]⟩;intro g i hi x d;obtain⟨j,m,s⟩:=g (lkT x) (yx (Kg d));refine⟨j,m,?_⟩;rw[<-s];show _=(x.W.map tF).length;rw[ov]
 by_cases g:∀ i,i<l.length->∀ x,l[i]?=some x->0<=x.Gy/\x.Gy<=((szs (tHis h)).length:Int)/\x.W.length=h.Y.length;rw[oo g,F,sbind];by_cases f:Qgp (tHis h);rw[oj (B.2 f),bifT];by_cases C:l.length<=300;rw[oj om,dP_t ⟨f,by rw[ov];exact C,a.1 g⟩];rw[oi om,dP_f λq=>C (by have:=q.2.1;rw[ov] at this;exact this)];rw[oi λq=>f (B.1 q),bifF,dP_f λq=>f q.1];rw[ol g,dP_f λq=>g (a.2 q.2.2)];intro i hi;have d:l[i]?=some l[i]:=oq hi;have N:=I _ (um hi);rw[oj om,bifT,J6 d,sbind,sbind,Qpy A E,sbind,sbind,Q16,w1 om];constructor;intro g;obtain⟨j,m,s⟩:=g _ d;rw[oi om,bifF,oi om,bifF,oj om,xg,bifF];intro g;by_cases a1:l[i].Gy<0;rw[oj a1,bifT,bifT];rw[oi a1,bifF];by_cases a2:((szs (tHis h)).length:Int)<l[i].Gy;rw[oj a2,bifT,bifT];rw[oi a2,bifF,oi (λa3=>g λx e=>by rw[d] at e;cases e;exact⟨om,om,om⟩),xt,bifT];rw[oi om,bifF];unfold big at A;omega
def nlk(x:Qh):Qh:=⟨x.Gy,rR (rvr x.W)⟩
theorem Qp2{n k:Nat}{l:List Qh}(a:big<=n)(hk:k<1099511627776)(f:l.length<=1000000)(e:∀ x∈l,FRr k x.W/\x.W.length<=1000000):Xk n l=some (l.map nlk):=by unfold Xk;rw[Yu (λi=>((l.take i).map nlk,(i:Int))) l.length (l.map nlk)];intro i hi;have d:l[i]?=some l[i]:=oq hi;obtain⟨a1,a2⟩:=e _ (um hi);simp only[];rw[oj om,bifT,J6 d,sbind,sbind,Qjq a hk a1 a2,sbind,Vm oh oh,sbind,w1 om,Xv nlk d];rfl;simp only[];rw[oi om,bifF,xv];unfold big at a;omega;rw[List.take_zero];rfl
theorem Qrh{n:Nat}{l:List Qh}(q:big<=n):∃ v,Xp n l=some v/\(v=false->l.length<=5/\∀ x∈l,FL 6 2 x.W):=by
 have hlong:∀ x:Qh,∃ v,Qv n x.W (6:Int) (2:Int)=some v/\(v=false->FL 6 2 x.W):=λx=>Qaj (l:=x.W) (many:=6) (k:=2) q oz;unfold Xp;rw[Qg3 (λi=>∀ x,l[i]?=some x->Qv n x.W (6:Int) (2:Int)=some false) (min l.length 5) (r:=true)];by_cases h:∀ i,i<min l.length 5->∀ x,l[i]?=some x->Qv n x.W (6:Int) (2:Int)=some false;rw[oo h];refine⟨_,rfl,λj=>?_⟩;have m:l.length<=5:=by have:=of_decide_eq_false j;omega
 refine⟨m,λx d=>?_⟩;obtain⟨i,hi⟩:=List.mem_iff_getElem?.1 d;obtain⟨v,a,s⟩:=hlong x;rw[h i (by have:=Vs hi;omega) x hi] at a;cases a;exact s rfl;rw[ol h];exact⟨true,rfl,λj=>by cases j⟩;intro i hi;have f:i<l.length:=om
 have d:l[i]?=some l[i]:=oq f;obtain⟨v,a,_⟩:=hlong l[i];simp only[jn_eq];rw[oj om,bifT,oj om,bifT,J6 d,sbind,a,sbind,w1 om];constructor;intro g;have:=g _ d;rw[a] at this;cases this;rw[bifF];intro g;cases v;exact absurd (λx e=>by rw[d] at e;cases e;exact a) g;rw[bifT];simp only[jn_eq];by_cases m:l.length<=5;rw[oi om,bifF,bifF];rw[oj om,bifT,oi om,bifF];unfold big at q;omega
theorem w46:V6 big=some true:=ox
set_option maxRecDepth 100000
theorem Qv3{n k:Nat}{a b:List Qa}(j:big<=n)(d:1<=k)(hk:k<1000000)(q:FR k a)(f:FR k b)(u:a.length<=1000):
 Qfd n a b=some (if a.length=b.length then (toF (psum (rv a) (rv b) a.length),true) else (toF 0,false)):=by
 unfold Qfd;rw[Qdy j,sbind];by_cases h:a.length=b.length
 case neg=>rw[ol h,oi om,xt,bifT]
 rw[oo h,oj om,xg,bifF];have bnd:∀ i:Nat,qw (psum (rv a) (rv b) i)<=1+i*(k+k+1):=by
  intro i
  induction i with
  | zero=>show qw 0<=_;rw[Qg7];omega
  | succ i s=>
    have e:=Qjm s (Qoi (Qiy (i:=i) (QR_rv q d) d) (Qiy (i:=i) (QR_rv f d) d));have:(i+1)*(k+k+1)=i*(k+k+1)+(k+k+1):=wz _ _;rw[Qkm];omega
 rw[Qfn (λi=>toF (psum (rv a) (rv b) i)) a]
 . rfl
 . intro i x l
   have hi:=Vs l;obtain⟨y,m⟩:∃ y,b[i]?=some y:=⟨b[i]' om,oq _⟩
   have r:=q x (Kg l);have yk:=f y (Kg m);have A:=Qoi (qw_fv r d) (qw_fv yk d);have f:=bnd i;have v:i*(k+k+1)<=1000*(k+k+1):=yb _ om;rw[J6 m,sbind,Qnc j d om r yk,sbind,Qe1 (k:=1+1000*(k+k+1)) j om om (Qer om) (Qer om),sbind,Qdi,Qdi,Qkm,Qxn l,Qxn m]
 . rfl
set_option maxRecDepth 100000
theorem Qp3{k:Nat}{a b:List Rat}(d:1<=k)(e:QR k a)(f:QR k b):∀ i:Nat,qw (psum a b i)<=1+i*(2*k+1)
 | 0=>by show qw (0:Rat)<=_;rw[Qg7];omega
 | i+1=>by rw[Qkm,wz];have:=Qjm (Qp3 d e f i) (Qoi (Qiy (i:=i) e d) (Qiy (i:=i) f d));omega
theorem Qss{n k:Nat}{a b:List Rat}(d:big<=n)(e:1<=k)(hk:k<1000000)(f:QR k a)(j:QR k b)(u:a.length=b.length)(s:a.length<=1000):X9 n (rR a) (rR b)=some (rF (psum a b a.length)):=by
 unfold X9;rw[Qjo d,sbind,Yu (λi=>(rF (psum a b i),(i:Int))) a.length (rF (psum a b a.length))];intro i hi;have q:a[i]?=some (a.getD i 0):=by rw[ui,oq hi];rfl
 have r:b[i]?=some (b.getD i 0):=by rw[ui,oq om];rfl
 have l:=Qiy (i:=i) f e;have m:=Qiy (i:=i) j e;have v:=Qoi l m;have x:=Qp3 e f j i;have A:i*(2*k+1)<=1000*(2*k+1):=yb _ om;simp only[Qak];rw[oj (show(i:Int)<(a.length:Int) by omega),bifT,J6 (Qom q),sbind,J6 (Qom r),sbind,Ql3 (k:=k) d om l m,sbind,Qbj (k:=1000*(2*k+1)+2*k+1) d om om om,sbind,w1 om,Qkm];simp only[Qak];rw[oi om,bifF];unfold big at d;omega;rfl
set_option maxRecDepth 100000
theorem Qtj{α:Type}{i:Int}{x:α}:∀ {kv:List (Int×α)},(mset kv i x).map (·.1)=if i∈kv.map (·.1) then kv.map (·.1) else kv.map (·.1)++[i]
 | []=>rfl
 | (k,y)::kv=>by by_cases h:k=i;subst h;simp[mset];have d:=Qtj (i:=i) (x:=x) (kv:=kv);have a:¬ i=k:=λe=>h e.symm;simp only[mset,h,decide_false,wx,xu,d];by_cases hi:i∈kv.map (·.1);rw[oo hi,oo (.tail _ hi)];rw[ol hi,ol (by simp only[xl,not_or];exact⟨a,hi⟩)];rfl
theorem Qt8{n k:Nat}{l:List Qr}(R:big<=n)(S:1<=k)(hk:k<1000000)(W:l.length<=300)(J:∀ x∈l,FR k x.W/\x.W.length<=1000000/\1<=x.W.length):
 ∃ kv,Y7 n l 0=some kv/\(kv.map (·.1)).Nodup/\kv.length<=l.length/\∀ i,i∈kv.map (·.1)↔∃ x∈l,x.Gy=i:=by
 unfold Y7
 have key:∀(l:List Qr) (i:Nat) (kv:List (Int×List Qa)),(∀ x∈l,FR k x.W/\x.W.length<=1000000/\1<=x.W.length)->(kv.map (·.1)).Nodup->(∀ e∈kv,e.2=[]) ->
  ∃ f,rangeL (λ(_:Nat) (u:Qr) (C:(List (Int×(List Qa))))=>
    jn (λ(I:((List Qa))->Option _)=>
     bif !((mget C u.Gy).isSome) then (
      (Wc n 0).bind λB=>
      I B)
     else (
      I ((mget C u.Gy).getD ([]:(List Qa))))) (λ(N:(List Qa))=>
     (Ws n ([N,u.W]:List (List Qa))).bind λq=>
     some (Lp.go (σ:=List (Int×List Qa)) (τ:=List (Int×List Qa)) (mset C u.Gy q.1)))) l i kv=some (Lp.go f)/\(f.map (·.1)).Nodup/\f.length<=kv.length+l.length/\(∀ j,j∈f.map (·.1)↔j∈kv.map (·.1)\/∃ x∈l,x.Gy=j):=by
  intro l
  induction l with
  | nil=>intro i kv _ s _;exact⟨kv,rfl,s,oc,oc⟩
  | cons x l V=>
    intro i kv J s r;obtain⟨w1,X,Y⟩:=J x (.head _);have U:Wc n 0=some ([]:List Qa):=by
     have:=Qt1 (n:=n) (m:=0) R oz
     simpa [toR] using this
    have v:Ws n [([]:List Qa),x.W]=some ([],false):=by rw[Qok (k:=k) R S om (λ_ h=>by cases h) w1 oc,ol oh]
    have E:(mget kv x.Gy).getD ([]:List Qa)=[]:=by
     have:∀(kv:List (Int×List Qa)),(∀ e∈kv,e.2=[])->(mget kv x.Gy).getD ([]:List Qa)=[]:=by
      intro kv
      induction kv with
      | nil=>intro _;rfl
      | cons e kv A=>
        obtain⟨a,b⟩:=e;intro r;by_cases h:a=x.Gy;simp only[mget,h,decide_true,cond_true];exact r (a,b) (.head _);simp only[mget,h,decide_false,wx];exact A λe h=>r e (.tail _ h)
     exact this kv r
    have G:∀ e∈mset kv x.Gy ([]:List Qa),e.2=[]:=by
     have:∀(kv:List (Int×List Qa)),(∀ e∈kv,e.2=[])->∀ e∈mset kv x.Gy ([]:List Qa),e.2=[]:=by
      intro kv
      induction kv with
      | nil=>intro _ e h;simp[mset] at h;rw[h]
      | cons c kv A=>
        obtain⟨a,b⟩:=c;intro r e h;by_cases h0:a=x.Gy;simp only[mset,h0,decide_true,cond_true] at h;rcases xl.1 h with rfl | h;rfl;exact r e (.tail _ h);simp only[mset,h0,decide_false,wx] at h;rcases xl.1 h with rfl | h;exact r _ (.head _);exact A (λe h=>r e (.tail _ h)) e h
     exact this kv r
    have hk:=Qtj (i:=x.Gy) (x:=([]:List Qa)) (kv:=kv);have H:((mset kv x.Gy ([]:List Qa)).map (·.1)).Nodup:=by rw[hk];split;exact s;rename_i F;rw[List.nodup_append];exact⟨s,oc,λa T b P e=>F (by simp at P;rw[<-P,<-e];exact T)⟩
    have Q:(mset kv x.Gy ([]:List Qa)).length<=kv.length+1:=by have:=ud List.length hk;rw[ov] at this;rw[this];split<;>simp
    obtain⟨f,K,L,O,M⟩:=V (i+1) (mset kv x.Gy []) (λy d=>J y (.tail _ d)) H G;refine⟨f,?_,L,oh,λj=>?_⟩;rw[rangeL,jn_eq]
    have step:∀ b:Bool,(bif b then (Wc n 0).bind λB=>(Ws n ([B,x.W]:List (List Qa))).bind λq=>some (Lp.go (σ:=List (Int×List Qa)) (τ:=List (Int×List Qa)) (mset kv x.Gy q.1))
     else (Ws n ([(mget kv x.Gy).getD ([]:List Qa),x.W]:List (List Qa))).bind λq=>some (Lp.go (mset kv x.Gy q.1)))=some (Lp.go (mset kv x.Gy [])):=by
     intro b;cases b;rw[bifF,E,v,sbind];rw[bifT,U,sbind,v,sbind]
    rw[step,sbind];exact K;rw[M,hk];by_cases F:x.Gy∈kv.map (·.1);rw[oo F];constructor;rintro(h | ⟨y,d,e⟩);exact .inl h;exact .inr ⟨y,.tail _ d,e⟩;rintro(h | ⟨y,d,e⟩);exact .inl h;rcases xl.1 d with rfl | d;exact .inl (e ▸ F);exact .inr ⟨y,d,e⟩;rw[ol F,yw,yt];constructor;rintro((h | rfl) | ⟨y,d,e⟩);exact .inl h;exact .inr ⟨x,.head _,rfl⟩;exact .inr ⟨y,.tail _ d,e⟩;rintro(h | ⟨y,d,e⟩);exact .inl (.inl h);rcases xl.1 d with rfl | d;exact .inl (.inr e.symm);exact .inr ⟨y,d,e⟩
 obtain⟨kv,K,L,O,M⟩:=key l 0 [] J oc (λ_ h=>by cases h);refine⟨kv,?_,L,by simpa using O,λi=>by rw[M];simp⟩;rw[K,sbind,Wj]
def busyB(l:List Qh)(m:Nat):List Int:=((List.range m).map λ(j:Nat)=>(j:Int) - 1).filter λv=>l.any λx=>decide (x.Gy=v)
theorem Qri{l:List Qh}{m:Nat}:busyB l (m+1)=busyB l m++if (l.any λx=>decide (x.Gy=(m:Int) - 1))=true then [(m:Int) - 1] else []:=by unfold busyB;rw[List.range_succ,xw,List.filter_append];congr 1;simp only[xu,List.map_nil,List.filter_cons,List.filter_nil]
theorem Qp4{l:List Qh}{m:Nat}{v:Int}(h:v∈busyB l m):v<(m:Int) - 1/\-1<=v/\∃ x∈l,x.Gy=v:=by
 unfold busyB at h;obtain⟨a,d⟩:=vt.1 h;obtain⟨j,e,rfl⟩:=xy.1 a;have:=List.mem_range.1 e;refine⟨om,om,?_⟩
 simpa using d
theorem Qzy{l:List Qh}{m:Nat}{v:Int}(a:-1<=v)(d:v<(m:Int) - 1)(h:∃ x∈l,x.Gy=v):v∈busyB l m:=by unfold busyB;refine vt.2 ⟨xy.2 ⟨(v+1).toNat,List.mem_range.2 om,om⟩,by simpa using h⟩
theorem Qv4{l:List Qh}:∀ {m:Nat},(busyB l m).Pairwise (· < ·)
 | 0=>by simp[busyB]
 | m+1=>by rw[Qri,List.pairwise_append];refine⟨Qv4,by split<;>simp,λa e b d=>?_⟩;have:=(Qp4 e).1;split at d;simp at d;omega;cases d
theorem Qtk{l:List Qh}{m:Nat}:(busyB l m).length<=m:=by unfold busyB;exact xm (List.length_filter_le _ _) oc
theorem Qzz{K B:List Int}(i:K.Nodup)(f:B.Pairwise (· < ·))(h:∀ v,v∈K↔v∈B):sortI K=B:=by
 have m:∀ a b c:Int,decide (a<=b)=true->decide (b<=c)=true->decide (a<=c)=true:=λa b c d e=>by simp only[ur] at *;omega
 have l:∀ a b:Int,(decide (a<=b) || decide (b<=a))=true:=λa b=>by simp only[Bool.or_eq_true,ur];omega
 have nB:B.Nodup:=f.imp λh=>om
 have j:K.Perm B:=(List.perm_ext_iff_of_nodup i nB).2 h;unfold sortI;refine List.Perm.eq_of_pairwise (le:=λa b=>decide (a<=b)=true) (λa b _ _ d e=>?_) (List.pairwise_mergeSort m l K) (f.imp λh=>by simp;omega) ((List.mergeSort_perm K _).trans j);simp only[ur] at d e;omega
theorem Qz0{n:Nat}{a:List Int}(d:big<=n)(e:a.length<=1000000):Wv n a a=some true:=by
 unfold Wv;refine Vr (λs=>a.length - s.2.toNat) (λs=>∃ i:Nat,s=(true,(i:Int))/\i<=a.length) (λt=>t=true) ⟨0,by rw[oj rfl];rfl,xo _⟩ (by simp only[];unfold big at d;omega) ?_ ?_;rintro s ⟨i,rfl,hi⟩;simp only[jn_eq,bifT];by_cases h:i<a.length;left;rw[oj (show(i:Int)<(a.length:Int) by omega),bifT,bifT,J6 (oq h),sbind,sbind,w1 om,oj rfl];exact⟨_,rfl,⟨i+1,rfl,om⟩,by simp only[];omega⟩;right;obtain rfl:i=a.length:=om
 rw[oi (show ¬((a.length:Nat):Int)<(a.length:Int) by omega),bifF,bifF];exact⟨_,rfl,rfl⟩;rintro t rfl;rfl
set_option maxRecDepth 100000
theorem Q0y{l:List Qh}{v:Int}{i:Nat}{x:Qh}(h:l[i]?=some x):((l.take (i+1)).any λx=>decide (x.Gy=v))=(((l.take i).any λx=>decide (x.Gy=v)) || decide (x.Gy=v)):=by rw[Yc h,List.any_append];simp
def bsI(n:Nat)(l:List Qh)(v:Int):List Int×Int->Option (Lp (List Int×Int) (List Int)):=λ(s217:(List Int)×Int)=>
 bif decide (s217.2<(l.length:Int)) then (
  jn (λ(j231:((List Int))->Option _)=>
   jn (λ(j238:(Bool)->Option _)=>
    (getI l s217.2).bind λy241=>
    bif decide (y241.Gy=v) then (
     bif decide ((s217.1.length:Int)=(0:Int)) then (
      j238 true)
     else (
      (getI s217.1 (wrap64 ((s217.1.length:Int) - (1:Int)))).bind λy243=>
      j238 (!decide (y243=v))))
    else (
     j238 false)) (λ(s240:Bool)=>
    bif s240 then (
     (appM 8 s217.1 ([v]:List Int)).bind λy245=>
     j231 y245)
    else (
     j231 s217.1))) (λ(s233:(List Int))=>
   some (Lp.go (s233,wrap64 (s217.2+(1:Int))))))
 else (
  some (Lp.out s217.1))
theorem Q0z{n m:Nat}{l:List Qh}(u:big<=n)(B:l.length<=5)(C:m<=100):loopM (bsI n l ((m:Int) - 1)) n (busyB l m,0)=some (busyB l (m+1)):=by
 have r:loopM (bsI n l ((m:Int) - 1)) n (busyB l m,0)=(loopM (bsI n l ((m:Int) - 1)) n (busyB l m,0)).bind some:=by cases loopM (bsI n l ((m:Int) - 1)) n (busyB l m,0)<;>rfl
 rw[r];have f:=Qtk (l:=l) (m:=m);refine Vr (λs=>l.length - s.2.toNat) (λs=>∃ i:Nat,s=(busyB l m++(if ((l.take i).any λx=>decide (x.Gy=(m:Int) - 1))=true then [(m:Int) - 1] else []),(i:Int))/\i<=l.length) (λt=>t=busyB l (m+1)) ⟨0,oc,xo _⟩ (by simp only[];unfold big at u;omega) ?_ ?_;rintro s ⟨i,rfl,hi⟩;unfold bsI;simp only[jn_eq];by_cases h:i<l.length;left;have d:l[i]?=some l[i]:=oq h;rw[oj (show(i:Int)<(l.length:Int) by omega),bifT,J6 d,sbind,w1 om];refine⟨(busyB l m++(if ((l.take (i+1)).any λx=>decide (x.Gy=(m:Int) - 1))=true then [(m:Int) - 1] else []),((i+1:Nat):Int)),?_,⟨i+1,rfl,om⟩,by simp only[];omega⟩;rw[Q0y d];generalize l[i]=x at d;by_cases e:x.Gy=(m:Int) - 1;rw[oj e,bifT,Bool.or_true,oo rfl];cases A:(l.take i).any λx=>decide (x.Gy=(m:Int) - 1);rw[ol oz,uj];have a:appM 8 (busyB l m) [(m:Int) - 1]=some (busyB l m++[(m:Int) - 1]):=Vm oh oh;by_cases h0:(busyB l m).length=0;rw[oj (show((busyB l m).length:Int)=0 by omega),bifT,bifT,a,sbind];obtain⟨y,j⟩:∃ y,(busyB l m)[(busyB l m).length - 1]?=some y:=⟨_,oq om⟩
 have v:=(Qp4 (wj j)).1;rw[oi (show ¬((busyB l m).length:Int)=0 by omega),bifF,w64 om om,show((busyB l m).length:Int) - 1=(((busyB l m).length - 1:Nat):Int) by omega,J6 j,sbind,oi (show ¬ y=(m:Int) - 1 by omega),xt,bifT,a,sbind];rw[oo rfl];have q:(busyB l m++[(m:Int) - 1])[(busyB l m).length]?=some ((m:Int) - 1):=oc
 rw[oi (show ¬((busyB l m++[(m:Int) - 1]).length:Int)=0 by simp;omega),bifF,show((busyB l m++[(m:Int) - 1]).length:Int)=((busyB l m).length:Int)+1 by simp,w64 om om,show((busyB l m).length:Int)+1 - 1=((busyB l m).length:Int) by omega,J6 q,sbind,oj rfl,xg,bifF];rw[oi e,bifF,bifF,Bool.or_false];right;obtain rfl:i=l.length:=om
 rw[oi (show ¬((l.length:Nat):Int)<(l.length:Int) by omega),bifF];refine⟨_,rfl,?_⟩;rw[xv,Qri];rintro t rfl;rfl
theorem Q00{n:Nat}{l:List Qh}(a:big<=n)(f:l.length<=5):loopM (λ(s184:(List Int)×Int)=>
 bif decide (s184.2<(100:Int)) then (
  (loopM (bsI n l s184.2) n (s184.1,(0:Int))).bind λ(t215:(List Int))=>
  some (Lp.go (t215,wrap64 (s184.2+(1:Int)))))
 else (
  some (Lp.out s184.1))) n (([]:List Int),(-1:Int))=some (busyB l 101):=by
 generalize d:(λ(s184:(List Int)×Int)=>bif decide (s184.2<(100:Int)) then ((loopM (bsI n l s184.2) n (s184.1,(0:Int))).bind λ(t215:(List Int))=>some (Lp.go (t215,wrap64 (s184.2+(1:Int))))) else (some (Lp.out (σ:=List Int×Int) s184.1)))=F;have e:loopM F n (([]:List Int),(-1:Int))=(loopM F n (([]:List Int),(-1:Int))).bind some:=by cases loopM F n (([]:List Int),(-1:Int))<;>rfl
 rw[e];refine Vr (λs=>(100 - s.2).toNat) (λs=>∃ m:Nat,s=(busyB l m,(m:Int) - 1)/\m<=101) (λt=>t=busyB l 101) ⟨0,rfl,om⟩ (by simp only[];unfold big at a;omega) ?_ ?_;rintro s ⟨m,rfl,i⟩;subst d;simp only[];by_cases h:m<=100;left;rw[oj (show(m:Int) - 1<100 by omega),bifT,Q0z a f h,sbind,w64 om om];exact⟨_,rfl,⟨m+1,by rw[show(m:Int) - 1+1=((m+1:Nat):Int) - 1 by omega],om⟩,by simp only[];omega⟩;right;obtain rfl:m=101:=om
 rw[oi oz,bifF];exact⟨_,rfl,rfl⟩;rintro t rfl;rfl
set_option maxRecDepth 100000
def Qs(h:Qj):List (List Rat):=(tri (tHis h)).map (·.2.2)++[rvr h.Y]
def dxQ(h:Qj)(x:Qh):List Rat:=addQ ((Qs h).getD x.Gy.toNat []) (scaleQ (-1) (rvr x.W))
def ddQ(h:Qj)(x:Qh):Rat:=psum (dxQ h x) (dxQ h x) (dxQ h x).length
def sumD(h:Qj)(l:List Qh)(s:Rat):Rat:=l.foldl (λs x=>s+ddQ h x) s
structure HisK(h:Qj):Prop where
 q:∀ r∈Qs h,QR 1000 r/\r.length=h.Y.length
 l:h.Y.length<=6
structure LkK(h:Qj)(x:Qh):Prop where
 n:0<=x.Gy/\x.Gy.toNat<(Qs h).length
 w:QR 129 (rvr x.W)/\FRr 129 x.W/\x.W.length=h.Y.length
theorem qm1:qw (-1:Rat)<=1:=by rw[Qzj,Qq8];exact xn _
theorem LkK.row{h:Qj}{x:Qh}(a:HisK h)(d:LkK h x):(Qs h)[x.Gy.toNat]?=some ((Qs h).getD x.Gy.toNat [])/\QR 1000 ((Qs h).getD x.Gy.toNat [])/\((Qs h).getD x.Gy.toNat []).length=h.Y.length:=by
 have e:(Qs h)[x.Gy.toNat]?=some ((Qs h).getD x.Gy.toNat []):=by rw[ui,oq d.n.2];rfl
 exact⟨e,a.q _ (wj e)⟩
theorem dxQ_k{h:Qj}{x:Qh}(f:HisK h)(a:LkK h x):QR 1131 (dxQ h x)/\(dxQ h x).length=h.Y.length:=by obtain⟨_,d,e⟩:=a.row f;refine⟨Qix (Qzm d (Qpu qm1 a.w.1)) oz,?_⟩;unfold dxQ;rw[Qha,e,Qgl,Qd0,a.w.2.2,Nat.min_self]
theorem ddQ_k{h:Qj}{x:Qh}(d:HisK h)(i:LkK h x):qw (ddQ h x)<=20000:=by obtain⟨a,e⟩:=dxQ_k d i;have:=Qp3 oz a a (dxQ h x).length;unfold ddQ;have f:=d.l;rw[e] at this |-;have j:h.Y.length*(2*1131+1)<=6*(2*1131+1):=yb _ f;omega
theorem Qv5{α β:Type}{f:α->β}{l:List α}{i:Int}{x:α}(h0:0<=i)(h:l[i.toNat]?=some x):getI (l.map f) i=some (f x):=by
 obtain⟨n,rfl⟩:∃ n:Nat,i=n:=⟨i.toNat,om⟩
 rw[J6 (x:=f x)];rw[ut] at h;rw[ug,h];rfl
theorem Qxo{n:Nat}{h:Qj}{x:Qh}(e:big<=n)(i:HisK h)(a:LkK h x):Zl n ((Qs h).map toR) (lkT x)=some (toR (dxQ h x)):=by
 obtain⟨j,l,B⟩:=a.row i
 have m:FR 129 (x.W.map tF):=λf q=>by obtain⟨g,r,rfl⟩:=xy.1 q;have:=a.w.2.1 g r;exact⟨this.1,this.2.2.1,this.2.1,this.2.2.2⟩
 have s:=i.l;have u:=a.w.2.2;unfold Zl;show((getI ((Qs h).map toR) x.Gy).bind λA=>(Qfc n A (x.W.map tF)).bind λv=>some v.1)=_;rw[Qv5 a.n.1 j,sbind];unfold Qfc;have d:(((-1:Int):Int):Rat)=-1:=rfl
 rw[Qdl e oz oz,sbind,d,Qg9 (k:=129) e oz oz (Qer (xm qm1 oz)) m oh,sbind,Qdi,Qjp,
  Qok (k:=1000) e oz oz (Qlz l) (Qlz (Qix (Qpu qm1 a.w.1) oz)) (by rw[Qcd];omega),sbind,Qcd,Qcd,Qgl,Qd0,oo om,sbind,Qq3,Qq3]
 rfl
theorem Q17{n:Nat}{h:Qj}{x:Qh}{T:List Qc}(e:big<=n)(l:Vj n h=some (T,(Qs h).map rR))(f:HisK h)(a:LkK h x):Xr n h (nlk x)=some (rR (dxQ h x)):=by
 obtain⟨i,j,A⟩:=a.row f;have m:=f.l;have q:=a.w.2.2;unfold Xr;rw[l,sbind];show((getI ((Qs h).map rR) x.Gy).bind λv=>(Kv n (-1:Int)).bind λr=>(V9 n r (rR (rvr x.W))).bind λs=>(Vz n v s).bind λu=>some u)=_;have d:(((-1:Int):Int):Rat)=-1:=rfl
 rw[Qv5 a.n.1 i,sbind,Qkk e oz oz,sbind,d,Qpw (k:=129) e oz (xm qm1 oz) a.w.1 (by rw[Qd0];omega),sbind,
  Ql4 (k:=1000) e oz j (Qix (Qpu qm1 a.w.1) oz) (by rw[Qgl,Qd0];omega) om,sbind]
 rfl
theorem Qz1(d:List Rat):scaleQ 2 d=addQ d d:=by
 unfold scaleQ addQ
 induction d with
 | nil=>rfl
 | cons x d a=>simp only[xu,List.zipWith_cons_cons,a];congr 1;grind
theorem Qv6{n:Nat}{h:Qj}(f:big<=n)(a:HisK h):∀(l:List Qh) (i:Nat) (s:Rat) (b:Nat),(∀ x∈l,LkK h x)->qw s<=b->b+l.length*20001<=1000000 ->
 rangeL (λ(_:Nat) (u:Qr) (r:Qa)=>
  (Zl n ((Qs h).map toR) u).bind λd=>
  (Qfd n d d).bind λm=>
  (Kz n r m.1).bind λq=>
  some (Lp.go (σ:=Qa) (τ:=Qa×Bool) q)) (l.map lkT) i (toF s)=some (Lp.go (toF (sumD h l s)))/\qw (sumD h l s)<=1000000
 | [],_,s,b,_,e,h0=>⟨rfl,by simp at h0;exact xm e om⟩
 | x::l,i,s,b,B,e,h0=>by
   have j:=B x (.head _);obtain⟨v,F⟩:=dxQ_k a j;have A:=ddQ_k a j;simp only[xp] at h0;have G:=a.l;have E:=Qv6 f a l (i+1) (s+ddQ h x) (b+20001) (λy C=>B y (.tail _ C)) (xm (Qjm e A) om) om
   rw[xu,rangeL,Qxo f a j,sbind,Qv3 (k:=1131) f oz oz (Qlz v) (Qlz v) (by rw[Qcd];omega),oo rfl,sbind,Qq3,Qcd,show(toF (psum (dxQ h x) (dxQ h x) (dxQ h x).length),true).1=toF (ddQ h x) from rfl,
    Qe1 (k:=1000000) f oz oz (Qer (xm e om)) (Qer (xm A oz)),sbind,sbind,Qdi,Qdi]
   exact E
theorem Qv7{n:Nat}{h:Qj}(d:big<=n)(f:HisK h):∀(l:List Qh) (i:Nat) (a:List Qr),(∀ x∈l,LkK h x)->a.length+l.length<=1000 ->
 rangeL (λ(_:Nat) (e:Qr) (r:(List Qr))=>
  (Jo n (2:Int)).bind λj=>
  (Zl n ((Qs h).map toR) e).bind λm=>
  (Wm n j m).bind λq=>
  (appM 32 r ([(⟨e.Gy,q⟩:Qr)]:List Qr)).bind λs=>
  some (Lp.go (σ:=List Qr) (τ:=List Qr×Bool) s)) (l.map lkT) i a=some (Lp.go (a++l.map λx=>(⟨x.Gy,toR (addQ (dxQ h x) (dxQ h x))⟩:Qr)))
 | [],_,a,_,_=>by simp[rangeL]
 | x::l,i,a,v,h0=>by
   have A:=v x (.head _);obtain⟨C,G⟩:=dxQ_k f A;simp only[xp] at h0;have H:=f.l;have F:qw (((2:Int):Int):Rat)<=1131:=by rw[show(((2:Int):Int):Rat)=1+1 by have:(((2:Int):Int):Rat)=2:=rfl;rw[this];grind];exact xm (Qjm (Nat.le_of_eq Qq8) (Nat.le_of_eq Qq8)) oz
   have u:(((2:Int):Int):Rat)=2:=rfl;have B:=Qv7 d f l (i+1) (a++[⟨x.Gy,toR (addQ (dxQ h x) (dxQ h x))⟩]) (λy E=>v y (.tail _ E)) oh;rw[Qdl d oz oz,u] at B;rw[xu,rangeL,Qdl d oz oz,sbind,Qxo d f A,sbind,Qg9 (k:=1131) d oz oz (Qer F) (Qlz C) (by rw[Qcd];omega),sbind,Qdi,Qq3,u,Qz1];rw[show(lkT x).Gy=x.Gy from rfl,Vm oh oh,sbind,sbind];simp only[];rw[B];simp
set_option maxRecDepth 100000
set_option maxHeartbeats 1000000 in
theorem Qst(h:Qj)(l:List Qh)(hH:Qci h)(hlB:Qcw l):∃ n,V0 n h l=some true:=by
 refine⟨big,?_⟩;have j:big<=big:=xn _;unfold V0;simp only[jn_eq];obtain⟨v,e1,e2⟩:=Qpz (n:=big) (a:=5) (k:=2) (h:=h) j oz oz;rw[show(5:Int)=((5:Nat):Int) from rfl,show(2:Int)=((2:Nat):Int) from rfl,e1,sbind];cases v
 case true=>rw[bifT,bifT,w46];rfl
 obtain⟨g1,g2,g3,g4⟩:=e2 rfl;obtain⟨v,e5,e6⟩:=Qrh (l:=l) j;rw[bifF,e5,sbind];cases v
 case true=>rw[bifT,w46];rfl
 obtain⟨u1,u2⟩:=e6 rfl;rw[bifF];obtain⟨b1,b2,b3,_⟩:=hH;have Q:∀ t∈h.Gx,FT 2 (tTry t):=λt q=>Q0x (b1.2 t q) (g4 t q)
 have F:∀ t∈h.Gx,FTr 1000 t:=λt q=>by
  obtain⟨q1,q2,q3⟩:=Qxj (Q t q) (show 2<=1000 by decide);refine⟨λf N=>?_,λf N=>?_,?_⟩
  . have:Fk 1000 (tF f):=q1 (tF f) (by show _∈[tF t.T,tF t.Gz,tF t.H,tF t.G2];simp at N |-;rcases N with rfl | rfl | rfl | rfl<;>simp)
    exact Fk_wd this
  . exact Fk_wd (q2 (tF f) (yx N))
  . have:=q3
    rw[show(tTry t).Y.length=t.Y.length from ov _] at this;exact this
 have hyl:=g3.1
 have hTr:FRr 1000 [h.T]:=λf N=>by rw[yt.1 N];exact Fk_wd (Qbi (Fk_tF b2 g2) oz)
 have V:FRr 1000 h.Y:=Qvz (Qzw b3 g3) oz;have U:∀ x∈l,Va x.W:=λx d=>(hlB.2 x d).2.1;have J:∀ x∈l,FRr 129 x.W:=λx d=>Qvz (Qzw (U x d) (u2 x d)) oz;have A:∀ x∈l,x.W.length<=6:=λx d=>(u2 x d).1
 have I:∀ x∈l.map lkT,FR 129 x.W/\x.W.length<=1000000:=λx d=>by obtain⟨y,u,rfl⟩:=xy.1 d;refine⟨Qce (FR_tF (U y u) (u2 y u)) oz,?_⟩;show(y.W.map tF).length<=_;rw[ov];have:=A y u;omega
 have hTl:(tHis h).Gx.length<=5:=by show(h.Gx.map tTry).length<=5;rw[ov];exact g1
 have H:∀ t∈(tHis h).Gx,FT 1000 t:=λx d=>by obtain⟨t,q,rfl⟩:=xy.1 d;exact Qxj (Q t q) oz
 have S:Fk 1000 (tHis h).T:=Qbi (Fk_tF b2 g2) oz;have T:FR 1000 (tHis h).Y:=Qce (FR_tF b3 g3) oz;have eYl:(tHis h).Y.length=h.Y.length:=by show(h.Y.map tF).length=_;rw[ov]
 have eR:=Qrg (n:=big) (k:=1000) (h:=tHis h) (l:=l.map lkT) j oz oz om H S T om (by rw[ov];omega) (λx d=>(I x d).2);have eR2:=Qp1 (n:=big) (k:=1000) (h:=h) (l:=l) j oz oz om F hTr V om om (λx d=>by have:=A x d;omega);have eTo:=Qt7 (n:=big) (l:=l) j om (λx d=>by have:=A x d;omega);have B:=Q00 (n:=big) (l:=l) j u1;unfold bsI at B;simp only[jn_eq] at B;rw[Qt6 j om om (λt q=>(F t q).2.2),sbind,eTo,sbind];simp only[sbind];by_cases Y:Qgp (tHis h)/\Qsr (tHis h) (l.map lkT)
 case neg=>
  have eM:Qar big (tHis h) (l.map lkT)=some (toF 0,false):=by unfold Qar;rw[Qdy j,sbind,eR,sbind,dP_f Y,xt,bifT]
  have eU:Qas big (tHis h) (l.map lkT)=some ([],false):=by unfold Qas;rw[eR,sbind,dP_f Y,xt,bifT]
  rw[eM,sbind,eU,sbind,eR2,dP_f Y,sbind,B,sbind];simp only[bne_self_eq_false,bifF,xt,bifT];rw[Qdz (k:=1) j oz oz (Qer (Nat.le_of_eq Qg7)),sbind,Qdi,oj (show(0:Rat).num.sign=0 from rfl),bifT,oj (show(([]:List Qr).length:Int)=0 from rfl),bifT,w46,sbind]
 obtain⟨L,C⟩:=Y;have hP1:∀ t∈h.Gx,P1 t:=λt q=>((Qm2.1 L).2.1 t q).1;obtain⟨q1,q2,q3⟩:=Q15 hP1;have W:rR (rvr h.Y)=h.Y:=Ql5.2 (Qm2.1 L).1.1;have hA:=Q3w (h:=tHis h) (k:=1000) oz L H;rw[eYl] at hA;have hQl:(Qs h).length=(szs (tHis h)).length+1:=by unfold Qs szs;rw[yn,ov,Q14,ov];rfl
 have K:=L.l.2;rw[eYl] at K;have O:HisK h:=by
  refine⟨λr P=>?_,K.2⟩;unfold Qs at P;rcases yw.1 P with P | P
  . obtain⟨x,d,rfl⟩:=xy.1 P
    exact⟨(hA x d).2.2.2.1,(hA x d).2.2.2.2⟩
  . rw[yt.1 P]
    exact⟨Qra V oz,by rw[Qd0]⟩
 have G:∀ x∈l,LkK h x:=λx d=>by obtain⟨n1,n2,Z⟩:=C.2 (lkT x) (yx d);have n1:0<=x.Gy:=n1;have n2:x.Gy<=((szs (tHis h)).length:Int):=n2;have Z:(x.W.map tF).length=(tHis h).Y.length:=Z;rw[ov,eYl] at Z;exact⟨⟨n1,om⟩,Qra (J x d) oz,J x d,Z⟩
 have R:Zy big (tHis h)=some (((okT (tHis h).Gx).map nT).map (·.T)++[toF (fv (tHis h).T)],(Qs h).map toR):=by
  rw[Qrc (k:=1000) j oz oz om H S T om];congr 2;unfold Qs tri;rw[xw,yy,yy,yy];congr 1;show[toR (rv (h.Y.map tF))]=[toR (rvr h.Y)]
  rw[Qjp]
 have hNR:Vj big h=some ((okR h.Gx).map (·.T)++[h.T],(Qs h).map rR):=by rw[Qpx j om,q3];congr 2;unfold Qs rRR;rw[xw];simp only[xu,List.map_nil,W]
 obtain⟨hm1,hm2⟩:=Qv6 (n:=big) j O l 0 0 1 G (Nat.le_of_eq Qg7) om;have ht1:=Qv7 (n:=big) j O l 0 [] G oh;have eM:Qar big (tHis h) (l.map lkT)=some (toF (sumD h l 0),true):=by unfold Qar;rw[Qdy j,sbind,eR,sbind,dP_t ⟨L,C⟩,xg,bifF,R,sbind];simp only[];rw[hm1,sbind,Wj]
 have eU:Qas big (tHis h) (l.map lkT)=some (l.map λx=>(⟨x.Gy,toR (addQ (dxQ h x) (dxQ h x))⟩:Qr),true):=by unfold Qas;rw[eR,sbind,dP_t ⟨L,C⟩,xg,bifF,R,sbind];simp only[];rw[ht1,sbind,Wj,yo]
 obtain⟨kv,k1,k2,k3,k4⟩:=Qt8 (n:=big) (k:=129) (l:=l.map lkT) j oz oz (by rw[ov];omega) (λx d=>⟨(I x d).1,(I x d).2,by
  obtain⟨y,u,rfl⟩:=xy.1 d;show 1<=(y.W.map tF).length
  rw[ov,(G y u).w.2.2];exact K.1⟩)
 rw[ov] at k3;have hTs:(szs (tHis h)).length<=5:=by have:=Qon (tHis h).Gx;unfold szs;rw[ov];omega
 have hso:sortI (kv.map (·.1))=busyB l 101:=Qzz k2 Qv4 λv=>by
  rw[k4];constructor
  . rintro⟨x,d,rfl⟩
    obtain⟨y,u,rfl⟩:=xy.1 d;have:=(G y u).n;have e:(lkT y).Gy=y.Gy:=rfl;exact Qzy om om ⟨y,u,e.symm⟩
  . intro hv
    obtain⟨_,_,y,u,e⟩:=Qp4 hv;exact⟨lkT y,yx u,e⟩
 have eB:Qek big (l.map lkT)=some (busyB l 101):=by unfold Qek Qj5;rw[k1,sbind,oo om,hso,sbind]
 have hbl:=Qtk (l:=l) (m:=101);rw[eM,sbind,eU,sbind,eR2,dP_t ⟨L,C⟩,sbind,B,sbind];simp only[bne_self_eq_false,bifF,bifT,xg];rw[eB,sbind,Qz0 j om,sbind];simp only[xg,bifF];rw[Qp2 j (show 129<1099511627776 by decide) om (λx d=>⟨J x d,by have:=A x d;omega⟩),sbind,Qjo j,sbind];refine Vr (λs=>l.length - s.2.toNat) (λs=>∃ i:Nat,s=(rF (sumD h (l.take i) 0),(i:Int))/\i<=l.length/\qw (sumD h (l.take i) 0)<=1+i*20001) (λt=>t=Lp.go (rF (sumD h l 0))) ⟨0,rfl,xo _,by simp[sumD,Qg7]⟩ (by simp only[];unfold big;omega) ?_ ?_
 . rintro s ⟨i,rfl,hi,hb⟩
   simp only[];by_cases hil:i<l.length
   . left
     have d:l[i]?=some l[i]:=oq hil;have E:=wj d;generalize l[i]=x at d E;obtain⟨M,d2⟩:=dxQ_k O (G x E);have d3:=ddQ_k O (G x E);have h6:=O.l;have i20:i*20001<=5*20001:=yb _ om;have X:sumD h (l.take (i+1)) 0=sumD h (l.take i) 0+ddQ h x:=by unfold sumD;rw[Yc d,List.foldl_append];rfl
     have hx2:(l.map nlk)[i]?=some (nlk x):=by rw[ug,d];rfl
     have hx3:(l.map λx=>(⟨x.Gy,toR (addQ (dxQ h x) (dxQ h x))⟩:Qr))[i]?=some ⟨x.Gy,toR (addQ (dxQ h x) (dxQ h x))⟩:=by rw[ug,d];rfl
     rw[ov,oj (show(i:Int)<(l.length:Int) by omega),bifT,J6 hx2,sbind,Q17 j hNR O (G x E),sbind,Qss (k:=1131) j oz oz M M rfl om,sbind,show psum (dxQ h x) (dxQ h x) (dxQ h x).length=ddQ h x from rfl,
      Qbj (k:=1000000) j oz (xm hb om) (xm d3 oz),sbind,<-X,ov,oi (show ¬(l.length:Int)<=(i:Int) by omega),bifF,J6 hx3,sbind,sbind]
     rw[oj (show(⟨x.Gy,toR (addQ (dxQ h x) (dxQ h x))⟩:Qr).Gy=(nlk x).Gy from rfl),xg,bifF,sbind,Ql4 (k:=1131) j oz M M rfl om,sbind,Qsq (k:=2263) j (by rw[Qha];omega) oz (Qix (Qzm M M) oz),sbind,oj rfl,xg,bifF,w1 om];refine⟨_,rfl,⟨i+1,rfl,om,?_⟩,by simp only[];omega⟩;rw[X];refine xm (Qjm hb d3) ?_;rw[Nat.add_mul];omega
   . right
     obtain rfl:i=l.length:=om
     rw[ov,oi (show ¬((l.length:Nat):Int)<(l.length:Int) by omega),bifF];exact⟨_,rfl,by rw[xv]⟩
 . rintro t rfl
   rw[Wj,Qsp (k:=1000000) j oz hm2,sbind,oj rfl,bifT,ov,ov,oj rfl,bifT,w46,sbind]
end Go.Proofs.YtgmknbfonlbjfaaGreatDoor
