import Derived.Test.YtmnlcblemgjeeaaGreatDoorP1
namespace Go.Proofs.YtmnlcblemgjeeaaGreatDoor
open Go Go.RowKit
def wy(w:Qm):Int:=if w.Neg then -(val w.Gj:Int) else (val w.Gj:Int)
def rW(z:Int):Qm:=⟨decide (z<0),toL z.natAbs⟩
theorem wy_rW(z:Int):wy (rW z)=z:=by unfold wy rW;simp only[Qj];by_cases h:z<0;rw[ot h,oj rfl];omega;rw[oq h,oi oz];omega
theorem Qhc{n:Nat}{w:Qm}(d:big<=n)(e:Wd w.Gj)(a:w.Gj.length<=35184372088832):J1 n w=some (rW (wy w)):=by unfold J1 rW wy;rw[K8 d a,sbind,<-Ja e,jn_eq];cases w.Neg;rw[bifF,oi oz,oq om,uj];rw[bifT,oj rfl,Int.natAbs_neg,uj];have:=Qbm (v:=val w.Gj);refine yz (λb=>some (⟨b,_⟩:Qm)) (wk.2 ?_);omega
theorem Qsy{n:Nat}{w u:Qm}(d:big<=n)(j:Wd w.Gj)(i:Wd u.Gj)(y:w.Gj.length<17592186044410)(q:u.Gj.length<17592186044410):Yq n w u=some (rW (wy w+wy u)):=by
 unfold Yq;have g1:=Jd j;have x:=Jd i;have len:∀ z,z<=val w.Gj+val u.Gj->(toL z).length<=35184372088832:=λz v=>xn (V3 v) (xn (Qmb (k:=17592186044410) om om) oz);rw[Ql5 d om om j i,sbind,Qhy d om om j i,sbind,bifd];obtain⟨s,a⟩:=w;obtain⟨t,b⟩:=u;simp only at *
 have f:∀ s,J1 n ⟨s,toL (val a+val b)⟩=some (rW (if s then -((val a+val b:Nat):Int) else ((val a+val b:Nat):Int))):=λs=>by rw[Qhc d (Ql _) (len _ (ol _))];unfold wy;simp only[Qj]
 have l:∀ s,val b<=val a->(Vd n a b).bind (λr=>(J1 n ⟨s,r⟩).bind λe=>some e)=some (rW (if s then -((val a - val b:Nat):Int) else ((val a - val b:Nat):Int))):=λs h=>by rw[Qmd d om om j i h,sbind,Qhc d (Ql _) (len _ om),sbind];unfold wy;simp only[Qj]
 have m:∀ s,val a<=val b->(Vd n b a).bind (λr=>(J1 n ⟨s,r⟩).bind λe=>some e)=some (rW (if s then -((val b - val a:Nat):Int) else ((val b - val a:Nat):Int))):=λs h=>by rw[Qmd d om om i j h,sbind,Qhc d (Ql _) (len _ om),sbind];unfold wy;simp only[Qj]
 have p:=@Qwa (val a) (val b);unfold wy;simp only[f,sbind];by_cases h:val a<val b;rw[oj (p.2 h),m t om];cases s<;>cases t<;>simp only[beq_self_eq_true,bifT,bifF,vw,uv,if_false,show(false == true)=false by rfl,show(true == false)=false by rfl]<;>congr 2<;>omega;rw[oi (λg=>h (p.1 g)),l s om];cases s<;>cases t<;>simp only[beq_self_eq_true,bifT,bifF,vw,uv,if_false,show(false == true)=false by rfl,show(true == false)=false by rfl]<;>congr 2<;>omega
def rF(q:Rat):Qa:=⟨decide (q.num<0),toL q.num.natAbs,toL q.den⟩
def fr(f:Qa):Rat:=mkRat (if f.Neg then -(val f.N:Int) else (val f.N:Int)) (val f.D)
theorem Qmg(z:Int):(if decide (z<0) then -(z.natAbs:Int) else (z.natAbs:Int))=z:=by by_cases h:z<0;rw[ot h,oj rfl];omega;rw[oq h,oi oz];omega
theorem fr_rF(q:Rat):fr (rF q)=q:=by unfold fr rF;simp only[Qj];rw[Qmg];exact vm q
theorem Q4z{p q:Rat}(h:rF p=rF q):p=q:=by rw[<-fr_rF p,h,fr_rF]
theorem Q29:toL 1=[1]:=by rw[Yv oz];rw[show(1:Nat)%4294967296=1 from rfl,show(1:Nat) / 4294967296=0 from rfl,K2]
theorem Qx1:rF 0=⟨false,[],[1]⟩:=by unfold rF;rw[show(0:Rat).num=0 from rfl,show(0:Rat).den=1 from rfl,Q29,show(0:Int).natAbs=0 from rfl,K2];rfl
theorem rF_mk{s:Bool}{x d:Nat}(g:x≠0)(hd:d≠0):rF (mkRat (if s then -(x:Int) else (x:Int)) d)=⟨s,toL (x / Nat.gcd x d),toL (d / Nat.gcd x d)⟩:=by
 obtain⟨a,e⟩:=Qfq (z:=if s then -(x:Int) else (x:Int)) hd;have i:(if s then -(x:Int) else (x:Int)).natAbs=x:=by cases s<;>simp
 have f:Nat.gcd x d ∣ x:=Nat.gcd_dvd_left _ _;have j:x / Nat.gcd x d≠0:=by have:=Nat.div_pos (Nat.le_of_dvd (Nat.pos_of_ne_zero g) f) (Nat.gcd_pos_of_pos_left d (Nat.pos_of_ne_zero g));omega
 rw[i] at a e;rw[<-Qxt s x _ f] at a;unfold rF;rw[a,e];generalize x / Nat.gcd x d=y at j;cases s;rw[oi oz,oq om,uj];rw[oj rfl,ot om,Int.natAbs_neg,uj]
theorem Xz{n:Nat}{f:Qa}(a:big<=n)(i:Wd f.N)(g:Wd f.D)(lN:f.N.length<35184372087850)(lD:f.D.length<35184372087850):Ji n f=some (rF (fr f)):=by
 unfold Ji;have g1:=Jd i;have l:=Jd g;rw[K8 a om,sbind,K8 a om,sbind,<-Ja i,<-Ja g];simp only[jn_eq,bifd];have m:=Qbm (v:=val f.N);have p:=Qbm (v:=val f.D);unfold fr;by_cases hd:val f.D=0;rw[oj om,hd,Rat.mkRat_zero,Qx1];rfl;rw[oi om];by_cases d:val f.N=0;rw[oj om,d];have:(if f.Neg=true then -((0:Nat):Int) else ((0:Nat):Int))=0:=by split<;>rfl
 rw[this,Rat.zero_mkRat,Qx1];rw[oi om,rF_mk d hd,Qme,sbind];have j:Nat.gcd (val f.N) (val f.D)≠0:=by have:=Nat.gcd_pos_of_pos_left (val f.D) (Nat.pos_of_ne_zero d);omega
 have k:(toL (Nat.gcd (val f.N) (val f.D))).length<35184372087850:=xu (V3 (Nat.gcd_le_left _ (Nat.pos_of_ne_zero d))) om;by_cases e:toL (val f.D)=[1]
 rw[ot e,yj,bifF];have:val f.D=1:=by rw[<-Qj (val f.D),e];rfl
 rw[this,Nat.gcd_one_right,Nat.div_one,Nat.div_one];rw[oq e,uc,bifT,Qsx a om om (Ql _) (Ql _),sbind,Qj,Qj,Qkt a om (Nat.lt_trans k oz) (Ql _) (Ql _) (by rw[Qj];exact j),sbind,Qkt a om (Nat.lt_trans k oz) (Ql _) (Ql _) (by rw[Qj];exact j),sbind,Qj,Qj,Qj]
theorem wy_mk(z:Int)(d:Nat):wy ⟨decide (z<0),toL (z.natAbs*d)⟩=z*(d:Int):=by unfold wy;simp only[Qj,Int.natCast_mul];by_cases h:z<0;rw[ot h,oj rfl,<-Int.neg_mul];congr 1;omega;rw[oq h,oi oz];congr 1;omega
theorem Qek{n k:Nat}{p q:Rat}(a:big<=n)(hk:k<274877906944)(g:qw p<=k)(i:qw q<=k):Ve n (rF p) (rF q)=some (rF (p+q)):=by
 have s:=Qco p;have u:=Qco q;have d:=Qcp p;have f:=Qcp q;have l:=@X4 p.num.natAbs q.den;have m:=@X4 q.num.natAbs p.den;have r:=@X4 p.den q.den;unfold Ve rF;simp only[];rw[Zj a om om (Ql _) (Ql _),sbind,Zj a om om (Ql _) (Ql _),sbind,Qj,Qj,Qj,Qj,Qsy a (Ql _) (Ql _) (by simp only[];omega) (by simp only[];omega),sbind,wy_mk,wy_mk,Zj a om om (Ql _) (Ql _),sbind,Qj,Qj];have j:(toL (p.num*(q.den:Int)+q.num*(p.den:Int)).natAbs).length<=2*k+1:=by
  refine xn (V3 (Int.natAbs_add_le _ _)) ?_;rw[wo,wo,uj,uj];exact Qmb om om
 rw[Xz a (Ql _) (Ql _) (by unfold rW;simp only[];omega) (by simp only[];omega),sbind];have e:fr ⟨(rW (p.num*(q.den:Int)+q.num*(p.den:Int))).Neg,(rW (p.num*(q.den:Int)+q.num*(p.den:Int))).Gj,toL (p.den*q.den)⟩=p+q:=by unfold fr rW;simp only[Qj];rw[Qmg,<-gj _ _ p.den_nz q.den_nz,vm,vm]
 rw[e];rfl
theorem Q1x(z u:Int):(if (decide (z<0) != decide (u<0)) then -((z.natAbs*u.natAbs:Nat):Int) else ((z.natAbs*u.natAbs:Nat):Int))=z*u:=by rw[Qxs,Qmg,Qmg]
theorem Qb3{n k:Nat}{p q:Rat}(a:big<=n)(hk:k<274877906944)(g:qw p<=k)(i:qw q<=k):Kt n (rF p) (rF q)=some (rF (p*q)):=by
 have m:=Qco p;have r:=Qco q;have d:=Qcp p;have f:=Qcp q;have j:=@X4 p.num.natAbs q.num.natAbs;have l:=@X4 p.den q.den;unfold Kt rF;simp only[];rw[Zj a om om (Ql _) (Ql _),sbind,Zj a om om (Ql _) (Ql _),sbind,Qj,Qj,Qj,Qj,Xz a (Ql _) (Ql _) (by simp only[];omega) (by simp only[];omega),sbind];have e:fr ⟨decide (p.num<0) != decide (q.num<0),toL (p.num.natAbs*q.num.natAbs),toL (p.den*q.den)⟩=p*q:=by
  unfold fr;simp only[Qj];rw[Q1x,<-wh,vm,vm]
 rw[e];rfl
theorem Q1y{z u:Int}{d:Nat}(f:u≠0):(if (decide (z<0) != decide (u<0)) then -((z.natAbs*d:Nat):Int) else ((z.natAbs*d:Nat):Int))=z*(u.sign*(d:Int)):=by rw[<-Int.mul_assoc,Int.natCast_mul];have e:=Qmg z;by_cases h:u<0;rw[ot h,Int.sign_eq_neg_one_of_neg h] at *;by_cases a:z<0;rw[ot a] at *;simp only[gz,vw,if_false,uv] at *;rw[show z * -1=(z.natAbs:Int) by omega];rw[oq a] at *;simp only[show(false != true)=true from rfl,uv,vw,if_false] at *;rw[show z * -1=-(z.natAbs:Int) by omega,Int.neg_mul];rw[oq h,gt om] at *;by_cases a:z<0;rw[ot a] at *;simp only[show(true != false)=true from rfl,uv] at *;rw[show z*1=-(z.natAbs:Int) by omega,Int.neg_mul];rw[oq a] at *;simp only[gz,vw,if_false] at *;rw[show z*1=(z.natAbs:Int) by omega]
theorem Qel{n k:Nat}{p q:Rat}(a:big<=n)(hk:k<274877906944)(i:qw p<=k)(j:qw q<=k):Kr n (rF p) (rF q)=some (rF (p / q)):=by
 have r:=Qco p;have s:=Qco q;have f:=Qcp p;have g:=Qcp q;have l:=@X4 p.num.natAbs q.den;have m:=@X4 p.den q.num.natAbs;unfold Kr rF;simp only[];rw[Zj a om om (Ql _) (Ql _),sbind,Zj a om om (Ql _) (Ql _),sbind,Qj,Qj,Qj,Qj,Xz a (Ql _) (Ql _) (by simp only[];omega) (by simp only[];omega),sbind];have e:fr ⟨decide (p.num<0) != decide (q.num<0),toL (p.num.natAbs*q.den),toL (p.den*q.num.natAbs)⟩=p / q:=by
  unfold fr;simp only[Qj];by_cases h0:q.num=0
  . rw[h0,show(0:Int).natAbs=0 from rfl,yu,Rat.mkRat_zero,Rat.num_eq_zero.1 h0];grind
  . rw[Q1y h0,Rat.div_def]
    have d:=Qty h0 q.den_nz;rw[vm] at d;rw[d]
    conv=>rhs;rw[<-vm p]
    rw[wh]
 rw[e];rfl
theorem Q1z{v:Nat}:((toL v).length:Int)=0↔v=0:=by have:=Qbm (v:=v);omega
theorem Qhd(q:Rat):Wt (rF q)=some (decide (q=0)):=by unfold Wt rF;refine yz some (wk.2 ?_);simp only[Q1z];rw[<-Rat.num_eq_zero];omega
open Classical in
theorem Qrn{n:Nat}{f g:Qa}(j:big<=n)(k:f.N.length<=4611686018427387904)(l:f.D.length<=4611686018427387904):Yb n f g=some (decide (f=g)):=by unfold Yb;simp only[jn_eq];obtain⟨s,a,d⟩:=f;obtain⟨t,b,e⟩:=g;simp only at *;by_cases c1:s=t;subst c1;rw[show(s == s)=true by simp,bifT,Qkk j k,sbind];by_cases i:a=b;subst i;rw[ot rfl,bifT,Qkk j l,sbind];exact yz some (wk.2 ⟨λh=>by rw[h],λh=>by cases h;rfl⟩);rw[oq i,bifF,oq (λh=>by cases h;exact i rfl)];rw[show(s == t)=false by simpa using c1,bifF,oq (λh=>by cases h;exact c1 rfl)]
theorem Qoz{n x:Nat}(a:big<=n)(f:x<18446744073709551616):Xp n x=some (toL x):=by
 unfold Xp;have e:Wd [x%4294967296%4294967296,x / 4294967296%4294967296]:=Q6.2 ⟨om,Q6.2 ⟨om,Jr⟩⟩;have d:val [x%4294967296%4294967296,x / 4294967296%4294967296]=x:=by simp only[val];omega
 rw[sbind,K8 a oc,sbind,<-Ja e,d]
theorem Qda{n:Nat}{x:Int}(d:big<=n)(i:-9223372036854775808<=x)(j:x<=9223372036854775807):Qx n x=some (rF (x:Rat)):=by
 unfold Qx;have a:Wd [1]:=Q6.2 ⟨oz,Jr⟩;have g:val [1]=1:=rfl;have l2:∀ z,z<18446744073709551616->(toL z).length<=2:=λz l=>Qad (by rw[Jz,Jz,Xc];omega);rw[bifd];by_cases h:x<0;have e:Int.toNat (wrap64 (-(wrap64 (x+1)))%18446744073709551616)=x.natAbs - 1:=by rw[w64 (x:=x+1) om om,w64 om om];omega
 have k:=l2 (x.natAbs - 1) om;have f:=l2 x.natAbs om;rw[oj h,sbind,e,Qoz d om,sbind,Ql5 d om oc (Ql _) a,sbind,Qj,g,show x.natAbs - 1+1=x.natAbs by omega,Xz d (Ql _) a (by simp only[];omega) oc,sbind];congr 2;unfold fr;simp only[Qj,g];rw[oj trivial,show -((x.natAbs:Nat):Int)=x by omega,<-Rat.mkRat_one];have e:Int.toNat (x%18446744073709551616)=x.natAbs:=om
 have f:=l2 x.natAbs om;rw[oi h,e,Qoz d om,sbind,Xz d (Ql _) a (by simp only[];omega) oc,sbind];congr 2;unfold fr;simp only[Qj,g];rw[oi oz,show((x.natAbs:Nat):Int)=x by omega,<-Rat.mkRat_one]
theorem Qar{n:Nat}(a:big<=n):Qx n 0=some (rF 0):=Qda a oz oz
theorem Qdb{n:Nat}(a:big<=n):Qx n 1=some (rF 1):=Qda a oz oz
def rR(l:List Rat):List Qa:=l.map rF
theorem Q9(l:List Rat):(rR l).length=l.length:=by unfold rR;simp
theorem Qwk{l:List Rat}{i:Nat}{q:Rat}(h:l[i]?=some q):(rR l)[i]?=some (rF q):=by unfold rR;rw[xi,h];rfl
theorem Q40{a b:List Rat}(h:rR a=rR b):a=b:=by
 unfold rR at h
 induction a generalizing b with
 | nil=>cases b with
   | nil=>rfl
   | cons y b=>cases h
 | cons x a f=>cases b with
   | nil=>cases h
   | cons y b=>
     rw[ur,ur] at h;obtain⟨d,e⟩:=List.cons.inj h;rw[Q4z d,f e]
theorem Qpg(l:List Rat)(q:Rat):rR (l++[q])=rR l++[rF q]:=by unfold rR;simp
theorem Qbc{α:Type}{l:List α}{i:Nat}{x:α}(h:l[i]?=some x):l.take (i+1)=l.take i++[x]:=by rw[List.take_add_one,h];rfl
def FRr(k:Nat)(l:List Qa):Prop:=∀ f∈l,Wd f.N/\Wd f.D/\f.N.length<=k/\f.D.length<=k
def rvr(l:List Qa):List Rat:=l.map fr
theorem Zk(l:List Qa):(rvr l).length=l.length:=by unfold rvr;simp
theorem fr_tF(f:Qa):fv (tF f)=fr f:=rfl
theorem Qmh(l:List Qa):rv (l.map tF)=rvr l:=by unfold rv rvr;rw[uw];rfl
theorem Q0l(l:List Rat):rvr (rR l)=l:=by
 unfold rvr rR;rw[uw]
 conv=>rhs;rw[<-List.map_id l]
 exact wi λq _=>fr_rF q
theorem qw_fr{f:Qa}{k:Nat}(h:Wd f.N/\Wd f.D/\f.N.length<=k/\f.D.length<=k)(a:1<=k):qw (fr f)<=k:=by rw[<-fr_tF];exact qw_fv ⟨h.1,h.2.2.1,h.2.1,h.2.2.2⟩ a
theorem Qro{k:Nat}{l:List Qa}(h:FRr k l)(a:1<=k):QR k (rvr l):=λq e=>by obtain⟨f,d,rfl⟩:=xj.1 e;exact qw_fr (h f d) a
theorem Xk{n k:Nat}{l:List Qa}(f:big<=n)(hk:k<1099511627776)(h:FRr k l)(g:l.length<=1000000):Q3 n l=some (rR (rvr l)):=by
 unfold Q3;rw[Yk (λi=>(rR (rvr (l.take i)),(i:Int))) l.length (rR (rvr l))];intro i hi;have d:l[i]?=some l[i]:=oo hi;have a:=h l[i] (ve hi);generalize l[i]=p at d a;simp only[bifd];have e:rvr (l.take (i+1))=rvr (l.take i)++[fr p]:=by rw[Qbc d];unfold rvr;simp
 rw[oj om,Jm d,sbind,Xz f a.1 a.2.1 om om,sbind,W5 (by simp[Q9,Zk];omega) (by simp[Q9,Zk];omega),sbind,w1 om,e,Qpg];simp only[bifd];rw[oi om,ug];unfold big at f;omega;rfl
open Classical in
theorem Qrp{n:Nat}{a b:List Qa}(m:big<=n)(p:a.length<=1000000)(h:∀ f∈a,f.N.length<=4611686018427387904/\f.D.length<=4611686018427387904):Wz n a b=some (decide (a=b)):=by
 unfold Wz;by_cases j:a.length=b.length;rw[ot (show(a.length:Int)=(b.length:Int) by omega),yj,bifF];rw[Qwb (λi=>a[i]?=b[i]?) a.length (r:=false)];have e:(∀ i,i<a.length->a[i]?=b[i]?)↔a=b:=by constructor;intro g;refine List.ext_getElem? λi=>?_;rcases xx i a.length with hi | hi;exact g i hi;rw[ou hi,ou om];rintro rfl i _;rfl
 by_cases g:a=b;rw[oj (e.2 g),ot g];rw[oi (λh=>g (e.1 h)),oq g];intro i hi;have l:a[i]?=some a[i]:=oo hi;have d:b[i]?=some (b[i]' om):=oo om;have k:=h a[i] (ve hi);generalize a[i]=x at l k;generalize b[i]' om=y at d;simp only[bifd];rw[oj om,Jm l,sbind,Jm d,sbind,Qrn m k.1 k.2,sbind,l,d,w1 om];constructor;intro g;rw[ot (Option.some.inj g)];rfl;intro g;rw[oq (λh=>g (by rw[h]))];rfl;simp only[bifd];rw[oi om];unfold big at m;omega;rw[oq (show ¬(a.length:Int)=(b.length:Int) by omega),uc,bifT,oq];intro g;exact j (by rw[g])
theorem Qx2{q:Rat}{k:Nat}(h:qw q<=k):(rF q).N.length<=k/\(rF q).D.length<=k:=by have:=Qco q;have:=Qcp q;exact⟨by show(toL q.num.natAbs).length<=k;omega,by show(toL q.den).length<=k;omega⟩
theorem Qqj{n k:Nat}{a b:List Rat}(g:big<=n)(e:a.length<=1000000)(hk:k<274877906944)(h:QR k a):Wz n (rR a) (rR b)=some (decide (a=b)):=by
 classical
 rw[Qrp g (by rw[Q9];exact e) (λf d=>by
  obtain⟨q,i,rfl⟩:=xj.1 d;have:=Qx2 (h q i)
  exact⟨om,om⟩)]
 exact yz some (wk.2 ⟨Q40,λh=>by rw[h]⟩)
def oF(x:Qc):Qa:=⟨x.Num.Neg,x.Num.Gj,x.Den⟩
theorem Q41(l:List Rat):(toR l).map oF=rR l:=by unfold toR rR;rw[uw];rfl
theorem Quw(x:Qc):Qab x=some (oF x):=rfl
theorem Qux{n:Nat}{l:List Qc}(d:big<=n)(e:l.length<=1000000):Y5 n l=some (l.map oF):=by unfold Y5;rw[Yk (λi=>((l.take i).map oF,(i:Int))) l.length (l.map oF)];intro i hi;have a:l[i]?=some l[i]:=oo hi;generalize l[i]=p at a;simp only[bifd,Quw,sbind];rw[oj om,Jm a,sbind,W5 oh oh,sbind,w1 om,Qi0 oF a];simp only[bifd];rw[oi om,ug];unfold big at d;omega;rfl
theorem Qh1{n k:Nat}{a b:List Rat}(e:big<=n)(d:a.length<=1000000)(hk:k<274877906944)(h:QR k a):Qs n (toR a) (rR b)=some (decide (a=b)):=by unfold Qs;rw[Qux e (by rw[Q5];exact d),sbind,Q41,Qqj e d hk h,sbind]
theorem Qmi{many k:Nat}{l:List Qa}(e:Kj l)(h:FL many k l):FRr k l:=λx d=>by have a:=e.2 x d;have:=h.2 x d;exact⟨a.2.1.2,a.2.2.1.2,this.1,this.2⟩
theorem Qmj{n k:Nat}{a b:List Rat}(g:big<=n)(hk:k<274877906944)(j:QR k a)(l:QR k b)(m:a.length=b.length)(p:a.length<=1000000):Vg n (rR a) (rR b)=some (rR (addQ a b)):=by
 unfold Vg;rw[Yk (λi=>(rR (addQ (a.take i) (b.take i)),(i:Int))) a.length (rR (addQ a b))];intro i hi;have f:a[i]?=some a[i]:=oo hi;have d:b[i]?=some (b[i]' om):=oo om;have q1:=j a[i] (ve hi);have q2:=l (b[i]' om) (ve om);generalize a[i]=x at f q1;generalize b[i]' om=y at d q2;simp only[bifd];have e:addQ (a.take (i+1)) (b.take (i+1))=addQ (a.take i) (b.take i)++[x+y]:=by
  rw[Qbc f,Qbc d];unfold addQ;rw[List.zipWith_append oh];rfl
 rw[oj (by rw[Q9];omega),Jm (Qwk f),sbind,Jm (Qwk d),sbind,Qek g hk q1 q2,sbind,W5 (by simp[Q9,Qwd];omega) (by simp[Q9,Qwd];omega),sbind,w1 om,e,Qpg];simp only[bifd];rw[oi (by rw[Q9];omega),ug,m,ug];unfold big at g;omega;rfl
theorem Qfx{n k:Nat}{c:Rat}{a:List Rat}(f:big<=n)(hk:k<274877906944)(j:qw c<=k)(g:QR k a)(l:a.length<=1000000):Kc n (rF c) (rR a)=some (rR (scaleQ c a)):=by
 unfold Kc;rw[Yk (λi=>(rR (scaleQ c (a.take i)),(i:Int))) a.length (rR (scaleQ c a))];intro i hi;have d:a[i]?=some a[i]:=oo hi;have q1:=g a[i] (ve hi);generalize a[i]=x at d q1;simp only[bifd];have e:scaleQ c (a.take (i+1))=scaleQ c (a.take i)++[c*x]:=by rw[Qbc d];unfold scaleQ;simp
 rw[oj (by rw[Q9];omega),Jm (Qwk d),sbind,Qb3 f hk j q1,sbind,W5 (by simp[Q9,Qae];omega) (by simp[Q9,Qae];omega),sbind,w1 om,e,Qpg];simp only[bifd];rw[oi (by rw[Q9];omega),ug];unfold big at f;omega;rfl
def fresh(out:List Qk8)(i:Nat)(s:List UInt8):Prop:=∀ w,out.getLast?=some w->w.At+w.Text.length<=i/\∀ c r,s=c::r->w.At+w.Text.length=(i:Int)->goC w.Kind c.toNat=false
def FKs(k:Nat)(l:List Qa):Prop:=∀ f∈l,Fk k (tF f)
structure SchWr(k:Nat)(s:Qdk):Prop where
 a:∀ r∈s.A,FKs k r
 al:∀ r∈s.A,r.length<=1000000
 b:FKs k s.B
 bl:s.B.length<=1000000
 c:FKs k s.C
 cl:s.C.length<=1000000
 e:FKs k s.E
 el:s.E.length<=1000000
 nl:s.Name.length<=1000000
structure PrbWr(k:Nat)(p:Qc7):Prop where
 t:∀ x∈p.Tape.Code,Fk k (tF x.N)
 o:p.Tape.Outs.length<=1000000
 s:SchWr k p.Scheme
 pk:FKs k p.P
 pl:p.P.length<=1000000
theorem Qrq{n m:Nat}(a:big<=n)(d:m<=300):Wu n (m:Int)=some (rR (List.replicate m 0)):=by unfold Wu;rw[Yk (λi=>(rR (List.replicate i 0),(i:Int))) m (rR (List.replicate m 0))];intro i hi;simp only[jn_eq];rw[ot (show(i:Int)<(m:Int) by omega),bifT,ot (show(i:Int)<300 by omega),bifT,Qar a,sbind,W5 (by simp[Q9];omega) (by simp[Q9];omega),sbind,w1 om,List.replicate_succ',Qpg];simp only[jn_eq];rw[oq om,bifF,bifF];unfold big at a;omega;rfl
set_option maxRecDepth 100000
theorem PrbWr.mono{j k:Nat}{p:Qc7}(h:PrbWr j p)(hk:j<=k):PrbWr k p:=
 ⟨λx e=>Z1 (h.t x e) hk,h.o,⟨λr d f a=>Z1 (h.s.a r d f a) hk,h.s.al,λf a=>Z1 (h.s.b f a) hk,h.s.bl,λf a=>Z1 (h.s.c f a) hk,h.s.cl,λf a=>Z1 (h.s.e f a) hk,h.s.el,h.s.nl⟩,λf a=>Z1 (h.pk f a) hk,h.pl⟩
set_option maxRecDepth 100000
theorem Q0m{k:Nat}{l:List Rat}(h:QR k l):FRr k (rR l):=λf a=>by obtain⟨q,d,rfl⟩:=xj.1 a;have:=Qx2 (h q d);exact⟨Ql _,Ql _,this.1,this.2⟩
set_option maxRecDepth 100000
def RulW(k:Nat)(r:Qoi):Prop:=FR k [r.Tol,r.Safe,r.Low,r.High,r.Least]
theorem RulW.all{k:Nat}{r:Qoi}(h:RulW k r):Fk k r.Tol/\Fk k r.Safe/\Fk k r.Low/\Fk k r.High/\Fk k r.Least:=
 ⟨h _ oc,h _ oc,h _ oc,h _ oc,h _ oc⟩
set_option maxRecDepth 100000
def trimQ:List Rat->List Rat
 | []=>[]
 | x::l=>match trimQ l with
   | []=>if x=0 then [] else [x]
   | y::t=>x::y::t
theorem Qfy:∀ l:List Rat,trimQ l=l.take (trimQ l).length
 | []=>rfl
 | x::l=>by
   have d:=Qfy l;simp only[trimQ];cases h:trimQ l with
   | nil=>
     by_cases a:x=0;simp[a];simp[a]
   | cons y t=>
     rw[h] at d;simp only[xl,vf];rw[d];simp
theorem Ke(l:List Rat):(trimQ l).length<=l.length:=by have:=yz List.length (Qfy l);rw[xo] at this;omega
theorem Qbd:∀(l:List Rat) (i:Nat),(trimQ l).length<=i->l.getD i 0=0
 | [],i,_=>oc
 | x::l,i,h=>by
   simp only[trimQ] at h;cases a:trimQ l with
   | nil=>
     rw[a] at h;cases i with
     | zero=>
       by_cases d:x=0;exact d;simp[d] at h
     | succ i=>
       rw[um];exact Qbd l i (by rw[a];exact xg _)
   | cons y t=>
     rw[a] at h;cases i with
     | zero=>simp at h
     | succ i=>
       rw[um];exact Qbd l i (by rw[a];simp at h |-;omega)
theorem Qij:∀(l:List Rat) (i:Nat),(trimQ l).length=i+1->l.getD i 0≠0
 | [],i,h=>by simp[trimQ] at h
 | x::l,i,h=>by
   simp only[trimQ] at h;cases a:trimQ l with
   | nil=>
     rw[a] at h;by_cases d:x=0;simp[d] at h;simp[d] at h;subst h;exact d
   | cons y t=>
     rw[a] at h;cases i with
     | zero=>simp at h
     | succ i=>
       rw[um];exact Qij l i (by rw[a];simp at h |-;omega)
theorem V9{k:Nat}{l:List Rat}(h:QR k l):QR k (trimQ l):=λq a=>by rw[Qfy] at a;exact h q (ui a)
theorem Wa{n k:Nat}{x:List Qc}(g:big<=n)(d:1<=k)(hk:k<1000000000000)(a:FR k x)(s:x.length<=1000000):Kv n x=some (toR (trimQ (rv x))):=by
 have p:scaleQ (fv (toF 1)) (rv x)=rv x:=by
  rw[K5];unfold scaleQ
  conv=>rhs;rw[<-List.map_id (rv x)]
  exact wi λq _=>by show 1*q=q;grind
 have u:=QR_rv a d;unfold Kv;rw[Qcr g,sbind,Qej (k:=k) g d om (Vn (by rw[Xw];exact d)) a s,p,sbind];have f:(rv x).length<=1000000:=by rw[Yd];exact s
 generalize rv x=l at u f;have r:=Ke l;rw[Yk (λi=>(((l.length - i:Nat)):Int)) (l.length - (trimQ l).length) (((trimQ l).length:Nat):Int)]
 . have e:toR l=toR l:=rfl
   rw[Qqf (by rw[Q5];exact r),sbind];refine yz some ?_
   conv=>rhs;rw[Qfy]
   unfold toR;rw[gy]
 . intro i hi
   have a:(toR l)[l.length - i - 1]?=some (toF (l.getD (l.length - i - 1) 0)):=by unfold toR;rw[xi,oo om,ov,oo om];rfl
   have w:=Qbd l (l.length - i - 1) om;simp only[jn_eq];rw[ot om,bifT,w64 om om,show(((l.length - i:Nat):Int) - 1)=((l.length - i - 1:Nat):Int) by omega,Jm a,sbind,w,Qei (k:=1) g oz oz (Vn (by rw[Qaz];exact ol _)),sbind,K5,ot oz,bifT,show l.length - (i+1)=l.length - i - 1 by omega]
 . simp only[jn_eq]
   rw[show l.length - (l.length - (trimQ l).length)=(trimQ l).length by omega];cases v:(trimQ l).length with
   | zero=>rw[oq om,bifF,bifF]
   | succ m=>
     have j:=Qij l m v;have a:(toR l)[m]?=some (toF (l.getD m 0)):=by unfold toR;rw[xi,oo om,ov,oo om];rfl
     rw[ot om,bifT,w64 om om,show(((m+1:Nat):Int) - 1)=(m:Int) by omega,Jm a,sbind,Qei (k:=k) g d om (Vn (Jf u d)),sbind,K5,oq (by rw[gc,Rat.num_eq_zero];exact j),bifF]
 . unfold big at g;omega
 . show(((toR l).length:Nat):Int)=_
   rw[Q5];rfl
theorem We{n:Nat}{l:List Rat}(f:big<=n)(k:l.length<=1000000):Q8 n (rR l)=some (rR (trimQ l)):=by
 have d:=Ke l;unfold Q8;rw[Yk (λi=>(((l.length - i:Nat)):Int)) (l.length - (trimQ l).length) (((trimQ l).length:Nat):Int)]
 . rw[Qqf (by rw[Q9];exact d),sbind,W5 (by simp[Q9];omega) (by simp[Q9];omega),sbind,ya]
   refine yz some ?_
   conv=>rhs;rw[Qfy]
   unfold rR;rw[gy]
 . intro i hi
   have e:(rR l)[l.length - i - 1]?=some (rF (l.getD (l.length - i - 1) 0)):=by unfold rR;rw[xi,oo om,ov,oo om];rfl
   have j:=Qbd l (l.length - i - 1) om;simp only[jn_eq];rw[ot om,bifT,w64 om om,show(((l.length - i:Nat):Int) - 1)=((l.length - i - 1:Nat):Int) by omega,Jm e,sbind,j,Qhd,sbind,ot rfl,bifT,show l.length - (i+1)=l.length - i - 1 by omega]
 . simp only[jn_eq]
   rw[show l.length - (l.length - (trimQ l).length)=(trimQ l).length by omega];cases g:(trimQ l).length with
   | zero=>rw[oq om,bifF,bifF]
   | succ m=>
     have a:=Qij l m g;have e:(rR l)[m]?=some (rF (l.getD m 0)):=by unfold rR;rw[xi,oo om,ov,oo om];rfl
     rw[ot om,bifT,w64 om om,show(((m+1:Nat):Int) - 1)=(m:Int) by omega,Jm e,sbind,Qhd,sbind,oq a,bifF]
 . unfold big at f;omega
 . show(((rR l).length:Nat):Int)=_
   rw[Q9];rfl
set_option maxRecDepth 100000
def coefs(n:Nat)(f:Nat->Rat):List Rat:=(List.range n).map f
theorem Kn{n:Nat}{f:Nat->Rat}:(coefs n f).length=n:=by unfold coefs;simp
theorem Qik{n i:Nat}{f:Nat->Rat}(h:i<n):(coefs n f)[i]?=some (f i):=by unfold coefs;rw[xi,List.getElem?_range h];rfl
theorem Qcf{n i:Nat}{f:Nat->Rat}:(coefs n f).getD i 0=if i<n then f i else 0:=by rw[ov];by_cases h:i<n;rw[Qik h,oj h];rfl;rw[oi h,ou (by rw[Kn];omega)];rfl
theorem Qjh{n:Nat}{f:Nat->Rat}:coefs (n+1) f=coefs n f++[f n]:=by unfold coefs;rw[List.range_succ,yx];rfl
theorem Qfz{n k:Nat}{f:Nat->Rat}(h:∀ i,i<n->qw (f i)<=k):QR k (coefs n f):=λq a=>by obtain⟨i,hi,rfl⟩:=xj.1 a;exact h i (List.mem_range.1 hi)
theorem Q0n{n:Nat}{f g:Nat->Rat}:addQ (coefs n f) (coefs n g)=coefs n λi=>f i+g i:=by
 unfold addQ coefs;rw[List.zipWith_map]
 have:∀ l:List Nat,List.zipWith (λa b=>f a+g b) l l=l.map λi=>f i+g i:=λl=>by
  induction l with
  | nil=>rfl
  | cons x l d=>rw[List.zipWith_cons_cons,d];rfl
 exact this _
def addP(a b:List Rat):List Rat:=trimQ (coefs (max a.length b.length) λi=>a.getD i 0+b.getD i 0)
def scaP(c:Rat)(a:List Rat):List Rat:=trimQ (scaleQ c a)
def subP(a b:List Rat):List Rat:=addP a (scaP (-1) b)
theorem Qsz(a b:List Rat):(addP a b).length<=max a.length b.length:=by have:=Ke (coefs (max a.length b.length) λi=>a.getD i 0+b.getD i 0);rw[Kn] at this;exact this
theorem Qb4(c:Rat)(a:List Rat):(scaP c a).length<=a.length:=by have:=Ke (scaleQ c a);rw[Qae] at this;exact this
theorem Qx3(a b:List Rat):(subP a b).length<=max a.length b.length:=by have:=Qsz a (scaP (-1) b);have:=Qb4 (-1) b;unfold subP;omega
theorem Qph{k j:Nat}{a b:List Rat}(d:1<=k)(e:1<=j)(f:QR k a)(g:QR j b):QR (k+j+1) (addP a b):=V9 (Qfz λi _=>by have:=Qj4 (Jf (i:=i) f d) (Jf (i:=i) g e);omega)
theorem Qb5{k j:Nat}{c:Rat}{a:List Rat}(e:qw c<=j)(d:QR k a):QR (j+k) (scaP c a):=V9 (Qnm e d)
theorem Qh2{n m:Nat}{x:List Qc}(j:big<=n)(q:m<=1000000):Qbh n x (m:Int)=some ((List.range m).map λi=>(x[i]?).getD (toF 0)):=by
 unfold Qbh;rw[Qba om om,sbind];have key:∀(i:Nat),i<=m->(((List.range i).map λi=>(x[i]?).getD (toF 0))++List.replicate (m - i) (⟨⟨false,[]⟩,[]⟩:Qc)).length=m:=λi hi=>oh
 rw[Qgd (λi=>((List.range i).map λi=>(x[i]?).getD (toF 0))++List.replicate (m - i) (⟨⟨false,[]⟩,[]⟩:Qc)) (List.replicate m (⟨⟨false,[]⟩,[]⟩:Qc))];rw[yw,gf,List.replicate_zero,vo,Vy];intro i z p;have hi:=Qaj p;rw[yw] at hi;have g:((List.range i).map λi=>(x[i]?).getD (toF 0)).length=i:=oc
 have a:(((List.range i).map λi=>(x[i]?).getD (toF 0))++List.replicate (m - i) (⟨⟨false,[]⟩,[]⟩:Qc))[i]?=some ⟨⟨false,[]⟩,[]⟩:=by rw[xv om,g,gf,List.getElem?_replicate,oj om]
 have d:∀ v,List.set (((List.range i).map λi=>(x[i]?).getD (toF 0))++List.replicate (m - i) (⟨⟨false,[]⟩,[]⟩:Qc)) i v=((List.range i).map λi=>(x[i]?).getD (toF 0))++(v::List.replicate (m - (i+1)) ⟨⟨false,[]⟩,[]⟩):=λv=>by rw[List.set_append,oi om,g,gf,show m - i=(m - (i+1))+1 by omega,uh,List.set_cons_zero]
 have e:∀ v,(x[i]?).getD (toF 0)=v->((List.range i).map λi=>(x[i]?).getD (toF 0))++(v::List.replicate (m - (i+1)) ⟨⟨false,[]⟩,[]⟩)=((List.range (i+1)).map λi=>(x[i]?).getD (toF 0))++List.replicate (m - (i+1)) (⟨⟨false,[]⟩,[]⟩:Qc):=λv k=>by rw[List.range_succ,yx,List.map_singleton,k,xh];rfl
 by_cases l:i<x.length;have f:x[i]?=some x[i]:=oo l;rw[ot om,bifT,Jm f,sbind,Jm a,sbind,yp,d,e _ (by rw[f];rfl)];rw[oq om,bifF,Qhw j,sbind,Jm a,sbind,yp,d,e _ (by rw[ou om];rfl)];simp
theorem Q0o{x:List Qc}{m:Nat}:rv ((List.range m).map λi=>(x[i]?).getD (toF 0))=coefs m λi=>(rv x).getD i 0:=by
 unfold rv coefs;rw[uw];refine wi λi _=>?_;show fv ((x[i]?).getD (toF 0))=(x.map fv).getD i 0;rw[ov,xi];cases x[i]? with
 | none=>exact K5 0
 | some y=>rfl
theorem Q0p{k m:Nat}{x:List Qc}(a:1<=k)(e:FR k x):FR k ((List.range m).map λi=>(x[i]?).getD (toF 0)):=λf d=>by
 obtain⟨i,_,rfl⟩:=xj.1 d;cases h:x[i]? with
 | none=>exact Vn (by rw[Qaz];exact a)
 | some y=>exact e y (Zs h)
theorem Quy{n k:Nat}{x y:List Qc}(d:big<=n)(a:1<=k)(hk:k<100000000000)(f:FR k x)(g:FR k y)(j:x.length<=1000)(ly:y.length<=1000):Qd8 n x y=some (toR (addP (rv x) (rv y))):=by
 unfold Qd8;have e:max (x.length:Int) (y.length:Int)=((max x.length y.length:Nat):Int):=om
 rw[e,Qh2 d om,sbind,Qh2 d om,sbind,Qj5 (k:=k) d a om (Q0p a f) (Q0p a g) oh,oj oc,sbind,Q0o,Q0o,Q0n,Wa (k:=2*k+1) d om om (Vo (Qfz λi _=>by have:=Qj4 (Jf (i:=i) (QR_rv f a) a) (Jf (i:=i) (QR_rv g a) a);omega)) (by rw[Q5,Kn];omega),sbind,Jy];unfold addP;rw[Yd,Yd]
theorem Qdc{n k:Nat}{c:Qc}{x:List Qc}(e:big<=n)(a:1<=k)(hk:k<100000000000)(d:Fk k c)(f:FR k x)(g:x.length<=1000):X9 n c x=some (toR (scaP (fv c) (rv x))):=by unfold X9;rw[Qej (k:=k) e a om d f om,sbind,Wa (k:=k+k) e om om (Vo (Qnm (qw_fv d a) (QR_rv f a))) (by rw[Q5,Qae,Yd];omega),sbind,Jy];rfl
theorem Qn3{n:Nat}{a:List Rat}{i:Nat}(e:big<=n):Xq n (rR a) (i:Int)=some (rF (a.getD i 0)):=by
 unfold Xq;rw[Q9];by_cases h:i<a.length;have d:(rR a)[i]?=some (rF (a.getD i 0)):=by unfold rR;rw[xi,ov,oo h];rfl
 rw[ot om,bifT,Jm d,sbind];rw[oq om,bifF,Qar e,sbind,ov,ou om];rfl
theorem rR_sn{l:List Rat}{q:Rat}:rR l++[rF q]=rR (l++[q]):=by unfold rR;rw[yx];rfl
theorem Qmk{n k:Nat}{a b:List Rat}(d:big<=n)(f:1<=k)(hk:k<100000000000)(g:QR k a)(j:QR k b)(la:a.length<=1000)(lb:b.length<=1000):V6 n (rR a) (rR b)=some (rR (addP a b)):=by
 unfold V6;simp only[jn_eq];rw[Yk (λi=>(rR (coefs i λi=>a.getD i 0+b.getD i 0),(i:Int))) (max a.length b.length) (rR (coefs (max a.length b.length) λi=>a.getD i 0+b.getD i 0))];rw[We d (by rw[Kn];omega),sbind];rfl;intro i hi;have hcond:(bif decide ((i:Int)<((rR a).length:Int)) then true else decide ((i:Int)<((rR b).length:Int)))=true:=by rw[Q9,Q9];by_cases h:i<a.length;rw[ot om];rfl;rw[oq om,ot om];rfl
 have e:∀ {β:Type}(u v:β),(bif decide ((i:Int)<((rR a).length:Int)) then bif true then u else v else bif decide ((i:Int)<((rR b).length:Int)) then u else v)=u:=λu v=>by rw[Q9,Q9];by_cases h:i<a.length;rw[ot om];rfl;rw[oq om,ot om];rfl
 simp only[];rw[e,Qn3 d,sbind,Qn3 d,sbind,Qek (k:=k) d om (Jf g f) (Jf j f),sbind,W5 (by simp[Q9,Kn];omega) (by simp[Q9,Kn];omega),sbind,rR_sn,w1 om,Qjh]
 have e:∀ {β:Type}(u v:β),(bif decide (((max a.length b.length:Nat):Int)<((rR a).length:Int)) then bif true then u else v else bif decide (((max a.length b.length:Nat):Int)<((rR b).length:Int)) then u else v)=v:=λu v=>by rw[Q9,Q9,oq om,oq om];rfl
 simp only[];rw[e];unfold big at d;omega;rfl
theorem Qcg{n k:Nat}{c:Rat}{a:List Rat}(d:big<=n)(hk:k<100000000000)(f:qw c<=k)(e:QR k a)(la:a.length<=1000):Kx n (rF c) (rR a)=some (rR (scaP c a)):=by unfold Kx;rw[Qfx (k:=k) d om f e om,sbind,We d (by rw[Qae];omega),sbind];rfl
theorem Quz{n k:Nat}{x y:List Qc}(a:big<=n)(d:1<=k)(hk:k<50000000000)(g:FR k x)(e:FR k y)(i:x.length<=1000)(ly:y.length<=1000):Qgy n x y=some (toR (subP (rv x) (rv y))):=by
 have f:qw (-1:Rat)<=1:=by rw[Qmc,Xw];exact ol _
 unfold Qgy;rw[Qha a oz oz,sbind,show(((-1:Int)):Rat)=(-1:Rat) from rfl,Qdc (k:=k) a d om (Vn om) e ly,sbind,K5,Quy (k:=k+1) a om om (Qhx g om) (Vo (Qy (Qb5 f (QR_rv e d)) om)) i (by rw[Q5];have:=Qb4 (-1) (rv y);rw[Yd] at this;omega),sbind,Jy];rfl
theorem Qml{n k:Nat}{a b:List Rat}(d:big<=n)(i:1<=k)(hk:k<50000000000)(f:QR k a)(e:QR k b)(la:a.length<=1000)(lb:b.length<=1000):V7 n (rR a) (rR b)=some (rR (subP a b)):=by
 have g:qw (-1:Rat)<=1:=by rw[Qmc,Xw];exact ol _
 unfold V7;rw[Qda d oz oz,sbind,show(((-1:Int)):Rat)=(-1:Rat) from rfl,Qcg (k:=k) d om om e lb,sbind,Qmk (k:=k+1) d om om (Qy f om) (Qy (Qb5 g e) om) la (by have:=Qb4 (-1) b;omega),sbind];rfl
set_option maxRecDepth 100000
def addAt(l:List Rat)(a:Int)(c:Rat):List Rat:=l.set a.toNat (l.getD a.toNat 0+c)
theorem Q0q{l:List Rat}{a:Int}{c:Rat}:(addAt l a c).length=l.length:=gk
theorem Qx4{l:List Qc}{i:Nat}{x:Qc}(h:l[i]?=some x):(rv l).getD i 0=fv x:=by rw[ov];unfold rv;rw[xi,h];rfl
structure BkS where
 co:List Rat
 T:Rat
 Y:List Rat
 P:List Rat
def Qmm(x:Q7)(c r:Rat)(vs:List Rat)(s:BkS):BkS:=
 if c=0 then s else
 if x.Op=2 then ⟨s.co,s.T+c,s.Y,s.P⟩ else
 if x.Op=3 then ⟨s.co,s.T,addAt s.Y x.A c,s.P⟩ else
 if x.Op=4 then ⟨s.co,s.T,s.Y,addAt s.P x.A c⟩ else
 if x.Op=6 then ⟨addAt s.co x.A (-c),s.T,s.Y,s.P⟩ else
 if x.Op=7 then ⟨addAt (addAt s.co x.A c) x.B c,s.T,s.Y,s.P⟩ else
 if x.Op=8 then ⟨addAt (addAt s.co x.A c) x.B (-c),s.T,s.Y,s.P⟩ else
 if x.Op=9 then ⟨addAt (addAt s.co x.A (c*vs.getD x.B.toNat 0)) x.B (c*vs.getD x.A.toNat 0),s.T,s.Y,s.P⟩ else
 if x.Op=10 then ⟨addAt (addAt s.co x.A (c / vs.getD x.B.toNat 0)) x.B (-(c / vs.getD x.B.toNat 0*r)),s.T,s.Y,s.P⟩ else
 if x.Op=11 then ⟨addAt s.co x.A (c*((x.B:Rat)*turnQ (vs.getD x.A.toNat 0) r x.B)),s.T,s.Y,s.P⟩ else s
theorem Qrr{x:Q7}{c r:Rat}{vs:List Rat}{s:BkS}:(Qmm x c r vs s).co.length=s.co.length/\(Qmm x c r vs s).Y.length=s.Y.length/\(Qmm x c r vs s).P.length=s.P.length:=by
 unfold Qmm
 repeat' split
 all_goals simp[Q0q]
structure BkW(b:Nat)(co:List Qc)(s:BkS):Prop where
 c:rv co=s.co
 k:FR b co
 t:qw s.T<=b
 y:QR b s.Y
 p:QR b s.P
theorem BkW.mono{b d:Nat}{co:List Qc}{s:BkS}(h:BkW b co s)(a:b<=d):BkW d co s:=⟨h.c,Qhx h.k a,xn h.t a,Qy h.y a,Qy h.p a⟩
set_option maxRecDepth 100000
structure SameL(a b:BkS):Prop where
 c:b.co.length=a.co.length
 y:b.Y.length=a.Y.length
 p:b.P.length=a.P.length
theorem SameL.bk{x:Q7}{c1 d r:Rat}{vs:List Rat}{s1 a:BkS}(h:SameL s1 a):SameL (Qmm x c1 r vs s1) (Qmm x d r vs a):=by obtain⟨a1,a2,a3⟩:=Qrr (x:=x) (c:=c1) (r:=r) (vs:=vs) (s:=s1);obtain⟨e,f,g⟩:=Qrr (x:=x) (c:=d) (r:=r) (vs:=vs) (s:=a);exact⟨by rw[a1,e,h.c],by rw[a2,f,h.y],by rw[a3,g,h.p]⟩
set_option maxRecDepth 100000
def sumN(f:Nat->Rat):Nat->Rat
 | 0=>0
 | i+1=>sumN f i+f i
theorem Qku{f:Nat->Rat}:∀ {i:Nat},sumN f (i+1)=f 0+sumN (λj=>f (j+1)) i
 | 0=>by simp only[sumN];grind
 | i+1=>by rw[sumN,Qku (i:=i),sumN];grind
theorem Qnn{f g:Nat->Rat}:∀ {i:Nat},(∀ j,j<i->f j=g j)->sumN f i=sumN g i
 | 0,_=>rfl
 | i+1,h=>by rw[sumN,sumN,Qnn λj a=>h j om,h i om]
theorem Qrs{f:Nat->Rat}{c:Rat}:∀ {i:Nat},sumN (λj=>c*f j) i=c*sumN f i
 | 0=>by simp only[sumN];grind
 | i+1=>by rw[sumN,sumN,Qrs];grind
section
variable {t:Js}{lim:Int}{T':Rat}{Y' P' vs ds:List Rat}
end
set_option maxRecDepth 100000
def cvT(a b:List Rat)(k i:Nat):Rat:=sumN (λj=>if j<=k then a.getD j 0*b.getD (k - j) 0 else 0) i
def mulP(a b:List Rat):List Rat:=trimQ (coefs (a.length+b.length) λk=>cvT a b k a.length)
theorem Q3a(a b:List Rat):(mulP a b).length<=a.length+b.length:=by have:=Ke (coefs (a.length+b.length) λk=>cvT a b k a.length);rw[Kn] at this;exact this
theorem Qrt{a b:List Rat}{k j m:Nat}(d:1<=k)(f:1<=j)(g:QR k a)(l:QR j b):∀ i,qw (cvT a b m i)<=1+i*(k+j+1)
 | 0=>by show qw 0<=_;rw[Qaz];omega
 | i+1=>by
   have n:=Qrt (m:=m) d f g l i;have e:qw (if i<=m then a.getD i 0*b.getD (m - i) 0 else 0)<=k+j:=by by_cases h:i<=m;rw[oj h];exact Qb2 (Jf g d) (Jf l f);rw[oi h,Qaz];omega
   have:=Qj4 n e;unfold cvT at this |-;rw[sumN,ww];omega
theorem Qjm{a b:List Rat}{k j:Nat}(d:1<=k)(e:1<=j)(f:QR k a)(g:QR j b):QR (1+a.length*(k+j+1)) (mulP a b):=V9 (Qfz λ_ _=>Qrt d e f g _)
theorem Qt2{N m:Nat}{f:Nat->Rat}{v:Rat}:(toR (coefs N f)).set m (toF v)=toR (coefs N λk=>if k=m then v else f k):=by refine List.ext_getElem? λi=>?_;rw[List.getElem?_set];unfold toR;rw[xi,xi,xy,Kn];by_cases h:i<N;rw[Qik h,Qik h];by_cases e:m=i;subst e;rw[oj rfl,oj h];simp;rw[oi e];simp[show ¬ i=m from λg=>e g.symm];rw[ou (by rw[Kn];omega),ou (by rw[Kn];omega)];by_cases e:m=i;subst e;rw[oj rfl,oi h];rfl;rw[oi e]
theorem Qs0{N i:Nat}{f:Nat->Rat}(h:i<N):(toR (coefs N f))[i]?=some (toF (f i)):=by unfold toR;rw[xi,Qik h];rfl
theorem Qbn{N:Nat}{f g:Nat->Rat}(h:∀ i,i<N->f i=g i):coefs N f=coefs N g:=wi λi hi=>h i (List.mem_range.1 hi)
theorem Qi1{n k:Nat}{x y:List Qc}(s:big<=n)(a:1<=k)(hk:k<4000000000)(F:FR k x)(G:FR k y)(M:x.length<=20)(ly:y.length<=20):W9 n x y=some (toR (mulP (rv x) (rv y))):=by
 have J:=QR_rv F a;have K:=QR_rv G a;have la:(rv x).length=x.length:=Yd x;have lb:(rv y).length=y.length:=Yd y
 have bnd:∀ m i,i<=x.length->qw (cvT (rv x) (rv y) m i)<=1+20*(k+k+1):=λm i hi=>by have:=Qrt (m:=m) a a J K i;have e:i*(k+k+1)<=20*(k+k+1):=ow _ om;omega
 unfold W9;rw[w64 om om,show((x.length:Int)+(y.length:Int))=((x.length+y.length:Nat):Int) by omega,Qh2 s om,sbind];have H:((List.range (x.length+y.length)).map λi=>(([]:List Qc)[i]?).getD (toF 0))=toR (coefs (x.length+y.length) λm=>cvT (rv x) (rv y) m 0):=by unfold toR coefs;rw[uw];exact wi λi _=>rfl
 rw[H,Qgd (λi=>toR (coefs (x.length+y.length) λm=>cvT (rv x) (rv y) m i)) x];rw[Vy,Wa (k:=1+20*(k+k+1)) s om om (Vo (Qfz λm _=>bnd m _ (ol _))) (by rw[Q5,Kn];omega),sbind,Jy];unfold mulP;rw[la,lb];intro i f A;have hi:=Qaj A;have v:=F f (Zs A);have C:fv f=(rv x).getD i 0:=by rw[Qx4 A]
 rw[Qei (k:=k) s a om v,sbind];by_cases B:fv f=0;rw[ot (by rw[B];rfl),bifT];refine yz (λz=>some (Lp.go (toR z))) (Qbn λm _=>?_);unfold cvT;rw[sumN,<-C,B,Rat.zero_mul];simp[vt];rw[oq (by rw[gc,Rat.num_eq_zero];exact B),bifF,Qgd (λj=>toR (coefs (x.length+y.length) λm=>cvT (rv x) (rv y) m i+if i<=m/\m - i<j then (rv x).getD i 0*(rv y).getD (m - i) 0 else 0)) y];rw[Vy];refine yz (λz=>some (Lp.go (toR z))) (Qbn λm _=>?_);unfold cvT;rw[sumN];congr 1;by_cases h:i<=m;rw[oj h];by_cases g:m - i<y.length;rw[oj ⟨h,g⟩];rw[oi (λq=>g q.2),ov (l:=rv y),ou (by rw[lb];omega)];simp[gh];rw[oi h,oi (λq=>h q.1)];intro j E d;have L:=Qaj d;have p:=G E (Zs d);have u:fv E=(rv y).getD j 0:=by rw[Qx4 d]
 have w:=bnd (i+j) i om;have I:=Qb2 (qw_fv v a) (qw_fv p a);have r:(toR (coefs (x.length+y.length) λm=>cvT (rv x) (rv y) m i+if i<=m/\m - i<j then (rv x).getD i 0*(rv y).getD (m - i) 0 else 0))[i+j]?=some (toF (cvT (rv x) (rv y) (i+j) i)):=by rw[Qs0 om,oi om,vt]
 rw[w64 om om,show((i:Int)+(j:Int))=((i+j:Nat):Int) by omega,Jm r,sbind,Qcn s a om v p,sbind,Qiz (k:=1+20*(k+k+1)) s om om (Vn w) (Vn om),sbind,sbind,yp,K5,K5,Qt2];refine yz (λz=>some (Lp.go (toR z))) (Qbn λm _=>?_);by_cases e:m=i+j;subst e;rw[oj rfl,oj om,show i+j - i=j by omega,C,u];rw[oi e];by_cases g:i<=m/\m - i<j;rw[oj g,oj om];rw[oi g,oi om];refine yz toR (Qbn λm _=>?_);rw[oi om,vt];rfl
theorem Qx5{a b:List Rat}{m:Nat}:∀ d,cvT a b m (m+1+d)=cvT a b m (m+1)
 | 0=>rfl
 | d+1=>by have e:=Qx5 (a:=a) (b:=b) (m:=m) d;unfold cvT at e |-;rw[show m+1+(d+1)=(m+1+d)+1 by omega,sumN,e,oi om,vt]
theorem Q3b{a b:List Rat}{m:Nat}:cvT a b m (min (m+1) a.length)=cvT a b m a.length:=by by_cases h:m+1<=a.length;rw[xf h];have:=Qx5 (a:=a) (b:=b) (m:=m) (a.length - (m+1));rw[show m+1+(a.length - (m+1))=a.length by omega] at this;exact this.symm;rw[Nat.min_eq_right om]
theorem Qem{n k:Nat}{a b:List Rat}(f:big<=n)(d:1<=k)(hk:k<4000000000)(g:QR k a)(j:QR k b)(la:a.length<=20)(lb:b.length<=20):Ku n (rR a) (rR b)=some (rR (mulP a b)):=by
 have bnd:∀ m i,i<=a.length->qw (cvT a b m i)<=1+20*(k+k+1):=λm i hi=>by have:=Qrt (m:=m) d d g j i;have e:i*(k+k+1)<=20*(k+k+1):=ow _ om;omega
 have get:∀(l:List Rat) (i:Nat),i<l.length->(rR l)[i]?=some (rF (l.getD i 0)):=λl i h=>by unfold rR;rw[xi,ov,oo h];rfl
 unfold Ku;rw[Q9,Q9,w64 om om];simp only[jn_eq];rw[Yk (λm=>(rR (coefs m λm=>cvT a b m a.length),(m:Int))) (a.length+b.length) (rR (coefs (a.length+b.length) λm=>cvT a b m a.length))];rw[We f (by rw[Kn];omega),sbind];rfl;intro m r;simp only[];rw[ot om,bifT,Qar f,sbind,Yk (λi=>(rF (cvT a b m i),(i:Int))) (min (m+1) a.length) (rF (cvT a b m a.length))];rw[W5 (by simp[Q9,Kn];omega) (by simp[Q9,Kn];omega),sbind,rR_sn,w1 om,Qjh];intro i hi;simp only[];rw[ot om,bifT,ot om,bifT,w64 om om];have q:cvT a b m (i+1)=cvT a b m i+a.getD i 0*b.getD (m - i) 0:=by
  unfold cvT;rw[sumN,oj om]
 by_cases p:m - i<b.length;rw[ot om,bifT,Jm (get a i om),sbind,show((m:Int) - (i:Int))=((m - i:Nat):Int) by omega,Jm (get b (m - i) p),sbind,Qb3 (k:=k) f om (Jf g d) (Jf j d),sbind,Qek (k:=1+20*(k+k+1)) f om (bnd m i om) (by have:=Qb2 (Jf (i:=i) g d) (Jf (i:=m - i) j d);omega),sbind,<-q,w1 om];rw[oq om,bifF,w1 om,q,ov (l:=b),ou om,Option.getD_none,gh,vt];simp only[];by_cases h:m+1<=a.length;rw[xf h,oq om,bifF,bifF];have:=Q3b (a:=a) (b:=b) (m:=m);rw[xf h] at this;rw[this];rw[Nat.min_eq_right om,ot om,bifT,oq om,bifF];unfold big at f;omega;rfl;simp only[];rw[oq om,bifF];unfold big at f;omega;rfl
set_option maxRecDepth 100000
theorem Zc(l:List Rat)(i:Nat):(trimQ l).getD i 0=l.getD i 0:=by by_cases h:i<(trimQ l).length;have e:=Qfy l;have a:i<l.length:=xc h (Ke l);rw[ov,ov,e,yg,oj h];rw[Qbd l i om,ov,ou om];rfl
theorem Qge{l:List Rat}{m:Nat}(h:∀ i,m<=i->l.getD i 0=0):(trimQ l).length<=m:=by
 refine Nat.le_of_not_lt λg=>?_;obtain⟨j,a⟩:∃ j,(trimQ l).length=j+1:=⟨(trimQ l).length - 1,om⟩
 exact Qij l j a (h j om)
theorem Yw{l:List Rat}{i:Nat}(h:l.length<=i):l.getD i 0=0:=by rw[ov,ou h];rfl
theorem Qkv(a b:List Rat)(i:Nat):(addP a b).getD i 0=a.getD i 0+b.getD i 0:=by unfold addP;rw[Zc,Qcf];by_cases h:i<max a.length b.length;rw[oj h];rw[oi h,Yw om,Yw om,vt]
theorem Q0r(c:Rat)(a:List Rat)(i:Nat):(scaleQ c a).getD i 0=c*a.getD i 0:=by
 unfold scaleQ;rw[ov,ov,xi];cases a[i]? with
 | none=>exact(gh c).symm
 | some x=>rfl
theorem Qb9(c:Rat)(a:List Rat)(i:Nat):(scaP c a).getD i 0=c*a.getD i 0:=by unfold scaP;rw[Zc,Q0r]
theorem Qkw(a b:List Rat)(i:Nat):(subP a b).getD i 0=a.getD i 0 - b.getD i 0:=by unfold subP;rw[Qkv,Qb9];grind
theorem Qgf{f:Nat->Rat}:∀ {i:Nat},(∀ j,j<i->f j=0)->sumN f i=0
 | 0,_=>rfl
 | i+1,h=>by rw[sumN,Qgf (λj a=>h j om),h i om,vt]
theorem Qo0(a b:List Rat)(m:Nat):(mulP a b).getD m 0=cvT a b m a.length:=by unfold mulP;rw[Zc,Qcf];by_cases h:m<a.length+b.length;rw[oj h];rw[oi h];unfold cvT;rw[Qgf];intro j d;rw[oj om,Yw (l:=b) om,gh]
def monP(d:Nat)(c:Rat):List Rat:=List.replicate d 0++[c]
theorem Qh3(d:Nat)(c:Rat):(monP d c).length=d+1:=by unfold monP;simp
theorem Qil(d:Nat)(c:Rat)(i:Nat):(monP d c).getD i 0=if i=d then c else 0:=by unfold monP;rw[ov];by_cases h:i<d;rw[yy (by simp;exact h),List.getElem?_replicate,oj h,oi om];rfl;by_cases e:i=d;subst e;rw[oj rfl];simp;rw[oi e,ou oh];rfl
theorem Qqk(d:Nat)(c:Rat)(b:List Rat)(m:Nat):(mulP (monP d c) b).getD m 0=if d<=m then c*b.getD (m - d) 0 else 0:=by rw[Qo0,Qh3];unfold cvT;rw[sumN,Qgf,Rat.zero_add,Qil,oj rfl];intro j a;show(if j<=m then (monP d c).getD j 0*b.getD (m - j) 0 else 0)=0;rw[Qil,oi (show ¬ j=d by omega),Rat.zero_mul];split<;>rfl
theorem Qhe{l:List Rat}{k:Nat}(h:∀ i,qw (l.getD i 0)<=k):QR k l:=λq a=>by obtain⟨i,hi⟩:=List.mem_iff_getElem?.1 a;have:=h i;rw[ov,hi] at this;exact this
theorem Qx6{k d:Nat}{c:Rat}(a:1<=k)(e:qw c<=k):QR k (monP d c):=Qhe λi=>by rw[Qil];split;exact e;rw[Qaz];exact a
theorem Qo1{k j d:Nat}{c:Rat}{b:List Rat}(a:1<=j)(f:qw c<=k)(e:QR j b):QR (k+j) (mulP (monP d c) b):=Qhe λi=>by rw[Qqk];split;exact Qb2 f (Jf e a);rw[Qaz];omega
def lastQ(a:List Rat):Rat:=a.getD (a.length - 1) 0
def stD(b:List Rat)(z:List Rat×List Rat):List Rat×List Rat:=(addP z.1 (monP (z.2.length - b.length) (lastQ z.2 / lastQ b)),subP z.2 (mulP (monP (z.2.length - b.length) (lastQ z.2 / lastQ b)) b))
def divP(b:List Rat):Nat->List Rat×List Rat->List Rat×List Rat
 | 0,z=>z
 | m+1,z=>if b.length<=z.2.length then divP b m (stD b z) else z
theorem Qo2{b:List Rat}{z:List Rat×List Rat}(a:lastQ b≠0)(d:1<=b.length)(h:b.length<=z.2.length):(stD b z).2.length<z.2.length:=by
 have key:(subP z.2 (mulP (monP (z.2.length - b.length) (lastQ z.2 / lastQ b)) b)).length<=z.2.length - 1:=by have e:subP z.2 (mulP (monP (z.2.length - b.length) (lastQ z.2 / lastQ b)) b)=trimQ (subP z.2 (mulP (monP (z.2.length - b.length) (lastQ z.2 / lastQ b)) b))\/True:=.inr trivial;unfold subP addP;refine Qge λi hi=>?_;rw[Qcf];split;rw[Qb9,Qqk,oj om];by_cases g:i=z.2.length - 1;subst g;rw[show z.2.length - 1 - (z.2.length - b.length)=b.length - 1 by omega];show lastQ z.2+-1*(lastQ z.2 / lastQ b*lastQ b)=0;rw[uo a];grind;rw[Yw om,Yw om];grind;rfl
 show(subP z.2 _).length<_;omega
set_option maxRecDepth 100000
theorem Xx:∀ m:Nat,1<=2 ^ m
 | 0=>ol _
 | m+1=>by have:=Xx m;rw[vh];omega
theorem Qjn{l:List Rat}{i:Nat}(h:i<l.length):(rR l)[i]?=some (rF (l.getD i 0)):=by unfold rR;rw[xi,ov,oo h];rfl
def drBody(n:Nat)(x1:List Qa):List Qa×List Qa->Option (Lp (List Qa×List Qa) (List Qa×List Qa)):=λ(a:(List Qa)×(List Qa))=>
    bif decide ((x1.length:Int)<=(a.2.length:Int)) then (
     (getI a.2 (wrap64 ((a.2.length:Int) - (1:Int)))).bind λk=>
     (getI x1 (wrap64 ((x1.length:Int) - (1:Int)))).bind λl=>
     (Kr n k l).bind λe=>
     (Wu n (wrap64 ((a.2.length:Int) - (x1.length:Int)))).bind λf=>
     (appM 56 f ([e]:List Qa)).bind λd=>
     (V6 n a.1 d).bind λg=>
     (Ku n d x1).bind λi=>
     (V7 n a.2 i).bind λj=>
     some (Lp.go (g,j)))
    else (
     some (Lp.out (a.1,a.2)))
structure DvI(b:List Rat)(k B m:Nat)(z:List Rat×List Rat):Prop where
 l:z.2.length<b.length+m
 l2:z.2.length<=10
 q2:z.1.length<=10
 r:∃ w,1<=w/\QR w z.2/\2 ^ m*(w+2*k+2)<=B
 q:∃ v,1<=v/\QR v z.1/\v+m*(B+1)<=B*20
theorem DvI.step{b:List Rat}{k B m:Nat}{z:List Rat×List Rat}(s:lastQ b≠0)(u:1<=b.length)(hk:1<=k)(a:QR k b)(h:DvI b k B (m+1) z)(g:b.length<=z.2.length):DvI b k B m (stD b z):=by
 have A:=Qo2 s u g;obtain⟨w,d,e,n⟩:=h.r;obtain⟨v,f,i,l⟩:=h.q;have x:=h.l;have y:=h.l2;have C:=h.q2;have p:qw (lastQ z.2 / lastQ b)<=w+k:=Qcq (Jf e d) (Jf a hk);have r:1<=2 ^ m:=Xx m;have q:2 ^ (m+1)*(w+2*k+2)=2 ^ m*(2*(w+2*k+2)):=by rw[vh,xt]
 have E:2*(w+2*k+2)<=B:=by have:=ow (2*(w+2*k+2)) r;omega
 refine⟨om,om,?_,⟨2*w+2*k+2,om,?_,?_⟩,⟨v+(w+k)+1,om,?_,?_⟩⟩;have:=Qsz z.1 (monP (z.2.length - b.length) (lastQ z.2 / lastQ b));rw[Qh3] at this;show(addP z.1 _).length<=10;omega;refine Qy (Qph d (j:=1+(w+k+k)) om e (Qb5 (j:=1) (by rw[Qmc,Xw];exact ol _) (Qo1 hk p a))) om;refine xn (ym _ ?_) (q ▸ n);omega;exact Qph f om i (Qx6 om p);rw[ww] at l;omega
theorem Qs1{n k B:Nat}{b:List Rat}(r:big<=n)(O:B<4000000000)(G:lastQ b≠0)(H:1<=b.length)(lb:b.length<=10)(hk:1<=k)(d:QR k b):∀(m a:Nat) (z:List Rat×List Rat),DvI b k B m z->m<a ->
 loopM (drBody n (rR b)) a (rR z.1,rR z.2)=some (rR (divP b m z).1,rR (divP b m z).2)/\(divP b m z).2.length<b.length/\(divP b m z).2.length<=10/\(divP b m z).1.length<=10/\QR B (divP b m z).2/\QR (B*20) (divP b m z).1:=by
 have fin:∀(m:Nat) (z:List Rat×List Rat),DvI b k B m z->z.2.length<b.length->z.2.length<b.length/\z.2.length<=10/\z.1.length<=10/\QR B z.2/\QR (B*20) z.1:=λm z h g=>by obtain⟨w,l,e,E⟩:=h.r;obtain⟨v,C,i,j⟩:=h.q;have u:1<=2 ^ m:=Xx m;have:=ow (w+2*k+2) u;exact⟨g,h.l2,h.q2,Qy e om,Qy i (xn (Nat.le_add_right _ _) j)⟩
 have out:∀(a:Nat) (z:List Rat×List Rat),z.2.length<b.length->0<a->loopM (drBody n (rR b)) a (rR z.1,rR z.2)=some (rR z.1,rR z.2):=λa z g h=>by refine Qbk ?_ h;unfold drBody;simp only[];rw[Q9,Q9,oq om,bifF]
 intro m
 induction m with
 | zero=>
   intro a z h s;have g:z.2.length<b.length:=by have:=h.l;omega
   exact⟨out a z g s,fin 0 z h g⟩
 | succ m L=>
   intro a z h s;simp only[divP];by_cases g:b.length<=z.2.length;rw[oj g];obtain⟨n'',rfl⟩:∃ q,a=q+1:=⟨a - 1,om⟩
   have y:=h.step G H hk d g;obtain⟨w,l,e,E⟩:=h.r;obtain⟨v,C,i,j⟩:=h.q;have I:=h.l2;have J:=h.q2;have u:1<=2 ^ (m+1):=Xx (m+1);have K:=ow (w+2*k+2) u;have A:v<=B*20:=xn (Nat.le_add_right _ _) j;have F:qw (lastQ z.2 / lastQ b)<=w+k:=Qcq (Jf e l) (Jf d hk);have M:qw (lastQ z.2)<=w:=Jf e l;have N:qw (lastQ b)<=k:=Jf d hk;have f:QR (w+k) (monP (z.2.length - b.length) (lastQ z.2 / lastQ b)):=Qx6 om F;have p:QR (w+k+k) (mulP (monP (z.2.length - b.length) (lastQ z.2 / lastQ b)) b):=Qo1 hk F d;have lmul:=Q3a (monP (z.2.length - b.length) (lastQ z.2 / lastQ b)) b;rw[Qh3] at lmul;have x:drBody n (rR b) (rR z.1,rR z.2)=some (.go (rR (stD b z).1,rR (stD b z).2)):=by
    unfold drBody;simp only[];rw[Q9,Q9,ot om,bifT,w64 om om,show((z.2.length:Int) - 1)=((z.2.length - 1:Nat):Int) by omega,Jm (Qjn om),sbind,w64 om om,show((b.length:Int) - 1)=((b.length - 1:Nat):Int) by omega,Jm (Qjn om),sbind,show z.2.getD (z.2.length - 1) 0=lastQ z.2 from rfl,show b.getD (b.length - 1) 0=lastQ b from rfl,Qel (k:=w+k) r om om om,sbind,w64 om om,show((z.2.length:Int) - (b.length:Int))=((z.2.length - b.length:Nat):Int) by omega,Qrq r om,sbind,W5 (by simp[Q9];omega) (by simp[Q9];omega),sbind,rR_sn,show List.replicate (z.2.length - b.length) 0++[lastQ z.2 / lastQ b]=monP (z.2.length - b.length) (lastQ z.2 / lastQ b) from rfl,Qmk (k:=B*20) r om om (Qy i A) (Qy f om) om (by rw[Qh3];omega),sbind,Qem (k:=w+k) r om om f (Qy d om) (by rw[Qh3];omega) om,sbind,Qml (k:=w+k+k) r om om (Qy e om) p om om,sbind];rfl
   rw[Qgb x];exact L n'' (stD b z) y om;rw[oi g];exact⟨out a z om om,fin (m+1) z h om⟩
theorem Qh4{n k w B:Nat}{a b:List Rat}(d:big<=n)(m:B<4000000000)(s:lastQ b≠0)(u:1<=b.length)(lb:b.length<=10)(la:a.length<=10)(hk:1<=k)(v:1<=w)(g:QR k b)(i:QR w a)(f:2 ^ (a.length+1 - b.length)*(w+2*k+2)<=B):
 Vf n (rR a) (rR b)=some (rR (trimQ (divP b (a.length+1 - b.length) ([],trimQ a)).1),rR (divP b (a.length+1 - b.length) ([],trimQ a)).2)/\(divP b (a.length+1 - b.length) ([],trimQ a)).2.length<b.length/\(divP b (a.length+1 - b.length) ([],trimQ a)).2.length<=10/\(divP b (a.length+1 - b.length) ([],trimQ a)).1.length<=10/\QR B (divP b (a.length+1 - b.length) ([],trimQ a)).2/\QR (B*20) (divP b (a.length+1 - b.length) ([],trimQ a)).1:=by
 have y:=Ke a;have r:1<=2 ^ (a.length+1 - b.length):=Xx _;have x:=ow (w+2*k+2) r
 have p:DvI b k B (a.length+1 - b.length) (([]:List Rat),trimQ a):=⟨by show(trimQ a).length<_;omega,by show(trimQ a).length<=10;omega,xg _,⟨w,v,V9 i,f⟩,⟨1,ol _,(λq h=>by cases h),by
  have:=ow (B+1) (show a.length+1 - b.length<=11 by omega)
  omega⟩⟩
 obtain⟨j,l⟩:=Qs1 (n:=n) (B:=B) d m s u lb hk g (a.length+1 - b.length) n (([]:List Rat),trimQ a) p (by unfold big at d;omega);refine⟨?_,l⟩;unfold Vf;rw[We d om,sbind];have e:loopM (drBody n (rR b)) n (([]:List Qa),rR (trimQ a))=_:=j;unfold drBody at e;rw[e,sbind];simp only[];rw[We d om,sbind]
set_option maxRecDepth 100000
theorem Qx7{l:List Rat}(h:l=[]\/lastQ l≠0):trimQ l=l:=by have a:=Ke l;have e:=Qfy l;rcases h with rfl | h;rfl;refine(e.trans ?_);rw[xr];refine Nat.le_of_not_lt λg=>h ?_;exact Qbd l (l.length - 1) om
theorem Qru(l:List Rat):trimQ l=[]\/lastQ (trimQ l)≠0:=by
 cases h:trimQ l with
 | nil=>exact .inl rfl
 | cons x t=>
   refine .inr ?_;rw[<-h];show(trimQ l).getD ((trimQ l).length - 1) 0≠0;rw[Zc];exact Qij l _ (by rw[h];simp)
theorem K1(l:List Rat):trimQ (trimQ l)=trimQ l:=Qx7 (Qru l)
theorem Qo3(a b:List Rat):trimQ (subP a b)=subP a b:=K1 _
theorem Q0s(a b:List Rat):trimQ (addP a b)=addP a b:=K1 _
theorem Qt3{b:List Rat}:∀(m:Nat) (z:List Rat×List Rat),trimQ z.2=z.2->trimQ (divP b m z).2=(divP b m z).2
 | 0,z,h=>h
 | m+1,z,h=>by simp only[divP];split;exact Qt3 m _ (Qo3 _ _);exact h
def remP(a b:List Rat):List Rat:=(divP b (a.length+1 - b.length) ([],trimQ a)).2
theorem Qo4(a b:List Rat):trimQ (remP a b)=remP a b:=Qt3 _ _ (K1 a)
theorem Vb{l:List Rat}(h:trimQ l=l)(a:l≠[]):lastQ l≠0:=by rcases Qru l with g | g;rw[h] at g;exact absurd g a;rwa [h] at g
def grBody(n:Nat):List Qa×List Qa->Option (Lp (List Qa×List Qa) (List Qa)):=λ(a:(List Qa)×(List Qa))=>
    bif decide ((0:Int)<(a.2.length:Int)) then (
     (Vf n a.1 a.2).bind λd=>
     some (Lp.go (a.2,d.2)))
    else (
     some (Lp.out a.1))
set_option maxRecDepth 100000
theorem Qh5{l l':List Rat}(h:∀ i,l.getD i 0=l'.getD i 0):trimQ l=trimQ l':=by
 have key:∀ {l l':List Rat},(∀ i,l.getD i 0=l'.getD i 0)->(trimQ l).length<=(trimQ l').length:=fun {l l'} h=>
  Qge λi hi=>by rw[h i];exact Qbd l' i hi
 have a:=Nat.le_antisymm (key h) (key λi=>(h i).symm);refine List.ext_getElem? λi=>?_;by_cases g:i<(trimQ l).length;have e:(trimQ l).getD i 0=(trimQ l').getD i 0:=by rw[Zc,Zc,h i]
 rw[ov,ov,oo g,oo om] at e;rw[oo g,oo om];exact yz some e;rw[ou om,ou om]
theorem Qt4{b:List Rat}(a:lastQ b≠0)(d:1<=b.length):∀(m:Nat) (z:List Rat×List Rat),z.2.length<b.length+m->divP b (m+1) z=divP b m z
 | 0,z,h=>by simp only[divP];rw[oi om]
 | m+1,z,h=>by
   rw[divP]
   conv=>rhs;rw[divP]
   by_cases g:b.length<=z.2.length
   . rw[oj g,oj g]
     exact Qt4 a d m (stD b z) (by have:=Qo2 a d g;omega)
   . rw[oi g,oi g]
theorem Qzb{b Q R:List Rat}{i:Nat}(p:lastQ b≠0)(q:1<=b.length)(k:∀ m,i+b.length<=m->R.getD m 0=0){Q' R':List Rat}(j:∀ m,Q'.getD m 0=Q.getD m 0+if m=i then R.getD (i+b.length - 1) 0 / lastQ b else 0)(d:∀ m,R'.getD m 0=R.getD m 0 - if i<=m then R.getD (i+b.length - 1) 0 / lastQ b*b.getD (m - i) 0 else 0):
 divP b (i+1) (trimQ Q,trimQ R)=divP b i (trimQ Q',trimQ R'):=by
 have f:(trimQ R).length<=i+b.length:=Qge k;by_cases e:R.getD (i+b.length - 1) 0=0;have z0:(0:Rat) / lastQ b=0:=by rw[Rat.div_def,Rat.zero_mul]
 have l:trimQ Q'=trimQ Q:=Qh5 λm=>by rw[j m,e,z0];split<;>rw[vt]
 have n:trimQ R'=trimQ R:=Qh5 λm=>by rw[d m,e,z0,Rat.zero_mul];split<;>grind
 rw[l,n];refine Qt4 p q i _ ?_
 have:(trimQ R).length<=i+b.length - 1:=Qge λm r=>by by_cases g:m=i+b.length - 1;rw[g];exact e;exact k m om
 show(trimQ R).length<_;omega;have a:(trimQ R).length=i+b.length:=by refine Nat.le_antisymm f (Nat.le_of_not_lt λg=>e ?_);exact Qbd R _ om
 have hlast:lastQ (trimQ R)=R.getD (i+b.length - 1) 0:=by show(trimQ R).getD ((trimQ R).length - 1) 0=_;rw[Zc,a]
 rw[divP];rw[oj (show b.length<=(trimQ R).length by omega)];refine yz (divP b i) ?_;show(addP (trimQ Q) (monP ((trimQ R).length - b.length) (lastQ (trimQ R) / lastQ b)),subP (trimQ R) (mulP (monP ((trimQ R).length - b.length) (lastQ (trimQ R) / lastQ b)) b))=_;rw[hlast,a,show i+b.length - b.length=i by omega];congr 1;rw[<-Q0s];refine Qh5 λm=>?_;rw[Qkv,Zc,Qil,j m];rw[<-Qo3];refine Qh5 λm=>?_;rw[Qkw,Zc,Qqk,d m]
def evP:List Rat->Rat->Rat
 | [],_=>0
 | c::l,x=>c+x*evP l x
theorem Qgg:∀ {l:List Rat},(∀ i,l.getD i 0=0)->∀ x,evP l x=0
 | [],_,_=>rfl
 | c::l,h,x=>by
   have h0:c=0:=h 0;have a:∀ i,l.getD i 0=0:=λi=>by have:=h (i+1);simpa using this
   unfold evP;rw[Qgg a x,h0];grind
theorem Qj6:∀ {l l':List Rat},(∀ i,l.getD i 0=l'.getD i 0)->∀ x,evP l x=evP l' x
 | [],l',h,x=>by rw[Qgg (l:=l') (λi=>by have:=h i;simpa using this.symm) x];rfl
 | c::l,[],h,x=>by rw[Qgg (l:=c::l) (λi=>by have:=h i;simpa using this) x];rfl
 | c::l,d::l',h,x=>by
   have h0:c=d:=h 0;have a:∀ i,l.getD i 0=l'.getD i 0:=λi=>by have:=h (i+1);simpa using this
   unfold evP;rw[Qj6 a x,h0]
theorem W6(l:List Rat)(x:Rat):evP (trimQ l) x=evP l x:=Qj6 (Zc l) x
def addL:List Rat->List Rat->List Rat
 | [],b=>b
 | a::d,[]=>a::d
 | a::d,b::e=>(a+b)::addL d e
theorem Qkx:∀(a b:List Rat) (i:Nat),(addL a b).getD i 0=a.getD i 0+b.getD i 0
 | [],b,i=>by simp only[addL,List.getD_nil];grind
 | a::d,[],i=>by simp only[addL,List.getD_nil];grind
 | a::d,b::e,0=>by simp[addL]
 | a::d,b::e,i+1=>by
   have:=Qkx d e i
   simpa [addL] using this
theorem Qpi:∀(a b:List Rat) (x:Rat),evP (addL a b) x=evP a x+evP b x
 | [],b,x=>by simp only[addL,evP];grind
 | a::d,[],x=>by simp only[addL,evP];grind
 | a::d,b::e,x=>by simp only[addL,evP,Qpi d e x];grind
theorem Qwl(a b:List Rat)(x:Rat):evP (addP a b) x=evP a x+evP b x:=by rw[<-Qpi];exact Qj6 (λi=>by rw[Qkv,Qkx]) x
def scL(c:Rat):List Rat->List Rat
 | []=>[]
 | a::d=>(c*a)::scL c d
theorem Qno(c:Rat):∀(a:List Rat) (i:Nat),(scL c a).getD i 0=c*a.getD i 0
 | [],i=>by simp only[scL,List.getD_nil];grind
 | a::d,0=>by simp[scL]
 | a::d,i+1=>by have:=Qno c d i;simpa [scL] using this
theorem Qrv(c:Rat):∀(a:List Rat) (x:Rat),evP (scL c a) x=c*evP a x
 | [],x=>by simp only[scL,evP];grind
 | a::d,x=>by simp only[scL,evP,Qrv c d x];grind
theorem Qbe(c:Rat)(a:List Rat)(x:Rat):evP (scaP c a) x=c*evP a x:=by rw[<-Qrv];exact Qj6 (λi=>by rw[Qb9,Qno]) x
theorem Qj7(a b:List Rat)(x:Rat):evP (subP a b) x=evP a x - evP b x:=by unfold subP;rw[Qwl,Qbe];grind
def mulL:List Rat->List Rat->List Rat
 | [],_=>[]
 | c::a,b=>addL (scL c b) (0::mulL a b)
theorem Qjo:∀(a b:List Rat) (x:Rat),evP (mulL a b) x=evP a x*evP b x
 | [],b,x=>by simp only[mulL,evP];grind
 | c::d,b,x=>by simp only[mulL,Qpi,Qrv,evP,Qjo d b x];grind
theorem Qo5:∀(a b:List Rat) (m:Nat),(mulL a b).getD m 0=cvT a b m a.length
 | [],b,m=>by simp[mulL,cvT,sumN]
 | c::d,b,0=>by rw[mulL,Qkx,Qno];unfold cvT;rw[xl,Qku,Qgf (λj _=>by simp)];simp
 | c::d,b,m+1=>by rw[mulL,Qkx,Qno,um,Qo5 d b m];unfold cvT;rw[xl,Qku];congr 1;refine Qnn λj _=>?_;by_cases e:j<=m;rw[oj e,oj om,um,show m+1 - (j+1)=m - j by omega];rw[oi e,oi om]
theorem Qas(a b:List Rat)(x:Rat):evP (mulP a b) x=evP a x*evP b x:=by rw[<-Qjo];exact Qj6 (λi=>by rw[Qo0,Qo5]) x
theorem divX(r:Rat):∀(l:List Rat),∃ q:List Rat,q.length=l.length - 1/\(∀ x,evP l x=(x - r)*evP q x+evP l r)/\((∀ i,q.getD i 0=0)->∀ i,l.getD (i+1) 0=0)
 | []=>⟨[],rfl,λx=>by simp only[evP];grind,λ_ i=>oc⟩
 | [c]=>⟨[],rfl,λx=>by simp only[evP];grind,λ_ i=>oc⟩
 | c::d::l=>by
   obtain⟨q,f,g,j⟩:=divX r (d::l);refine⟨evP (d::l) r::q,by simp at f |-;omega,λx=>?_,λh i=>?_⟩;show c+x*evP (d::l) x=(x - r)*(evP (d::l) r+x*evP q x)+(c+r*evP (d::l) r)
   rw[g x];grind;have k:∀ i,q.getD i 0=0:=λi=>by have:=h (i+1);simpa using this
   have h0:evP (d::l) r=0:=h 0;have a:=j k;cases i with
   | succ i=>rw[um];exact a i
   | zero=>
     rw[um];show d=0;have e:evP (d::l) r=d+r*evP l r:=rfl;have z:evP l r=0:=Qgg (λi=>by have:=a i;simpa using this) r;rw[h0,z] at e;grind
theorem Qi2:∀(n:Nat) (l:List Rat) (R:List Rat),l.length<=n->R.length=n->R.Pairwise (·≠·)->(∀ r∈R,evP l r=0)->∀ i,l.getD i 0=0
 | 0,l,R,g,_,_,_=>λi=>Yw om
 | n+1,l,[],g,a,_,_=>by simp at a
 | n+1,l,r::R,g,a,f,h=>by
   obtain⟨q,x,u,v⟩:=divX r l;have j:=h r (.head _);rw[List.pairwise_cons] at f
   have w:=Qi2 n q R om (by simpa using a) f.2 (λs k=>by
    have p:=u s;rw[h s (.tail _ k),j] at p;have d:s - r≠0:=λe=>f.1 s k (by grind);have:(s - r)*evP q s=0:=by grind
    rcases uf.1 this with e | e;exact absurd e d
    exact e)
   have m:=v w;intro i;cases i with
   | succ i=>exact m i
   | zero=>
     cases l with
     | nil=>rfl
     | cons c l=>
       show c=0;have z:evP l r=0:=Qgg (λi=>by have:=m i;simpa using this) r;have e:evP (c::l) r=c+r*evP l r:=rfl;rw[j,z] at e;grind
def nums(k n:Nat):List Rat:=(List.range n).map λi=>((k+i:Nat):Rat)
theorem Q3c(k n:Nat):(nums k n).Pairwise (·≠·):=by
 unfold nums;rw[List.pairwise_map];refine List.Pairwise.imp (fun {a b} h e=>?_) (List.nodup_range (n:=n));have:k+a=k+b:=by exact_mod_cast e
 omega
theorem Qp7{l:List Rat}{k:Nat}(h:∀ m:Nat,k<=m->evP l (m:Rat)=0):∀ i,l.getD i 0=0:=
 Qi2 l.length l (nums k l.length) (ol _) (by simp[nums]) (Q3c k _) (λr a=>by
  obtain⟨i,_,rfl⟩:=xj.1 a
  exact h _ om)
theorem Qp8{l:List Rat}(h:∀ x,evP l x=0):∀ i,l.getD i 0=0:=Qp7 (k:=0) λ_ _=>h _
theorem Qx8{a b:List Rat}(h:∀ x,evP a x*evP b x=0):(∀ x,evP a x=0)\/(∀ x,evP b x=0):=by
 by_cases v:∀ x,evP a x=0;exact .inl v;right;have key:∀(n:Nat) (a b:List Rat),a.length<=n->(∃ x,evP a x≠0)->(∀ x,evP a x*evP b x=0)->∀ m:Nat,∃ k,m<=k/\evP b (k:Rat)=0:=by intro n a b G g l m;apply ua;intro d;have A:∀ k:Nat,m<=k->evP b (k:Rat)≠0:=λk hk e=>d ⟨k,hk,e⟩;obtain⟨x,g⟩:=g;refine g (Qgg (Qp7 (k:=m) λk hk=>?_) x);rcases uf.1 (l k) with e | e;exact e;exact absurd e (A k hk)
 have g:∃ x,evP a x≠0:=ua λd=>v λx=>ua λe=>d ⟨x,e⟩;have y:=key a.length a b (ol _) g h;have i:∀ n:Nat,∀ m:Nat,∃ R:List Rat,R.length=n/\R.Pairwise (·≠·)/\(∀ r∈R,evP b r=0)/\∀ r∈R,∃ k:Nat,m<=k/\r=(k:Rat):=by
  intro n
  induction n with
  | zero=>intro m;exact⟨[],rfl,List.Pairwise.nil,oc,oc⟩
  | succ n F=>
    intro m;obtain⟨k,hk,E⟩:=y m;obtain⟨R,p,q,u,w⟩:=F (k+1);refine⟨(k:Rat)::R,by simp[p],?_,?_,?_⟩;rw[List.pairwise_cons];refine⟨λs C e=>?_,q⟩;obtain⟨j,B,rfl⟩:=w s C;have:k=j:=by exact_mod_cast e
    omega;intro r f;rcases ud.1 f with rfl | f;exact E;exact u r f;intro r f;rcases ud.1 f with rfl | f;exact⟨k,hk,rfl⟩;obtain⟨j,B,e⟩:=w r f;exact⟨j,om,e⟩
 obtain⟨R,p,q,u,_⟩:=i b.length 0;exact Qgg (Qi2 b.length b R (ol _) p q u)
set_option maxRecDepth 100000
abbrev rw0:Qc:=⟨⟨false,[]⟩,[]⟩
theorem Q42:fv rw0=0:=by unfold fv;rfl
theorem Q43{k:Nat}:Fk k rw0:=⟨Jr,xg _,Jr,xg _⟩
def pdBody(n:Nat)(a:List Qc):(List Qc)×(List Qc)×Int->Option (Lp ((List Qc)×(List Qc)×Int) ((List Qc)×(List Qc))):=λ(s102:(List Qc)×(List Qc)×Int)=>
 bif decide ((0:Int)<=s102.2.2) then (
  (getI s102.2.1 (wrap64 ((wrap64 (s102.2.2+(a.length:Int))) - (1:Int)))).bind λy103=>
  (getI a (wrap64 ((a.length:Int) - (1:Int)))).bind λy105=>
  (Zm n y103 y105).bind λr107=>
  (getI s102.1 s102.2.2).bind λ_=>
  (rangeL (λ(i127:Nat) (x128:Qc) (s126:(List Qc))=>
   (getI s126 (wrap64 (s102.2.2+(i127:Int)))).bind λy130=>
   (getI (List.set s102.1 (Int.toNat s102.2.2) r107.1) s102.2.2).bind λy132=>
   (Yf n y132 x128).bind λr134=>
   (Qd6 n y130 r134).bind λr136=>
   (getI s126 (wrap64 (s102.2.2+(i127:Int)))).bind λ_=>
   some (Lp.go (List.set s126 (Int.toNat (wrap64 (s102.2.2+(i127:Int)))) r136))) a 0 s102.2.1).bind (lpK λ(s140:(List Qc))=>
  some (Lp.go ((List.set s102.1 (Int.toNat s102.2.2) r107.1),s140,wrap64 (s102.2.2 - (1:Int))))))
 else (
  some (Lp.out (s102.1,s102.2.1)))
theorem Q3d{n k w la i:Nat}{b:List Rat}{qs:List Qc}{f:Nat->Rat}(y:big<=n)(L:1<=w)(hk:1<=k)(J:w+k+k<100000000000)(F:lastQ b≠0)(K:1<=b.length)(G:la<=1000)(hi:i+b.length<=la)(A:i<qs.length)(d:QR k b)(u:∀ m,qw (f m)<=w):
 pdBody n (toR b) (qs,toR (coefs la f),(i:Int))=some (.go (qs.set i (toF (f (i+b.length - 1) / lastQ b)),toR (coefs la λm=>f m - if i<=m then f (i+b.length - 1) / lastQ b*b.getD (m - i) 0 else 0),wrap64 ((i:Int) - 1))):=by
 have I:qw (lastQ b)<=k:=Jf d hk;have C:qw (f (i+b.length - 1) / lastQ b)<=w+k:=Qcq (u _) I;have s:(toR b)[b.length - 1]?=some (toF (lastQ b)):=by unfold toR;rw[xi,oo om];show some (toF _)=some (toF (b.getD (b.length - 1) 0));rw[ov,oo om];rfl
 have B:qs[i]?=some (qs[i]'(A)):=oo A;have l:(qs.set i (toF (f (i+b.length - 1) / lastQ b)))[i]?=some (toF (f (i+b.length - 1) / lastQ b)):=by rw[List.getElem?_set];simp[A]
 unfold pdBody;simp only[];rw[ot om,bifT,Q5,show wrap64 ((i:Int)+(b.length:Int))=(i:Int)+(b.length:Int) from w64 om om,w64 om om,show((i:Int)+(b.length:Int) - 1)=((i+b.length - 1:Nat):Int) by omega,Jm (Qs0 om),sbind,w64 om om,show((b.length:Int) - 1)=((b.length - 1:Nat):Int) by omega,Jm s,sbind,Qfr (k:=w+k) y om om (Vn (xn (u _) om)) (Vn om),K5,K5,oi F,sbind,Jm B,sbind,yp];rw[Qgd (λj=>toR (coefs la λm=>f m - if i<=m/\m - i<j then f (i+b.length - 1) / lastQ b*b.getD (m - i) 0 else 0)) (toR b)];rw[Vy,Q5];refine yz (λz=>some (Lp.go (qs.set i (toF (f (i+b.length - 1) / lastQ b)),toR z,wrap64 ((i:Int) - 1)))) (Qbn λm _=>?_);by_cases h:i<=m;rw[oj h];by_cases g:m - i<b.length;rw[oj ⟨h,g⟩];rw[oi (λq=>g q.2),Yw om,gh];rw[oi h,oi (λq=>h q.1)];intro j x p;have v:=Qaj p;rw[Q5] at v;have E:x=toF (b.getD j 0):=by
  unfold toR at p;rw[xi,oo v] at p;rw[ov,oo v];simp at p;exact p.symm
 have r:qw (b.getD j 0)<=k:=Jf d hk;have H:=Qb2 C r;have a:(toR (coefs la λm=>f m - if i<=m/\m - i<j then f (i+b.length - 1) / lastQ b*b.getD (m - i) 0 else 0))[i+j]?=some (toF (f (i+j))):=by rw[Qs0 om,oi om];congr 2;grind
 rw[w64 om om,show((i:Int)+(j:Int))=((i+j:Nat):Int) by omega,Jm a,sbind,Jm l,sbind,E,Qcn (k:=w+k) y om om (Vn C) (Vn om),sbind,Qur (k:=w+k+k) y om om (Vn (xn (u _) om)) (Vn (by rw[K5,K5];exact H)),sbind,sbind,yp,K5,K5,K5,K5,Qt2];refine yz (λz=>some (Lp.go (toR z))) (Qbn λm _=>?_);by_cases e:m=i+j;subst e;rw[oj rfl,oj om,show i+j - i=j by omega];rw[oi e];by_cases g:i<=m/\m - i<j;rw[oj g,oj om];rw[oi g,oi om];refine yz toR (Qbn λm _=>?_);rw[oi om];grind
set_option maxRecDepth 100000
theorem rvSetD{qs:List Qc}{j m:Nat}{x:Qc}(a:j<qs.length):(rv (qs.set j x)).getD m 0=if m=j then fv x else (rv qs).getD m 0:=by unfold rv;rw[ov,ov,xi,xi,List.getElem?_set];by_cases h:j=m;subst h;rw[oj rfl,oj rfl,oj a];rfl;rw[oi h,oi (λe=>h e.symm)]
theorem Q3e{n k B la:Nat}{b:List Rat}(Y:big<=n)(hk:1<=k)(hB:B<4000000000)(E:lastQ b≠0)(K:1<=b.length)(G:la<=1000)(d:QR k b):∀(j g w:Nat) (qs:List Qc) (f:Nat->Rat),j<=qs.length->j+b.length<=la+1->1<=w->(∀ m,qw (f m)<=w)->2 ^ j*(w+2*k+2)<=B->FR B qs->(∀ m,m<j->(rv qs).getD m 0=0)->(∀ m,j+b.length - 1<=m->(coefs la f).getD m 0=0)->j<g ->
 ∃ a p,loopM (pdBody n (toR b)) g (qs,toR (coefs la f),(j:Int) - 1)=some (a,toR (coefs la p))/\divP b j (trimQ (rv qs),trimQ (coefs la f))=(trimQ (rv a),trimQ (coefs la p))/\FR B a/\(∀ m,qw (p m)<=B)/\a.length=qs.length:=by
 intro j
 induction j with
 | zero=>
   intro g w qs f _ _ M e u I J C y;refine⟨qs,f,Qbk ?_ y,rfl,I,λm=>xn (e m) om,rfl⟩;unfold pdBody;simp only[];rw[oq om,bifF]
 | succ j ih=>
   intro g w qs f hj X M e u I J C y;obtain⟨n'',rfl⟩:∃ q,g=q+1:=⟨g - 1,om⟩
   have V:=Xx (j+1);have Z:=ow (w+2*k+2) V;have U:2 ^ (j+1)*(w+2*k+2)=2 ^ j*(2*(w+2*k+2)):=by rw[vh,xt]
   have lq:qw (lastQ b)<=k:=Jf d hk;have W:qw (f (j+b.length - 1) / lastQ b)<=w+k:=Qcq (e _) lq;have A:=Q3d (n:=n) (k:=k) (w:=w) (la:=la) (i:=j) (b:=b) (qs:=qs) (f:=f) Y M hk om E K G om om d e;rw[w64 om om] at A
   have F:∀ m,qw (f m - if j<=m then f (j+b.length - 1) / lastQ b*b.getD (m - j) 0 else 0)<=2*w+2*k+2:=λm=>by by_cases h:j<=m;rw[oj h];have:=Qwc (e m) (Qb2 W (Jf (i:=m - j) d hk));omega;rw[oi h];have:=Qwc (e m) (show qw 0<=1 by rw[Qaz];exact ol _);omega
   have v:(coefs la f).getD (j+b.length - 1) 0=f (j+b.length - 1):=by rw[Qcf,oj om]
   have s:∀ m,(coefs la λm=>f m - if j<=m then f (j+b.length - 1) / lastQ b*b.getD (m - j) 0 else 0).getD m 0=(coefs la f).getD m 0 - if j<=m then (coefs la f).getD (j+b.length - 1) 0 / lastQ b*b.getD (m - j) 0 else 0:=λm=>by rw[v,Qcf,Qcf];by_cases h:m<la;rw[oj h,oj h];rw[oi h,oi h];split;rw[Yw (l:=b) om,gh];grind;grind
   have r:∀ m,(rv (qs.set j (toF (f (j+b.length - 1) / lastQ b)))).getD m 0=(rv qs).getD m 0+if m=j then (coefs la f).getD (j+b.length - 1) 0 / lastQ b else 0:=λm=>by rw[rvSetD om,v,K5];by_cases h:m=j;rw[oj h,oj h,J m om];grind;rw[oi h,oi h];grind
   have H:=Qzb (b:=b) (Q:=rv qs) (R:=coefs la f) (i:=j) E K (λm L=>C m om) r s
   obtain⟨a,p,N,O,P,S,T⟩:=ih n'' (2*w+2*k+2) (qs.set j (toF (f (j+b.length - 1) / lastQ b))) (λm=>f m - if j<=m then f (j+b.length - 1) / lastQ b*b.getD (m - j) 0 else 0) (by rw[gk];omega) om om F (by
    refine xn (ym _ ?_) (U ▸ u);omega) (λx hx=>by
    rcases List.mem_or_eq_of_mem_set hx with h | rfl;exact I x h;exact Vn om) (λm L=>by rw[r m,oi om,J m om,vt]) (λm L=>by
    rw[s m];by_cases h:m=j+b.length - 1;subst h;rw[oj om,show j+b.length - 1 - j=b.length - 1 by omega];show(coefs la f).getD (j+b.length - 1) 0 - (coefs la f).getD (j+b.length - 1) 0 / lastQ b*lastQ b=0;rw[uo E];grind
    rw[C m om,oj om,Yw (l:=b) om,gh];grind) om
   refine⟨a,p,?_,?_,P,S,by rw[T,gk]⟩;rw[show(((j+1:Nat):Int) - 1)=(j:Int) by omega,Qgb A];exact N;rw[H];exact O
set_option maxRecDepth 100000
theorem Qnp(a:List Rat):coefs a.length (λi=>a.getD i 0)=a:=by refine List.ext_getElem? λi=>?_;by_cases h:i<a.length;rw[Qik h,ov,oo h];rfl;rw[ou (by rw[Kn];omega),ou om]
theorem Q0t(j m:Nat):(rv (List.replicate j rw0)).getD m 0=0:=by unfold rv;rw[List.map_replicate,Q42,ov,List.getElem?_replicate];split<;>rfl
theorem Qi3{n k w B:Nat}{x0 x1:List Qc}(d:big<=n)(E:B<4000000000)(hk:1<=k)(j:1<=w)(h0:FR w x0)(v:FR k x1)(Q:x0.length<=10)(R:x1.length<=10)(f:trimQ (rv x1)≠[])(p:2 ^ ((trimQ (rv x0)).length+1 - (trimQ (rv x1)).length)*(w+2*k+2)<=B):
 Qa9 n x0 x1=some (toR (trimQ (divP (trimQ (rv x1)) ((trimQ (rv x0)).length+1 - (trimQ (rv x1)).length) ([],trimQ (rv x0))).1),toR (divP (trimQ (rv x1)) ((trimQ (rv x0)).length+1 - (trimQ (rv x1)).length) ([],trimQ (rv x0))).2,true):=by
 have F:=Xx ((trimQ (rv x0)).length+1 - (trimQ (rv x1)).length);have H:=ow (w+2*k+2) F;have M:=Ke (rv x0);have N:=Ke (rv x1);rw[Yd] at M N;have J:QR w (trimQ (rv x0)):=V9 (QR_rv h0 j);have K:QR k (trimQ (rv x1)):=V9 (QR_rv v hk);have hlast:=Vb (K1 (rv x1)) f;have r:=K1 (rv x0);unfold Qa9;rw[Wa (k:=k) d hk om v om,sbind,Wa (k:=w) d j om h0 om,sbind];generalize trimQ (rv x0)=a at *;generalize trimQ (rv x1)=b at *;have G:1<=b.length:=by cases b with | nil=>exact absurd rfl f | cons x t=>simp
 rw[Q5,Q5,oq om,bifF];by_cases g:a.length<b.length;rw[ot om,bifT,show a.length+1 - b.length=0 by omega];rfl;rw[oq om,bifF,show wrap64 ((a.length:Int) - (b.length:Int))=(a.length:Int) - (b.length:Int) from w64 om om,show wrap64 ((a.length:Int) - (b.length:Int)+1)=(a.length:Int) - (b.length:Int)+1 from w64 om om,show((a.length:Int) - (b.length:Int)+1)=((a.length+1 - b.length:Nat):Int) by omega,Qba om om,sbind];obtain⟨L,O,s,u,y,A,C⟩:=Q3e (n:=n) (k:=k) (B:=B) (la:=a.length) (b:=b) d hk E hlast G om K (a.length+1 - b.length) n w (List.replicate (a.length+1 - b.length) rw0) (λi=>a.getD i 0) oc om j (λm=>Jf J j) p (λx I=>by rw[List.eq_of_mem_replicate I];exact Q43) (λm _=>Q0t _ m) (λm P=>by rw[Qnp];exact Yw om) (by unfold big at d;omega);have q:trimQ (rv (List.replicate (a.length+1 - b.length) rw0))=[]:=by
  have:=Qge (l:=rv (List.replicate (a.length+1 - b.length) rw0)) (m:=0) λi _=>Q0t _ i;exact xd om
 rw[q,Qnp,r] at u;rw[Qnp] at s;rw[u];have e:loopM (pdBody n (toR b)) n (List.replicate (a.length+1 - b.length) rw0,toR a,((a.length+1 - b.length:Nat):Int) - 1)=_:=s;unfold pdBody at e;rw[Q5] at e;rw[yw,show wrap64 (((a.length+1 - b.length:Nat):Int) - 1)=((a.length+1 - b.length:Nat):Int) - 1 from w64 om om,e,sbind];simp only[];rw[Wa (k:=B) d om om y (by rw[C];simp;omega),sbind,Wa (k:=B) d om om (Vo (Qfz λm _=>A m)) (by rw[Q5,Kn];omega),sbind,Jy,K1]
set_option maxRecDepth 100000
def mncP(l:List Rat):List Rat:=if l=[] then [] else scaP (1 / lastQ l) l
theorem Qhf{n k:Nat}{l:List Rat}(d:big<=n)(f:1<=k)(hk:k<10000000000)(e:QR k l)(j:l.length<=1000)(p:trimQ l=l):Zv n (toR l)=some (toR (mncP l)):=by
 unfold Zv mncP;rw[Q5];by_cases g:l=[]
 rw[oj g,ot (by rw[g];rfl),bifT];rfl;have m:1<=l.length:=by cases l with | nil=>exact absurd rfl g | cons x t=>simp
 have hlast:=Vb p g;have q:qw (lastQ l)<=k:=Jf e f;have i:(toR l)[l.length - 1]?=some (toF (lastQ l)):=by unfold toR;rw[xi,oo om];show some (toF _)=some (toF (l.getD (l.length - 1) 0));rw[ov,oo om];rfl
 have a:qw (1 / lastQ l)<=1+k:=Qcq (by rw[Xw];exact ol _) q;rw[oi g,oq om,bifF,Qcr d,sbind,w64 om om,show((l.length:Int) - 1)=((l.length - 1:Nat):Int) by omega,Jm i,sbind,Qfr (k:=1+k) d om om (Vn (by rw[Xw];omega)) (Vn om),K5,K5,oi hlast,sbind];simp only[];rw[Qdc (k:=1+k) d om om (Vn a) (Vo (Qy e om)) (by rw[Q5];exact j),sbind,K5,Jy]
theorem Qt5(c:Rat)(l:List Rat):trimQ (scaP c l)=scaP c l:=K1 _
theorem Qo6(l:List Rat):trimQ (mncP l)=mncP l:=by unfold mncP;split;rfl;exact Qt5 _ _
theorem Qx9{b:List Rat}:∀(m:Nat) (z:List Rat×List Rat) (x:Rat),evP (divP b m z).1 x*evP b x+evP (divP b m z).2 x=evP z.1 x*evP b x+evP z.2 x
 | 0,z,x=>rfl
 | m+1,z,x=>by unfold divP;split;rw[Qx9 m (stD b z) x];unfold stD;simp only[];rw[Qwl,Qj7,Qas];grind;rfl
theorem Qya(a b:List Rat)(x:Rat):evP (divP b (a.length+1 - b.length) ([],trimQ a)).1 x*evP b x+evP (remP a b) x=evP a x:=by unfold remP;rw[Qx9,W6];show 0*evP b x+evP a x=evP a x;grind
theorem Qyb{b:List Rat}(a:lastQ b≠0)(d:1<=b.length):∀(m:Nat) (z:List Rat×List Rat),z.2.length<b.length+m->(divP b m z).2.length<b.length
 | 0,z,h=>h
 | m+1,z,h=>by unfold divP;split;rename_i g;have:=Qo2 a d g;exact Qyb a d m (stD b z) om;omega
theorem Qs2{a b:List Rat}(d:lastQ b≠0)(e:1<=b.length):(remP a b).length<b.length:=
 Qyb d e _ _ (by have:=Ke a;show(trimQ a).length<_;omega)
theorem Qrw{a b:List Rat}(h:∀ x,evP a x=evP b x):trimQ a=trimQ b:=Qh5 λi=>by
 have z:∀ i,(subP a b).getD i 0=0:=Qp8 λx=>by rw[Qj7,h x];grind
 have:=z i;rw[Qkw] at this;grind
theorem Qql{l:List Rat}(d:trimQ l=l)(h:∀ x,evP l x=0):l=[]:=by rw[<-d];have:=Qrw (a:=l) (b:=[]) (λx=>by rw[h x];rfl);rw[this];rfl
theorem Qa1{l:List Rat}(d:trimQ l=l)(h:l≠[]):∃ x,evP l x≠0:=ua λa=>h (Qql d λx=>ua λe=>a ⟨x,e⟩)
theorem Q10{h g r:List Rat}(p:lastQ g≠0)(q:1<=g.length)(s:trimQ h=h)(a:h≠[])(v:∀ x,evP r x=evP h x*evP g x):g.length<=r.length:=by
 have u:1<=h.length:=by cases h with
  | nil=>exact absurd rfl a
  | cons _ _=>simp
 have i:=Vb s a;have e:trimQ r=trimQ (mulL h g):=Qrw λx=>by rw[v x,Qjo]
 have k:(mulL h g).getD (h.length - 1+(g.length - 1)) 0=lastQ h*lastQ g:=by
  rw[Qo5];unfold cvT;obtain⟨n,m⟩:∃ n,h.length=n+1:=⟨h.length - 1,om⟩
  rw[m];simp only[sumN];rw[Qgf (λj w=>?_)];rw[oj om,show n+1 - 1+(g.length - 1) - n=g.length - 1 by omega];unfold lastQ;rw[m,show n+1 - 1=n by omega];grind;rw[oj om,Yw (l:=g) om];grind
 have d:(trimQ r).getD (h.length - 1+(g.length - 1)) 0≠0:=by rw[e,Zc,k];intro h0;rcases uf.1 h0 with h0 | h0;exact i h0;exact p h0
 have:h.length - 1+(g.length - 1)<(trimQ r).length:=by rcases xx (h.length - 1+(g.length - 1)) (trimQ r).length with f | f;exact f;exact absurd (Yw f) d
 have:=Ke r;omega
theorem Qky{a g p:List Rat}(m:lastQ g≠0)(d:1<=g.length)(h:∀ x,evP a x=evP p x*evP g x):remP a g=[]/\∀ x,evP (divP g (a.length+1 - g.length) ([],trimQ a)).1 x*evP g x=evP a x:=by
 have k:=Qya a g;have q:=Qs2 (a:=a) m d;have l:remP a g=[]:=by
  apply ua;intro f;let w:=subP p (divP g (a.length+1 - g.length) ([],trimQ a)).1
  have n:∀ x,evP (remP a g) x=evP w x*evP g x:=λx=>by show _=evP (subP p _) x*evP g x;rw[Qj7];have:=k x;rw[h x] at this;grind
  have j:trimQ w=w:=Qo3 _ _;have i:w≠[]:=λe=>f (Qql (Qo4 a g) λx=>by rw[n x,e];show 0*_=_;grind);have:=Q10 m d j i n;omega
 refine⟨l,λx=>?_⟩;have:=k x;rw[l] at this;have e:evP [] x=0:=rfl;rw[e] at this;grind
def IsP(f:Rat->Rat):Prop:=∃ l:List Rat,∀ x,f x=evP l x
theorem Qj8(l:List Rat):IsP (evP l):=⟨l,λ_=>rfl⟩
theorem Qs3{f g:Rat->Rat}(i:IsP f)(j:IsP g):IsP λx=>f x+g x:=by obtain⟨a,d⟩:=i;obtain⟨b,e⟩:=j;exact⟨addP a b,λx=>by rw[Qwl,<-d,<-e]⟩
theorem X5{f g:Rat->Rat}(i:IsP f)(j:IsP g):IsP λx=>f x*g x:=by obtain⟨a,d⟩:=i;obtain⟨b,e⟩:=j;exact⟨mulP a b,λx=>by rw[Qas,<-d,<-e]⟩
theorem Yx(c:Rat):IsP λ_=>c:=⟨[c],λx=>by show c=c+x*0;grind⟩
theorem Qpj{f g:Rat->Rat}(i:IsP f)(j:IsP g):IsP λx=>f x - g x:=by obtain⟨a,d⟩:=i;obtain⟨b,e⟩:=j;exact⟨subP a b,λx=>by rw[Qj7,<-d,<-e]⟩
theorem Qwm{f:Rat->Rat}(i:IsP f){g:List Rat}(j:∃ x,evP g x≠0)(h:∀ x,f x*evP g x=0)(x:Rat):f x=0:=by obtain⟨a,e⟩:=i;obtain⟨y,k⟩:=j;rcases Qx8 (a:=a) (b:=g) (λx=>by rw[<-e];exact h x) with d | d;rw[e,d];exact absurd (d y) k
structure Euc(a0 b0 a b:List Rat):Prop where
 up:∃ p q:Rat->Rat,IsP p/\IsP q/\∀ x,evP a0 x=p x*evP a x+q x*evP b x
 dn:∃ p q:Rat->Rat,IsP p/\IsP q/\∀ x,evP b0 x=p x*evP a x+q x*evP b x
 ba:∃ p q:Rat->Rat,IsP p/\IsP q/\∀ x,evP a x=p x*evP a0 x+q x*evP b0 x
 bb:∃ p q:Rat->Rat,IsP p/\IsP q/\∀ x,evP b x=p x*evP a0 x+q x*evP b0 x
theorem Qwn(a b:List Rat):Euc a b a b:=by have d:=Yx 1;have h0:=Yx 0;exact⟨⟨_,_,d,h0,λx=>by grind⟩,⟨_,_,h0,d,λx=>by grind⟩,⟨_,_,d,h0,λx=>by grind⟩,⟨_,_,h0,d,λx=>by grind⟩⟩
theorem Qs4{a0 b0 a b e f:List Rat}{c d:Rat}(h:Euc a0 b0 a b)(A:c≠0)(hd:d≠0)(j:∀ x,evP e x=c*evP a x)(k:∀ x,evP f x=d*evP b x):Euc a0 b0 e f:=by
 obtain⟨⟨B,q1,q,r,l⟩,⟨C,q2,s,u,m⟩,⟨E,G,v,w,n⟩,⟨F,H,y,k8,p⟩⟩:=h;have g:∀ x,evP a x=1 / c*evP e x:=λx=>by rw[j x];grind
 have i:∀ x,evP b x=1 / d*evP f x:=λx=>by rw[k x];grind
 exact⟨⟨_,_,X5 q (Yx (1 / c)),X5 r (Yx (1 / d)),λx=>by rw[l x,g x,i x];grind⟩,
  ⟨_,_,X5 s (Yx (1 / c)),X5 u (Yx (1 / d)),λx=>by rw[m x,g x,i x];grind⟩,
  ⟨_,_,X5 (Yx c) v,X5 (Yx c) w,λx=>by rw[j x,n x];grind⟩,
  ⟨_,_,X5 (Yx d) y,X5 (Yx d) k8,λx=>by rw[k x,p x];grind⟩⟩
theorem Qwo{a0 b0 a b:List Rat}(h:Euc a0 b0 a b):Euc a0 b0 b (remP a b):=by
 obtain⟨⟨y,q1,i,q,l⟩,⟨A,q2,j,r,m⟩,⟨B,C,s,u,n⟩,⟨v,w,k,k8,f⟩⟩:=h;have g:=Qya a b;generalize (divP b (a.length+1 - b.length) ([],trimQ a)).1=Q at g;have e:∀ x,evP a x=evP Q x*evP b x+evP (remP a b) x:=λx=>(g x).symm;have d:=Qj8 Q
 exact⟨⟨_,_,Qs3 (X5 i d) q,i,λx=>by rw[l x,e x];grind⟩,
  ⟨_,_,Qs3 (X5 j d) r,j,λx=>by rw[m x,e x];grind⟩,
  ⟨v,w,k,k8,f⟩,
  ⟨_,_,Qpj s (X5 d k),Qpj u (X5 d k8),λx=>by
    have p:=e x
    rw[n x,f x] at p;grind⟩⟩
structure Gcd(a b g:List Rat):Prop where
 up:∃ p:List Rat,∀ x,evP a x=evP p x*evP g x
 dn:∃ p:List Rat,∀ x,evP b x=evP p x*evP g x
 be:∃ p q:Rat->Rat,IsP p/\IsP q/\∀ x,evP g x=p x*evP a x+q x*evP b x
theorem Q0u{a b g:List Rat}(h:Euc a b g []):Gcd a b g:=by obtain⟨⟨l,q1,⟨k,i⟩,_,d⟩,⟨m,q2,⟨l2,j⟩,_,e⟩,f,_⟩:=h;have z:∀ x,evP [] x=0:=λ_=>rfl;exact⟨⟨k,λx=>by rw[d x,z x,i x];grind⟩,⟨l2,λx=>by rw[e x,z x,j x];grind⟩,f⟩
theorem Q3f{a b g f:List Rat}{c:Rat}(h:Gcd a b g)(m:c≠0)(d:∀ x,evP f x=c*evP g x):Gcd a b f:=by
 obtain⟨⟨p,i⟩,⟨q,j⟩,⟨s,t,k,l,e⟩⟩:=h
 exact⟨⟨scaP (1 / c) p,λx=>by rw[i x,d x,Qbe];grind⟩,⟨scaP (1 / c) q,λx=>by rw[j x,d x,Qbe];grind⟩,
  ⟨_,_,X5 (Yx c) k,X5 (Yx c) l,λx=>by rw[d x,e x];grind⟩⟩
structure NFo(a b u d:List Rat):Prop where
 by_:∃ g:List Rat,(∀ x,evP a x=evP u x*evP g x)/\∀ x,evP b x=evP d x*evP g x
 no:∀ x,¬(evP u x=0/\evP d x=0)
theorem Qwp{a b g u d:List Rat}(h:Gcd a b g)(l:∃ x,evP g x≠0)(i:∀ x,evP u x*evP g x=evP a x)(hd:∀ x,evP d x*evP g x=evP b x):NFo a b u d:=by
 obtain⟨_,_,⟨s,t,m,n,e⟩⟩:=h;refine⟨⟨g,λx=>(i x).symm,λx=>(hd x).symm⟩,λx j=>?_⟩
 have key:=Qwm (f:=λx=>s x*evP u x+t x*evP d x - 1) (Qpj (Qs3 (X5 m (Qj8 u)) (X5 n (Qj8 d))) (Yx 1)) l (λx=>by
  have k:=e x;rw[<-i x,<-hd x] at k
  grind) x
 simp only[j.1,j.2] at key;grind
theorem Qs5{a b u d l f:List Rat}{c:Rat}(h:NFo a b u d)(i:c≠0)(j:∀ x,evP l x=c*evP u x)(hd:∀ x,evP f x=c*evP d x):NFo a b l f:=by obtain⟨⟨g,m,n⟩,p⟩:=h;refine⟨⟨scaP (1 / c) g,λx=>by rw[m x,j x,Qbe];grind,λx=>by rw[n x,hd x,Qbe];grind⟩,λx k=>p x ⟨?_,?_⟩⟩;have:=k.1;rw[j x] at this;rcases uf.1 this with e | e;exact absurd e i;exact e;have:=k.2;rw[hd x] at this;rcases uf.1 this with e | e;exact absurd e i;exact e
theorem Qt6{a b u d v e:List Rat}(h:NFo a b u d)(f:NFo u d v e):NFo a b v e:=by obtain⟨⟨g,i,j⟩,_⟩:=h;obtain⟨⟨k,l,m⟩,n⟩:=f;exact⟨⟨mulP k g,λx=>by rw[i x,l x,Qas];grind,λx=>by rw[j x,m x,Qas];grind⟩,n⟩
theorem Q11{a b r m u d l i:List Rat}(h:NFo a b u d)(w:NFo r m l i)(F:∃ x,evP b x≠0)(n:∃ x,evP m x≠0)(e:∀ x,evP a x*evP m x=evP r x*evP b x)(x:Rat):
 (evP d x=0↔evP i x=0)/\evP u x*evP i x=evP l x*evP d x:=by
 obtain⟨⟨g,A,s⟩,B⟩:=h;obtain⟨⟨k,C,v⟩,E⟩:=w;have G:∃ x,evP g x≠0:=by obtain⟨y,j⟩:=F;exact⟨y,λe=>j (by rw[s y,e];grind)⟩
 have hk:∃ x,evP k x≠0:=by obtain⟨y,j⟩:=n;exact⟨y,λe=>j (by rw[v y,e];grind)⟩
 have p:∃ x,evP (mulP g k) x≠0:=ua λq=>by
  have:∀ x,evP g x*evP k x=0:=λx=>by rw[<-Qas];exact ua λe=>q ⟨x,e⟩
  rcases Qx8 this with h | h;obtain⟨y,j⟩:=G;exact j (h y);obtain⟨y,j⟩:=hk;exact j (h y)
 have cross:∀ x,evP u x*evP i x=evP l x*evP d x:=λx=>by
  have:=Qwm (f:=λx=>evP u x*evP i x - evP l x*evP d x) (Qpj (X5 (Qj8 u) (Qj8 i)) (X5 (Qj8 l) (Qj8 d))) p (λx=>by
   have:=e x;rw[A x,v x,C x,s x] at this
   rw[Qas];grind) x
  grind
 refine⟨⟨λh0=>?_,λh0=>?_⟩,cross x⟩;have c:=cross x;rw[h0] at c;rcases uf.1 (show evP u x*evP i x=0 by grind) with e | e;exact absurd ⟨e,h0⟩ (B x);exact e;have c:=cross x;rw[h0] at c;rcases uf.1 (show evP l x*evP d x=0 by grind) with e | e;exact absurd ⟨e,h0⟩ (E x);exact e
set_option maxRecDepth 100000
def rdW(la lb a d:Nat):Nat:=2 ^ (la+1 - lb)*(a+2*d+2)
def mxL:List Nat->Nat
 | []=>0
 | x::l=>max x (mxL l)
theorem Qrx{l:List Nat}{x B:Nat}(a:x∈l)(h:mxL l<=B):x<=B:=by
 induction l with
 | nil=>cases a
 | cons y l d=>
   unfold mxL at h;rcases ud.1 a with rfl | a;omega;exact d a om
def eW(mo:Nat->Nat):Nat->Nat->Nat->Nat->Nat->Nat
 | 0,_,_,d,a=>max d a
 | f+1,la,lb,d,a=>if lb=0 then max d a else max (max d a) (max (mo (rdW la lb d a)) (mxL ((List.range lb).map λe=>eW mo f lb e a (mo (rdW la lb d a)))))
def gW(mo:Nat->Nat):Nat->Nat->Nat->Nat->Nat->Nat
 | 0,_,_,a,d=>max a d
 | f+1,la,lb,a,d=>if lb=0 then (if la<=1 then 1 else a) else mxL ((List.range lb).map λe=>gW mo f lb e d (mo (rdW la lb a d)))
theorem eW_le{mo:Nat->Nat}{f la lb a d B:Nat}(h:eW mo f la lb a d<=B):a<=B/\d<=B:=by
 cases f with
 | zero=>unfold eW at h;omega
 | succ f=>unfold eW at h;split at h<;>omega
theorem Q3g{mo:Nat->Nat}{f la lb e a B d:Nat}(h:eW mo (f+1) la lb e a<=B)(g:d<lb):mo (rdW la lb e a)<=B/\eW mo f lb d a (mo (rdW la lb e a))<=B:=by unfold eW at h;rw[oi om] at h;refine⟨om,Qrx (l:=(List.range lb).map λd=>eW mo f lb d a (mo (rdW la lb e a))) (gi (List.mem_range.2 g)) om⟩
theorem Q3h{mo:Nat->Nat}{f la lb e a B d:Nat}(h:gW mo (f+1) la lb e a<=B)(g:d<lb):gW mo f lb d a (mo (rdW la lb e a))<=B:=by unfold gW at h;rw[oi om] at h;exact Qrx (l:=(List.range lb).map λd=>gW mo f lb d a (mo (rdW la lb e a))) (gi (List.mem_range.2 g)) h
theorem Qt7{n B G:Nat}{a0 b0:List Rat}(C:big<=n)(N:B<4000000000):∀(f m i d:Nat) (a b:List Rat),b.length<=f->f<m->1<=i->1<=d->QR i a->QR d b->a.length<=10->b.length<=10->trimQ a=a->trimQ b=b->Euc a0 b0 a b->(a=[]->b=[]->a0=[]/\b0=[]) ->
 eW id (f+1) a.length b.length i d<=B->gW id (f+1) a.length b.length i d<=G ->
 ∃ g,loopM (grBody n) m (rR a,rR b)=some (rR g)/\Gcd a0 b0 g/\trimQ g=g/\g.length<=10/\QR B g/\(2<=g.length->QR G g)/\(g=[]->a0=[]/\b0=[])
 | f,m,i,d,a,b,U,O,M,v,u,E,la,lb,Q,I,A,P,y,p=>by
   obtain⟨n'',rfl⟩:∃ q,m=q+1:=⟨m - 1,om⟩
   by_cases g:b=[]
   subst g;refine⟨a,Qbk ?_ om,Q0u A,Q,la,Qy u (eW_le y).1,λh=>?_,λh=>P h rfl⟩;unfold grBody;simp only[];rw[Q9,oq oz,bifF];unfold gW at p;rw[oj oa,oi om] at p;exact Qy u p;have j:1<=b.length:=by cases b with | nil=>exact absurd rfl g | cons x t=>simp
   obtain⟨f,rfl⟩:∃ q,f=q+1:=⟨f - 1,om⟩
   have hlast:=Vb I g;have l:=Qs2 (a:=a) hlast j;obtain⟨s1,F⟩:=Q3g y l;have H:=Q3h p l;unfold id at s1 F H;obtain⟨J,R,K,S,L,T⟩:=Qh4 (n:=n) (k:=d) (w:=i) (B:=rdW a.length b.length i d) (a:=a) (b:=b) C om hlast j lb la v M E u (ol _);have r:grBody n (rR a,rR b)=some (.go (rR b,rR (remP a b))):=by unfold grBody;simp only[];rw[Q9,ot om,bifT,J,sbind];rfl
   rw[Qgb r];have s:1<=rdW a.length b.length i d:=by unfold rdW;have:=ow (i+2*d+2) (Xx (a.length+1 - b.length));omega
   exact Qt7 C N f n'' d _ b (remP a b) om om v s E L lb K I (Qo4 _ _) (Qwo A) (λe _=>absurd e g) F H
 termination_by f=>f
theorem Qs6{n K B G:Nat}{a b:List Rat}(d:big<=n)(R:B<4000000000)(C:1<=K)(S:1<=G)(X:QR K a)(Y:QR K b)(H:trimQ a=a)(I:trimQ b=b)(v:b≠[])(la:a.length<=10)(lb:b.length<=10)
 (E:eW id (b.length+1) a.length b.length K K<=B) (U:gW id (b.length+1) a.length b.length K K<=G) :
 ∃ g,Yr n (rR a) (rR b)=some (rR g)/\Gcd a b g/\trimQ g=g/\g.length<=10/\QR (2*G+1) g/\g≠[]/\lastQ g≠0:=by
 obtain⟨g,J,L,M,N,A,O,P⟩:=Qt7 (n:=n) (B:=B) (G:=G) (a0:=a) (b0:=b) d R b.length n K K a b (ol _) (by unfold big at d;omega) C C X Y la lb H I (Qwn a b) (λQ r=>⟨Q,r⟩) E U;have j:g≠[]:=λh=>v (P h).2;have hlast:=Vb M j;have V:1<=g.length:=by cases g with | nil=>exact absurd rfl j | cons x t=>simp
 have W:qw (lastQ g)<=B:=Jf A (by have:=(eW_le E).1;omega);have s:qw (1 / lastQ g)<=1+B:=Qcq (by rw[Xw];exact ol _) W;have u:∀ x,evP (scaP (1 / lastQ g) g) x=1 / lastQ g*evP g x:=λx=>Qbe _ _ x;have T:1 / lastQ g≠0:=λh=>by have:=uo (a:=1) hlast;rw[h] at this;grind
 have p:trimQ (scaP (1 / lastQ g) g)=scaP (1 / lastQ g) g:=K1 _
 have m:scaP (1 / lastQ g) g≠[]:=λh=>by
  have F:(scaP (1 / lastQ g) g).getD (g.length - 1) 0=0:=by rw[h];rfl
  rw[Qb9] at F;have:(1 / lastQ g)*lastQ g=0:=F;rw[uo hlast] at this;exact absurd this oz
 refine⟨scaP (1 / lastQ g) g,?_,Q3f L T u,p,xn (Qb4 _ _) N,?_,m,Vb p m⟩;unfold Yr;rw[We d om,sbind,We d om,sbind,H,I];have e:loopM (grBody n) n (rR a,rR b)=_:=J;unfold grBody at e;rw[e,sbind,Q9,oq om,bifF,Qdb d,sbind,w64 om om,show((g.length:Int) - 1)=((g.length - 1:Nat):Int) by omega,Jm (Qjn om),sbind,show g.getD (g.length - 1) 0=lastQ g from rfl,Qel (k:=1+B) d om (by rw[Xw];omega) om,sbind,Qcg (k:=1+B) d om s (Qy A om) om,sbind];by_cases r:2<=g.length;have q2:=O r;have y:qw (lastQ g)<=G:=Jf q2 S;have f:qw (1 / lastQ g)<=1+G:=Qcq (by rw[Xw];exact ol _) y;exact Qy (Qb5 f q2) om;obtain⟨x,w⟩:=wu.1 (show g.length=1 by omega);refine Qhe λi=>?_;rw[Qb9];cases i with
 | zero=>
   have e:g.getD 0 0=lastQ g:=by rw[w];rfl
   rw[e,uo hlast,Xw];omega
 | succ i=>
   rw[Yw (l:=g) om,gh];have:=Jf (l:=[]) (i:=0) (k:=1) (λq h=>by cases h) (ol _);exact xn this om
set_option maxRecDepth 100000
theorem Qh6(a b:List Rat):(mulP a b).length<=a.length+b.length - 1:=by refine xn (show(mulP a b).length<=(trimQ (mulP a b)).length by unfold mulP;rw[K1];exact ol _) (Qge λi hi=>?_);rw[Qo0];unfold cvT;refine Qgf λj d=>?_;split;rw[Yw (l:=b) om];grind;rfl
theorem stD_w{b:List Rat}{z:List Rat×List Rat}{k w:Nat}(hk:1<=k)(f:1<=w)(a:QR k b)(g:QR w z.2):QR (2*w+2*k+1) (stD b z).2/\qw (lastQ z.2 / lastQ b)<=w+k:=by have e:qw (lastQ z.2 / lastQ b)<=w+k:=Qcq (Jf g f) (Jf a hk);refine⟨Qhe λi=>?_,e⟩;unfold stD;rw[Qkw];have n:=Qo1 (k:=w+k) (j:=k) (d:=z.2.length - b.length) (c:=lastQ z.2 / lastQ b) hk e a;have l:=Jf (i:=i) g f;have m:=Jf (i:=i) n om;have:=Qwc l m;omega
theorem Q0v{b:List Rat}{k:Nat}(hk:1<=k)(d:QR k b):∀(m:Nat) (z:List Rat×List Rat) (w:Nat),1<=w->QR w z.2->QR (2 ^ m*(w+2*k+2)) (divP b m z).2
 | 0,z,w,e,a=>Qy a (by rw[Nat.pow_zero];omega)
 | m+1,z,w,e,a=>by unfold divP;have f:=Xx m;split;refine Qy (Q0v hk d m (stD b z) (2*w+2*k+1) om (stD_w hk e d a).1) ?_;rw[vh,xt];exact ym _ om;refine Qy a ?_;have:=ow (w+2*k+2) (Xx (m+1));omega
theorem Q0w{b:List Rat}{k C:Nat}(hk:1<=k)(l:QR k b)(d:lastQ b≠0)(n:1<=b.length):∀(m:Nat) (z:List Rat×List Rat) (w:Nat),1<=w->QR w z.2->(∀ i,qw (z.1.getD i 0)<=C)->(∀ i,i+b.length<=z.2.length->z.1.getD i 0=0)->2 ^ m*(w+2*k+2)<=C->∀ i,qw ((divP b m z).1.getD i 0)<=C
 | 0,z,w,p,q,e,h0,j=>e
 | m+1,z,w,p,q,e,h0,j=>by
   unfold divP;have s:=Xx m;split;rename_i g;obtain⟨s1,v⟩:=stD_w hk p l q;have r:=Qo2 d n g;have f:2 ^ m*(2*w+2*k+1+2*k+2)<=C:=by refine xn ?_ j;rw[vh,xt];exact ym _ om
   have u:w+k<=C:=by have:=ow (2*w+2*k+1+2*k+2) s;omega
   have a:∀ i,(stD b z).1.getD i 0=z.1.getD i 0+if i=z.2.length - b.length then lastQ z.2 / lastQ b else 0:=λi=>by unfold stD;rw[Qkv,Qil]
   refine Q0w hk l d n m (stD b z) (2*w+2*k+1) om s1 (λi=>?_) (λi hi=>?_) f;rw[a i];by_cases h:i=z.2.length - b.length;rw[oj h,h0 i om,Rat.zero_add];omega;rw[oi h,vt];exact e i;rw[a i,oi om,h0 i om];grind;exact e
theorem rem_w{a b:List Rat}{k w:Nat}(hk:1<=k)(f:1<=w)(d:QR w a)(e:QR k b):QR (rdW a.length b.length w k) (remP a b):=Q0v hk e _ _ w f (V9 d)
theorem quo_w{a b:List Rat}{k w:Nat}(hk:1<=k)(j:1<=w)(e:QR w a)(f:QR k b)(d:lastQ b≠0)(g:1<=b.length):QR (rdW a.length b.length w k) (divP b (a.length+1 - b.length) ([],trimQ a)).1:=
 Qhe (Q0w hk f d g _ _ w j (V9 e) (λi=>by
  have:=Jf (l:=[]) (i:=i) (k:=1) (λq h=>by cases h) (ol _);have m:=ow (w+2*k+2) (Xx (a.length+1 - b.length))
  exact xn this (by unfold rdW;omega)) (λi _=>rfl) (ol _))
theorem Qmn{b:List Rat}(a:lastQ b≠0)(d:1<=b.length):∀(m:Nat) (z:List Rat×List Rat) (L:Nat),z.1.length<=L->z.2.length+1<=L+b.length->(divP b m z).1.length<=L
 | 0,z,L,h,_=>h
 | m+1,z,L,h,f=>by unfold divP;split;rename_i g;have e:=Qo2 a d g;refine Qmn a d m (stD b z) L ?_ om;have:=Qsz z.1 (monP (z.2.length - b.length) (lastQ z.2 / lastQ b));rw[Qh3] at this;unfold stD;simp only[];omega;exact h
theorem Q0x{l:List Rat}(a:l≠[])(x:Rat):evP (mncP l) x=1 / lastQ l*evP l x:=by unfold mncP;rw[oi a,Qbe]
theorem mnc_w{l:List Rat}{k:Nat}(hk:1<=k)(h:QR k l):QR (2*k+1) (mncP l):=by unfold mncP;split;intro q a;cases a;exact Qy (Qb5 (Qcq (by rw[Xw];exact ol _) (Jf h hk)) h) om
theorem Q44(l:List Rat):(mncP l).length<=l.length:=by unfold mncP;split;simp;exact Qb4 _ _
theorem Qmo{c:Rat}(h:c≠0):1 / c≠0:=λe=>by have:=uo (a:=1) h;rw[e] at this;grind
theorem Qgh{l:List Rat}(e:trimQ l=l):(mncP l).length=l.length:=by
 by_cases h:l=[]
 subst h;rfl;have d:=Vb e h;have g:1<=l.length:=by cases l with | nil=>exact absurd rfl h | cons x t=>simp
 have f:(mncP l).getD (l.length - 1) 0≠0:=by unfold mncP;rw[oi h,Qb9];show 1 / lastQ l*lastQ l≠0;rw[uo d];decide
 have:=Q44 l;rcases xx (l.length - 1) (mncP l).length with a | a;omega;exact absurd (Yw a) f
theorem Qnq{l:List Rat}(d:trimQ l=l)(a:l≠[]):lastQ (mncP l)=1:=by have e:=Vb d a;unfold lastQ;rw[Qgh d];unfold mncP;rw[oi a,Qb9];exact uo e
theorem Q12{l:List Rat}(d:trimQ l=l)(a:lastQ l=1):mncP l=l:=by
 unfold mncP;split;rename_i e;rw[e];rw[a];have:trimQ (scaP (1 / 1) l)=trimQ l:=Qh5 λi=>by rw[Qb9,show(1:Rat) / 1=1 by grind];grind
 rw[Qt5,d] at this;exact this
theorem one_w{l:List Rat}(d:l.length=1)(a:lastQ l=1):QR 1 l:=by obtain⟨x,rfl⟩:=wu.1 d;intro q e;rw[gq.1 e];have:x=1:=a;rw[this,Xw];exact ol _
def mW(la lb a d:Nat):Nat:=if la<lb then a else 2*rdW la lb a d+1
def eP:Nat->Nat->Nat->Nat->Nat->Nat
 | 0,_,_,d,a=>max d a
 | f+1,la,lb,d,a=>if lb=0 then max d a else max (max d a) (max (max (mW la lb d a) (rdW la lb d a)) (mxL ((List.range lb).map λe=>eP f lb e a (if e<=1 then 1 else mW la lb d a))))
def gP:Nat->Nat->Nat->Nat->Nat->Nat
 | 0,_,_,a,d=>max a d
 | f+1,la,lb,a,d=>if lb=0 then a else mxL ((List.range lb).map λe=>gP f lb e d (if e<=1 then 1 else mW la lb a d))
theorem eP_le{f la lb a d B:Nat}(h:eP f la lb a d<=B):a<=B/\d<=B:=by
 cases f with
 | zero=>unfold eP at h;omega
 | succ f=>unfold eP at h;split at h<;>omega
theorem Q3i{f la lb e a B d:Nat}(h:eP (f+1) la lb e a<=B)(g:d<lb):mW la lb e a<=B/\rdW la lb e a<=B/\eP f lb d a (if d<=1 then 1 else mW la lb e a)<=B:=by unfold eP at h;rw[oi om] at h;refine⟨om,om,Qrx (l:=(List.range lb).map λd=>eP f lb d a (if d<=1 then 1 else mW la lb e a)) (gi (List.mem_range.2 g)) om⟩
theorem Q3j{f la lb e d B a:Nat}(h:gP (f+1) la lb e d<=B)(g:a<lb):gP f lb a d (if a<=1 then 1 else mW la lb e d)<=B:=by unfold gP at h;rw[oi om] at h;exact Qrx (l:=(List.range lb).map λa=>gP f lb a d (if a<=1 then 1 else mW la lb e d)) (gi (List.mem_range.2 g)) h
def pgBody(n:Nat):List Qc×List Qc->Option (Lp (List Qc×List Qc) (List Qc)):=λ(a:(List Qc)×(List Qc))=>
    bif decide ((0:Int)<(a.2.length:Int)) then (
     (Qa9 n a.1 a.2).bind λd=>
     (Zv n d.2.1).bind λe=>
     some (Lp.go (a.2,e)))
    else (
     some (Lp.out a.1))
theorem Qlt{l:List Rat}(a:trimQ l=l):mncP l=[]↔l=[]:=by constructor;intro h;have:=Qgh a;rw[h] at this;exact xd this.symm;intro h;rw[h];rfl
theorem Qs7{a0 b0 a b:List Rat}(h:Euc a0 b0 a b)(e:trimQ b=b):Euc a0 b0 a (mncP b):=by
 by_cases d:b=[]
 rw[d];rw[d] at h;exact h;exact Qs4 h (c:=1) oz (Qmo (Vb e d)) (λx=>by grind) (λx=>Q0x d x)
theorem Qwq{n B G:Nat}{a0 b0:List Rat}(H:big<=n)(U:B<4000000000):∀(f u i d:Nat) (a b:List Rat),b.length<=f->f<u->1<=i->1<=d->QR i a->QR d b->a.length<=10->b.length<=10->trimQ a=a->trimQ b=b->(a≠[]->lastQ a=1)->(b≠[]->lastQ b=1)->Euc a0 b0 a b->(a=[]->b=[]->b0=[]) ->
 eP (f+1) a.length b.length i d<=B->gP (f+1) a.length b.length i d<=G ->
 ∃ g,loopM (pgBody n) u (toR a,toR b)=some (toR g)/\Gcd a0 b0 g/\trimQ g=g/\g.length<=10/\QR B g/\QR G g/\(g≠[]->lastQ g=1)/\(g=[]->b0=[])
 | f,u,i,d,a,b,hf,V,L,E,v,K,la,lb,y,A,O,Z,N,Y,M,C=>by
   obtain⟨n'',rfl⟩:∃ q,u=q+1:=⟨u - 1,om⟩
   by_cases g:b=[]
   subst g;refine⟨a,Qbk ?_ om,Q0u N,y,la,Qy v (eP_le M).1,?_,O,λh=>Y h rfl⟩;unfold pgBody;simp only[];rw[Q5,oq oz,bifF];unfold gP at C;rw[oj oa] at C;exact Qy v C;have I:1<=b.length:=by cases b with | nil=>exact absurd rfl g | cons x t=>simp
   obtain⟨f,rfl⟩:∃ q,f=q+1:=⟨f - 1,om⟩
   have hlast:=Vb A g;have r:=Qs2 (a:=a) hlast I;obtain⟨s1,s0,R⟩:=Q3i M r;have S:=Q3j C r;have hd:=Qi3 (n:=n) (k:=d) (w:=i) (B:=rdW a.length b.length i d) (x0:=toR a) (x1:=toR b) H om E L (Vo v) (Vo K) (by rw[Q5];exact la) (by rw[Q5];exact lb) (by rw[Jy,A];exact g) (by rw[Jy,Jy,y,A];exact ol _);rw[Jy,Jy,A] at hd;have T:(divP b ((trimQ a).length+1 - b.length) ([],trimQ a)).2=remP a b:=by unfold remP;rw[y]
   rw[T] at hd;have rt:=Qo4 a b;have rw_:=rem_w (k:=d) (w:=i) E L v K;have p:1<=rdW a.length b.length i d:=by unfold rdW;have:=ow (i+2*d+2) (Xx (a.length+1 - b.length));omega
   have F:pgBody n (toR a,toR b)=some (.go (toR b,toR (mncP (remP a b)))):=by unfold pgBody;simp only[];rw[Q5,ot om,bifT,hd,sbind];simp only[];rw[Qhf (k:=rdW a.length b.length i d) H p om rw_ om rt,sbind]
   rw[Qgb F];have P:=Qgh rt;have mt:trimQ (mncP (remP a b))=mncP (remP a b):=Qo6 _;have mm:mncP (remP a b)≠[]->lastQ (mncP (remP a b))=1:=λh=>Qnq rt λe=>h ((Qlt rt).2 e);have Q:QR (if (remP a b).length<=1 then 1 else mW a.length b.length i d) (mncP (remP a b)):=by
    by_cases j:(remP a b).length<=1;rw[oj j];by_cases J:remP a b=[]
    rw[J];intro q W;cases W;have:1<=(remP a b).length:=by cases X:remP a b with | nil=>exact absurd X J | cons x t=>simp
    exact one_w om (Qnq rt J);rw[oi j];unfold mW;by_cases m:a.length<b.length;rw[oj m];have l:remP a b=a:=by unfold remP;rw[show a.length+1 - b.length=0 by omega];exact y
    rw[l,Q12 y (O (by intro e;rw[l,e] at j;simp at j))];exact v;rw[oi m];exact mnc_w p rw_
   have s:1<=(if (remP a b).length<=1 then 1 else mW a.length b.length i d):=by split;exact ol _;unfold mW;split<;>omega
   rw[<-P] at R S;rw[<-P] at Q s;exact Qwq H U f n'' d _ b (mncP (remP a b)) om om E s K Q lb om A mt Z mm (Qs7 (Qwo N) rt) (λe _=>absurd e g) R S
 termination_by f=>f
theorem Qu0{n K B G:Nat}{x y:List Qc}(l:big<=n)(Q:B<4000000000)(i:1<=K)(E:FR K x)(F:FR K y)(U:x.length<=10)(ly:y.length<=10)(j:trimQ (rv y)≠[])
 (u:eP ((trimQ (rv y)).length+1) (trimQ (rv x)).length (trimQ (rv y)).length (2*K+1) (2*K+1)<=B) (w:gP ((trimQ (rv y)).length+1) (trimQ (rv x)).length (trimQ (rv y)).length (2*K+1) (2*K+1)<=G) :
 ∃ g,Qgw n x y=some (toR g)/\Gcd (rv x) (rv y) g/\trimQ g=g/\g.length<=10/\QR G g/\g≠[]/\lastQ g=1:=by
 have m:=K1 (rv x);have f:=K1 (rv y);have la:=Ke (rv x);have lb:=Ke (rv y);rw[Yd] at la lb;have A:QR K (trimQ (rv x)):=V9 (QR_rv E i);have C:QR K (trimQ (rv y)):=V9 (QR_rv F i);have S:=(eP_le u).1;have s:∀ z,evP (rv x) z=evP (trimQ (rv x)) z:=λz=>(W6 _ z).symm;have p:∀ z,evP (rv y) z=evP (trimQ (rv y)) z:=λz=>(W6 _ z).symm;unfold Qgw;rw[Wa (k:=K) l i om E om,sbind,Qhf (k:=K) l i om A om m,sbind,Wa (k:=K) l i om F om,sbind,Qhf (k:=K) l i om C om f,sbind];generalize trimQ (rv x)=a at *;generalize trimQ (rv y)=b at *;rw[<-Qgh m,<-Qgh f] at u w;have R:Euc (rv x) (rv y) (mncP a) (mncP b):=by
  have h0:Euc (rv x) (rv y) a b:=Qs4 (Qwn (rv x) (rv y)) (c:=1) (d:=1) oz oz (λz=>by rw[s z];grind) (λz=>by rw[p z];grind);by_cases r:a=[]
  rw[r];rw[r] at h0;exact Qs7 h0 f;exact Qs7 (Qs4 h0 (c:=1 / lastQ a) (d:=1) (Qmo (Vb m r)) oz (λz=>Q0x r z) (λz=>by grind)) f
 have v:mncP b≠[]:=λh=>j ((Qlt f).1 h);obtain⟨g,H,I,J,L,T,M,N,O⟩:=Qwq (n:=n) (B:=B) (G:=G) (a0:=rv x) (b0:=rv y) l Q (mncP b).length n (2*K+1) (2*K+1) (mncP a) (mncP b) (ol _) (by rw[Qgh f];unfold big at l;omega) om om (mnc_w i A) (mnc_w i C) (by rw[Qgh m];omega) (by rw[Qgh f];omega) (Qo6 _) (Qo6 _) (λh=>Qnq m λe=>h ((Qlt m).2 e)) (λ_=>Qnq f j) R (λ_ h=>absurd h v) u w
 have q:g≠[]:=λh=>by
  have P:=O h;have z:∀ z,evP b z=0:=λz=>by rw[<-p z,P];rfl
  exact j (Qql f z)
 have e:loopM (pgBody n) n (toR (mncP a),toR (mncP b))=_:=H;unfold pgBody at e;rw[e,sbind];exact⟨g,rfl,I,J,L,M,q,N q⟩
set_option maxRecDepth 100000
def dvP:List Rat->Rat->Rat
 | [],_=>0
 | _::l,x=>evP l x+x*dvP l x
theorem Qs8:∀ {l:List Rat},(∀ i,l.getD i 0=0)->∀ x,dvP l x=0
 | [],_,_=>rfl
 | c::l,h,x=>by
   have a:∀ i,l.getD i 0=0:=λi=>by have:=h (i+1);simpa using this
   unfold dvP;rw[Qgg a x,Qs8 a x];grind
theorem Q0y:∀ {l l':List Rat},(∀ i,l.getD i 0=l'.getD i 0)->∀ x,dvP l x=dvP l' x
 | [],l',h,x=>by rw[Qs8 (l:=l') (λi=>by have:=h i;simpa using this.symm) x];rfl
 | c::l,[],h,x=>by rw[Qs8 (l:=c::l) (λi=>by have:=h i;simpa using this) x];rfl
 | c::l,d::l',h,x=>by
   have a:∀ i,l.getD i 0=l'.getD i 0:=λi=>by have:=h (i+1);simpa using this
   unfold dvP;rw[Qj6 a x,Q0y a x]
theorem Qyc:∀(a b:List Rat) (x:Rat),dvP (addL a b) x=dvP a x+dvP b x
 | [],b,x=>by simp only[addL,dvP];grind
 | a::d,[],x=>by simp only[addL,dvP];grind
 | a::d,b::e,x=>by simp only[addL,dvP,Qpi,Qyc d e x];grind
theorem Q0z(c:Rat):∀(a:List Rat) (x:Rat),dvP (scL c a) x=c*dvP a x
 | [],x=>by simp only[scL,dvP];grind
 | a::d,x=>by simp only[scL,dvP,Qrv,Q0z c d x];grind
theorem Qs9:∀(a b:List Rat) (x:Rat),dvP (mulL a b) x=dvP a x*evP b x+evP a x*dvP b x
 | [],b,x=>by simp only[mulL,dvP,evP];grind
 | c::d,b,x=>by simp only[mulL,Qyc,Q0z,dvP,evP,Qjo,Qs9 d b x];grind
theorem Qzc{a b:List Rat}(h:∀ x,evP a x=evP b x)(i:Nat):a.getD i 0=b.getD i 0:=by
 have z:∀ i,(subP a b).getD i 0=0:=Qp8 λx=>by rw[Qj7,h x];grind
 have:=z i;rw[Qkw] at this;grind
theorem Q3k{U D u d:List Rat}(h:∀ x,evP U x*evP d x=evP u x*evP D x)(x:Rat):
 (dvP U x*evP D x - evP U x*dvP D x)*(evP d x*evP d x)=(dvP u x*evP d x - evP u x*dvP d x)*(evP D x*evP D x):=by
 have e:dvP (mulL U d) x=dvP (mulL u D) x:=Q0y (Qzc λy=>by rw[Qjo,Qjo,h y]) x;rw[Qs9,Qs9] at e;have h0:=h x;generalize evP U x=p at *;generalize evP D x=q at *;generalize evP u x=r at *;generalize evP d x=s at *;generalize dvP U x=p' at *;generalize dvP D x=q' at *;generalize dvP u x=r' at *;generalize dvP d x=s' at *;have a:p'*s=r'*q+r*q' - p*s':=by grind
 have f:(p'*q - p*q')*(s*s)=(p'*s)*(q*s) - (p*s)*(q'*s):=by grind
 rw[f,a,h0];have g:(r'*q+r*q' - p*s')*(q*s) - r*q*(q'*s)=r'*q*q*s - (p*s)*(s'*q):=by grind
 rw[g,h0];grind
def drvP(l:List Rat):List Rat:=trimQ (coefs (l.length - 1) λi=>((i+1:Nat):Rat)*l.getD (i+1) 0)
theorem Qnr(l:List Rat):(drvP l).length<=l.length - 1:=by have:=Ke (coefs (l.length - 1) λi=>((i+1:Nat):Rat)*l.getD (i+1) 0);rw[Kn] at this;exact this
def drvL:Nat->List Rat->List Rat
 | _,[]=>[]
 | k,c::l=>((k:Nat):Rat)*c::drvL (k+1) l
theorem Qt8:∀(l:List Rat) (k i:Nat),(drvL k l).getD i 0=((k+i:Nat):Rat)*l.getD i 0
 | [],k,i=>by simp only[drvL,List.getD_nil];grind
 | c::l,k,0=>by simp[drvL]
 | c::l,k,i+1=>by have:=Qt8 l (k+1) i;rw[drvL,um,um,this,show k+1+i=k+(i+1) by omega]
theorem Qyd:∀(l:List Rat) (k:Nat) (x:Rat),evP (drvL k l) x=(k:Rat)*evP l x+x*dvP l x
 | [],k,x=>by simp only[drvL,evP,dvP];grind
 | c::l,k,x=>by simp only[drvL,evP,dvP,Qyd l (k+1) x];rw[show((k+1:Nat):Rat)=(k:Rat)+1 by push_cast;rfl];grind
theorem Qry(l:List Rat)(x:Rat):evP (drvP l) x=dvP l x:=by
 cases l with
 | nil=>rfl
 | cons c l=>
   have e:evP (drvP (c::l)) x=evP (drvL 1 l) x:=Qj6 (λi=>by
    unfold drvP;rw[Zc,Qcf,Qt8];by_cases h:i<(c::l).length - 1;rw[oj h,um,show 1+i=i+1 by omega]
    rw[oi h,Yw (l:=l) (by simp at h;omega)];grind) x
   rw[e,Qyd];show((1:Nat):Rat)*evP l x+x*dvP l x=evP l x+x*dvP l x;rw[show((1:Nat):Rat)=1 from rfl];grind
theorem Qrz{m:Nat}(h:m<4294967296):qw (m:Rat)<=1:=by unfold qw;rw[show((m:Nat):Rat)=(((m:Nat):Int):Rat) from rfl,Rat.num_intCast,Rat.den_intCast,toL1];have:(toL ((m:Int)).natAbs).length<=1:=Qad (by rw[Jz,Xc];omega);omega
theorem Qr0{k:Nat}{l:List Rat}(hk:1<=k)(e:l.length<=1000)(h:QR k l):QR (k+1) (drvP l):=V9 (Qfz λi hi=>by
 have a:=Jf (i:=i+1) h hk;have d:qw ((i+1:Nat):Rat)<=1:=Qrz om;have:=Qb2 d a
 omega)
def dgBody(n:Nat)(x0:List Qc):Int->Option (Lp Int (Lp Unit Int)):=λ(a:Int)=>
    bif decide ((0:Int)<=a) then (
     (getI x0 a).bind λe=>
     (Yy n e).bind λd=>
     bif !decide (d=(0:Int)) then (
      some (Lp.out (Lp.out (a))))
     else (
      some (Lp.go (wrap64 (a - (1:Int))))))
    else (
     some (Lp.out (Lp.go ())))
theorem rv_gD{x:List Qc}{i:Nat}{f:Qc}(h:x[i]?=some f):(rv x).getD i 0=fv f:=by unfold rv;rw[ov,xi,h];rfl
theorem Qwr{n k:Nat}{x:List Qc}(w:big<=n)(s:1<=k)(hk:k<1099511627776)(y:FR k x)(B:x.length<=1000):∀(j d:Nat),j<=x.length->j<d->(∀ i,j<=i->(rv x).getD i 0=0) ->
 loopM (dgBody n x) d ((j:Int) - 1)=some (if trimQ (rv x)=[] then Lp.go () else Lp.out (((trimQ (rv x)).length:Int) - 1))
 | 0,d,A,f,h0=>by have C:trimQ (rv x)=[]:=xd (by have:=Qge (l:=rv x) (m:=0) (λi _=>h0 i (xg _));omega);rw[oj C];exact Qbk (by unfold dgBody;rw[oq om,bifF]) f
 | j+1,d,A,f,h0=>by
   obtain⟨d,rfl⟩:∃ q,d=q+1:=⟨d - 1,om⟩
   have g:x[j]?=some x[j]:=oo om;have v:=rv_gD g;have hbody:dgBody n x (((j+1:Nat):Int) - 1)=bif !decide ((fv x[j]).num.sign=(0:Int)) then some (Lp.out (Lp.out ((j:Int)))) else some (Lp.go ((j:Int) - 1)):=by unfold dgBody;rw[ot om,bifT,show((j+1:Nat):Int) - 1=(j:Int) by omega,Jm g,sbind,Qei w s hk (y _ (ve _)),sbind,w64 om om]
   by_cases p:fv x[j]=0;rw[p,show((0:Rat)).num.sign=0 from rfl,ot rfl,yj,bifF] at hbody;rw[Qgb hbody]
   exact Qwr w s hk y B j d om om λi hi=>by by_cases e:i=j;rw[e,v,p];exact h0 i om
   have r:(fv x[j]).num.sign≠0:=λe=>p (by have:=gc.1 e;exact Rat.num_eq_zero.1 this);rw[oq r,uc,bifT] at hbody;have a:(trimQ (rv x)).length=j+1:=by have E:=Qge (l:=rv x) (m:=j+1) h0;rcases xx j (trimQ (rv x)).length with u | u;omega;have:=Qbd (rv x) j u;rw[v] at this;exact absurd this p
   rw[Qbk hbody om,oi (by intro e;rw[e] at a;simp at a),a];congr 2;omega
theorem Qj9{n k:Nat}{x:List Qc}(a:big<=n)(d:1<=k)(hk:k<1099511627776)(g:FR k x)(f:x.length<=1000):Xn n x=some (((trimQ (rv x)).length:Int) - 1):=by
 unfold Xn;have e:=Qwr a d hk g f x.length n (ol _) (by unfold big at a;omega) λi hi=>Yw (by rw[Yd];omega);unfold dgBody at e;rw[w64 om om,e,sbind];by_cases h:trimQ (rv x)=[]
 rw[oj h,Vy,h];rfl;rw[oi h,Qc3]
theorem Qmp{n k w:Nat}{x:List Qc}{s:Qc}(i:big<=n)(P:1<=k)(S:1<=w)(V:(x.length+1)*(k+w+1)<1099511627776)(T:FR k x)(K:Fk w s)(W:x.length<=1000):
 Qc1 n x s=some (toF (evP (rv x) (fv s)))/\qw (evP (rv x) (fv s))<=1+x.length*(k+w+1):=by
 have key:∀(j d:Nat),j<=x.length->j<d->qw (evP ((rv x).drop j) (fv s))<=1+(x.length - j)*(k+w+1) ->
  loopM (λ(a:Qc×Int)=>
   bif decide ((0:Int)<=a.2) then (
    (Yf n a.1 s).bind λE=>
    (getI x a.2).bind λG=>
    (Y3 n E G).bind λF=>
    some (Lp.go (F,wrap64 (a.2 - (1:Int)))))
   else (
    some (Lp.out a.1))) d (toF (evP ((rv x).drop j) (fv s)),(j:Int) - 1)=some (toF (evP (rv x) (fv s)))/\qw (evP (rv x) (fv s))<=1+x.length*(k+w+1):=by
  intro j
  induction j with
  | zero=>
    intro d Q g m;rw[List.drop_zero] at m |-;exact⟨Qbk (by rw[oq (by show ¬(0:Int)<=((0:Nat):Int) - 1;omega),bifF]) g,m⟩
  | succ j U=>
    intro d Q g m;obtain⟨d,rfl⟩:∃ q,d=q+1:=⟨d - 1,om⟩
    have B:x[j]?=some x[j]:=oo om;have I:=T _ (ve (l:=x) (n:=j) om);have u:qw (fv x[j])<=k:=qw_fv I P;have y:qw (fv s)<=w:=qw_fv K S;have hd:(rv x).drop j=fv x[j]::(rv x).drop (j+1):=by unfold rv;rw[xz (by rw[xy];omega),List.getElem_map]
    have e:evP ((rv x).drop j) (fv s)=evP ((rv x).drop (j+1)) (fv s)*fv s+fv x[j]:=by rw[hd];show fv x[j]+fv s*evP ((rv x).drop (j+1)) (fv s)=_;generalize evP ((rv x).drop (j+1)) (fv s)=v;grind
    have R:(x.length - (j+1))*(k+w+1)<=x.length*(k+w+1):=ow _ om;have J:(x.length+1)*(k+w+1)=x.length*(k+w+1)+(k+w+1):=by rw[wq,wt]
    have f:=Qb2 m y;have H:=Qj4 f u;have A:(1+(x.length - j)*(k+w+1))=1+(x.length - (j+1))*(k+w+1)+(k+w+1):=by rw[show x.length - j=(x.length - (j+1))+1 by omega,wq,wt];omega
    have r:qw (evP ((rv x).drop j) (fv s))<=1+(x.length - j)*(k+w+1):=by rw[e,A];omega
    obtain⟨p,C⟩:=U d om om r;refine⟨?_,C⟩;rw[Qgb (s':=(toF (evP ((rv x).drop j) (fv s)),(j:Int) - 1)),p];have c1:Fk (1+(x.length - (j+1))*(k+w+1)+w) (toF (evP ((rv x).drop (j+1)) (fv s))):=Vn om;have M:Fk (1+(x.length - (j+1))*(k+w+1)+w) s:=Z1 K om;have N:Fk (1+(x.length - (j+1))*(k+w+1)+w+k) (toF (evP ((rv x).drop (j+1)) (fv s)*fv s)):=Vn om;have O:Fk (1+(x.length - (j+1))*(k+w+1)+w+k) x[j]:=Z1 I om;rw[ot (by show(0:Int)<=((j+1:Nat):Int) - 1;omega),bifT];simp only[];rw[Qcn (k:=1+(x.length - (j+1))*(k+w+1)+w) i om om c1 M,sbind,show((j+1:Nat):Int) - 1=(j:Int) by omega,Jm B,sbind,K5,Qiz (k:=1+(x.length - (j+1))*(k+w+1)+w+k) i om om N O,sbind,K5,w64 om om,<-e]
 unfold Qc1;have L:evP ((rv x).drop x.length) (fv s)=0:=by rw[List.drop_eq_nil_of_le (by rw[Yd];exact ol _)];rfl
 obtain⟨p,C⟩:=key x.length n (ol _) (by unfold big at i;omega) (by rw[L,Qaz];omega);rw[L] at p;refine⟨?_,C⟩;rw[Qhw i,sbind,w64 om om,p,sbind]
set_option maxRecDepth 100000
theorem Qmq{n k:Nat}{x:List Qc}(e:big<=n)(d:1<=k)(hk:k<100000000000)(f:FR k x)(j:x.length<=1000):Qc2 n x=some (toR (drvP (rv x))):=by
 unfold Qc2;rw[Yk (s:=([],1)) (λi=>(toR (coefs i λi=>((i+1:Nat):Rat)*(rv x).getD (i+1) 0),((i+1:Nat):Int))) (x.length - 1) (toR (coefs (x.length - 1) λi=>((i+1:Nat):Rat)*(rv x).getD (i+1) 0)) (λi hi=>?_) (by simp only[];rw[oq om,bifF]) (by unfold big at e;omega) rfl];rw[Wa (k:=k+1) e om om (Vo (Qfz λi hi=>?_)) (by rw[Q5,Kn];omega),sbind,Jy];unfold drvP;rw[Yd];have:=Qb2 (Qrz (m:=i+1) om) (Jf (i:=i+1) (QR_rv f d) d);omega;have a:x[i+1]?=some x[i+1]:=oo om;have g:=f _ (ve (l:=x) (n:=i+1) om);simp only[]
 rw[ot om,bifT,Qha e om om,sbind,Jm a,sbind,show(((i+1:Nat):Int):Rat)=((i+1:Nat):Rat) from rfl,Qcn (k:=k) e d om (Vn (xn (Qrz (m:=i+1) om) d)) g,sbind,K5,
  W5 (by rw[Q5,Kn];simp;omega) (by rw[Q5,Kn];simp;omega),sbind,w1 om,Qjh,rv_gD a]
 unfold toR;rw[yx];rfl
theorem Q3l{a b g:List Rat}(h:Gcd a b g)(d:∀ x,evP g x=1):NFo a b a b:=Qwp h ⟨0,by rw[d];decide⟩ (λx=>by rw[d];grind) (λx=>by rw[d];grind)
theorem Q45{g:List Rat}(d:g.length=1)(a:lastQ g=1)(x:Rat):evP g x=1:=by obtain⟨c,rfl⟩:=wu.1 d;have:c=1:=a;rw[this];show 1+x*0=1;grind
theorem Qns{l:List Rat}(h:∃ x,evP l x≠0):trimQ l≠[]:=λe=>by obtain⟨x,a⟩:=h;exact a (by rw[<-W6,e];rfl)
theorem Qt9{n C:Nat}{x1 x2:List Qc}{A D:List Rat}(g:big<=n)(e:1<=C)(w:C<40000000000)(q1:FR C x1)(q2:FR C x2)(s:rv x1=A)(l:trimQ (rv x2)=D)(E:x1.length<=20)(l2:x2.length<=20)(u:D≠[]):
 ((Kv n x2).bind λd=>
 (Jn n (1:Int)).bind λm=>
 (getI d (wrap64 ((d.length:Int) - (1:Int)))).bind λr=>
 (Zm n m r).bind λj=>
 (X9 n j.1 x1).bind λp=>
 (X9 n j.1 d).bind λq=>
 some (⟨p,q⟩:Qf))=some ⟨toR (scaP (1 / lastQ D) A),toR (scaP (1 / lastQ D) D)⟩/\QR (2*C+1) (scaP (1 / lastQ D) A)/\QR (2*C+1) (scaP (1 / lastQ D) D):=by
 have tD:trimQ D=D:=by rw[<-l,K1]
 have hlast:=Vb tD u;have qD:QR C D:=by rw[<-l];exact V9 (QR_rv q2 e)
 have qA:QR C A:=by rw[<-s];exact QR_rv q1 e
 have lD:D.length<=20:=by have:=Ke (rv x2);rw[l,Yd] at this;omega
 have lD1:1<=D.length:=by cases D with | nil=>exact absurd rfl u | cons x t=>simp
 have v:qw (lastQ D)<=C:=Jf (i:=D.length - 1) qD e;have a:qw (1 / lastQ D)<=1+C:=Qcq (by rw[Xw];exact ol _) v;refine⟨?_,Qy (Qb5 a qA) om,Qy (Qb5 a qD) om⟩;have B:(toR D)[D.length - 1]?=some (toF (lastQ D)):=by unfold toR lastQ;rw[xi,ov,oo (show D.length - 1<D.length by omega)];rfl
 rw[Wa (k:=C) g e om q2 om,sbind,l,Qcr g,sbind,Q5,w64 om om,show((D.length:Int) - 1)=((D.length - 1:Nat):Int) by omega,Jm B,sbind,
  Qfr (k:=C) g e om (Vn (by rw[Xw];exact e)) (Vn v),sbind,K5,K5,oi hlast]
 simp only[];rw[Qdc (k:=1+C) g om om (Vn a) (λf y=>Z1 (q1 f y) om) om,sbind,K5,s,Qdc (k:=1+C) g om om (Vn a) (Vo (Qy qD om)) (by rw[Q5];omega),sbind,K5,Jy]
theorem Qka{n K B G Q m:Nat}{x y:List Qc}(E:big<=n)(hB:B<4000000000)(r:1<=K)(H:1<=G)(hQ:Q<4000000000)(R:FR K x)(S:FR K y)(lx:x.length<=m)(ly:y.length<=m)(hm:1<=m)(hm10:m<=10)(j:trimQ (rv y)≠[])
 (hb:eP ((trimQ (rv y)).length+1) (trimQ (rv x)).length (trimQ (rv y)).length (2*K+1) (2*K+1)<=B) (hg:gP ((trimQ (rv y)).length+1) (trimQ (rv x)).length (trimQ (rv y)).length (2*K+1) (2*K+1)<=G) (hq:2 ^ (m - 1)*(K+2*G+2)<=Q) :
 ∃ u d,Yg n x y=some ⟨toR u,toR d⟩/\NFo (rv x) (rv y) u d/\(∃ z,evP d z≠0) /\
   ((u.length<=x.length/\d.length<=y.length/\QR (2*K+1) u/\QR (2*K+1) d)\/(u.length<=x.length - 1/\d.length<=y.length - 1/\QR (2*Q+1) u/\QR (2*Q+1) d)):=by
 have hKB:=(eP_le hb).1;obtain⟨g,e1,e2,v,e4,F,O,e7⟩:=Qu0 E hB r R S om om j hb hg;have M:∃ z,evP (rv y) z≠0:=by obtain⟨z,N⟩:=Qa1 (K1 (rv y)) j;exact⟨z,by rw[<-W6];exact N⟩
 have X:=Qa1 v O;have f:1<=g.length:=by cases g with | nil=>exact absurd rfl O | cons x t=>simp
 have fin:∀ {u d:List Rat},NFo (rv x) (rv y) u d->∃ z,evP d z≠0:=λh=>by obtain⟨⟨w,_,hw⟩,_⟩:=h;obtain⟨z,N⟩:=M;exact⟨z,λe=>N (by rw[hw z,e];grind)⟩
 unfold Yg
 rw[e1,sbind,jn_eq,Qj9 (k:=G) E H (by
  have h0:=ow (K+2*G+2) (Xx (m - 1))
  omega) (Vo F) (by rw[Q5];omega),sbind,Jy,v]
 by_cases h1:g.length=1;rw[oq om,bifF];simp only[];have hN:=Q3l e2 (Q45 h1 e7);obtain⟨Y,Z,t3⟩:=Qt9 (n:=n) (C:=K) (x1:=x) (x2:=y) (A:=rv x) (D:=trimQ (rv y)) E r om R S rfl rfl om om j;have W:=Qmo (Vb (K1 (rv y)) j);have i:NFo (rv x) (rv y) (scaP (1 / lastQ (trimQ (rv y))) (rv x)) (scaP (1 / lastQ (trimQ (rv y))) (trimQ (rv y))):=Qs5 hN W (λz=>Qbe _ _ z) (λz=>by rw[Qbe,W6]);refine⟨_,_,Y,i,fin i,.inl ⟨?_,?_,Z,t3⟩⟩;have:=Qb4 (1 / lastQ (trimQ (rv y))) (rv x);rw[Yd] at this;exact this;have:=Qb4 (1 / lastQ (trimQ (rv y))) (trimQ (rv y));have h3:=Ke (rv y);rw[Yd] at h3;omega;rw[ot om,bifT];have hglast:lastQ g≠0:=by rw[e7];decide
 have tx:=Ke (rv x);have ty:=Ke (rv y);rw[Yd] at tx ty
 have P:∀ l:Nat,l<=m->rdW l g.length K G<=Q:=λl hl=>by refine xn ?_ hq;unfold rdW;exact ow _ (vc oz om)
 have I:=Qi3 (n:=n) (k:=G) (w:=K) (B:=Q) (x0:=x) (x1:=toR g) E hQ H r R (Vo F) om (by rw[Q5];exact e4) (by rw[Jy,v];exact O) (by rw[Jy,v];exact P _ om);have J:=Qi3 (n:=n) (k:=G) (w:=K) (B:=Q) (x0:=y) (x1:=toR g) E hQ H r S (Vo F) om (by rw[Q5];exact e4) (by rw[Jy,v];exact O) (by rw[Jy,v];exact P _ om);rw[Jy,v] at I J;rw[I,sbind,J,sbind];simp only[];obtain⟨⟨p,hp⟩,⟨q,L⟩,_⟩:=e2;have dx:=(Qky (a:=trimQ (rv x)) (g:=g) (p:=p) hglast f (λz=>by rw[W6,hp z])).2;have T:=(Qky (a:=trimQ (rv y)) (g:=g) (p:=q) hglast f (λz=>by rw[W6,L z])).2;have wx:=quo_w (a:=trimQ (rv x)) (b:=g) H r (V9 (QR_rv R r)) F hglast f;have wy:=quo_w (a:=trimQ (rv y)) (b:=g) H r (V9 (QR_rv S r)) F hglast f;rw[K1] at dx T wx wy;have lqx:=Qmn (b:=g) hglast f ((trimQ (rv x)).length+1 - g.length) ([],trimQ (rv x)) (x.length - 1) (xg _) (by show(trimQ (rv x)).length+1<=_;omega);have lqy:=Qmn (b:=g) hglast f ((trimQ (rv y)).length+1 - g.length) ([],trimQ (rv y)) (y.length - 1) (xg _) (by show(trimQ (rv y)).length+1<=_;omega);have wx':=Qy wx (P _ om);have wy':=Qy wy (P _ om);generalize (divP g ((trimQ (rv x)).length+1 - g.length) ([],trimQ (rv x))).1=ux at *;generalize (divP g ((trimQ (rv y)).length+1 - g.length) ([],trimQ (rv y))).1=uy at *;have V:1<=Q:=by
  have h0:=ow (K+2*G+2) (Xx (m - 1));omega
 have s:trimQ uy≠[]:=Qns (by
  obtain⟨z,N⟩:=M
  exact⟨z,λe=>N (by have:=T z;rw[e,W6] at this;rw[<-this];grind)⟩)
 obtain⟨Y,Z,t3⟩:=Qt9 (n:=n) (C:=Q) (x1:=toR (trimQ ux)) (x2:=toR (trimQ uy)) (A:=trimQ ux) (D:=trimQ uy) E V om (Vo (V9 wx')) (Vo (V9 wy')) (Jy _) (by rw[Jy,K1]) (by rw[Q5];have:=Ke ux;omega) (by rw[Q5];have:=Ke uy;omega) s;have W:=Qmo (Vb (K1 uy) s);have U:NFo (rv x) (rv y) ux uy:=Qwp ⟨⟨p,hp⟩,⟨q,L⟩,‹_›⟩ X (λz=>by rw[dx z,W6]) (λz=>by rw[T z,W6]);have i:NFo (rv x) (rv y) (scaP (1 / lastQ (trimQ uy)) (trimQ ux)) (scaP (1 / lastQ (trimQ uy)) (trimQ uy)):=Qs5 U W (λz=>by rw[Qbe,W6]) (λz=>by rw[Qbe,W6]);refine⟨_,_,Y,i,fin i,.inr ⟨?_,?_,Z,t3⟩⟩;have:=Qb4 (1 / lastQ (trimQ uy)) (trimQ ux);have:=Ke ux;omega;have:=Qb4 (1 / lastQ (trimQ uy)) (trimQ uy);have:=Ke uy;omega
set_option maxRecDepth 100000
def ptsR(U D:List Rat):List Rat×List Rat:=if trimQ D=[] then ([],[1]) else (U,D)
theorem Qta(U D:List Rat):trimQ (ptsR U D).2≠[]:=by unfold ptsR;split;show trimQ [1]≠[];rw[Qx7 (.inr (show lastQ [1]≠0 from by show(1:Rat)≠0;decide))];simp;assumption
theorem Q00{n K:Nat}{U D:List Qc}(g:big<=n)(d:1<=K)(hk:K<1099511627776)(qU:FR K U)(qD:FR K D)(lU:U.length<=1000)(lD:D.length<=1000):
 ∃ X Y,V4 n ⟨U,D⟩=some (X,Y)/\rv X=(ptsR (rv U) (rv D)).1/\rv Y=(ptsR (rv U) (rv D)).2/\FR K X/\FR K Y/\X.length<=U.length/\Y.length<=max 1 D.length:=by
 unfold V4 ptsR;simp only[];rw[Qj9 g d hk qD lD,sbind];by_cases h:trimQ (rv D)=[]
 rw[oj h,h,ot oz,bifT];unfold Qa7;rw[Qcr g,sbind,sbind];refine⟨[],[toF 1],rfl,rfl,by unfold rv;simp[K5],λf a=>(by cases a),λf a=>?_,xg _,oh⟩;rw[gq.1 a];exact Vn (by rw[Xw];exact d);have i:(trimQ (rv D)).length≠0:=λe=>h (xd e);rw[oi h,oq om,bifF];exact⟨U,D,rfl,rfl,rfl,qU,qD,ol _,om⟩
def valF(u d:List Rat)(s:Rat):Qc×Bool:=if evP d s=0 then (toF 0,false) else (toF (evP u s / evP d s),true)
theorem Qtb{n K B G Q mu md w:Nat}{U D:List Qc}{s:Qc}(i:big<=n)(N:B<4000000000)(y:1<=K)(P:K<4000000000)(O:1<=G)(S:Q<4000000000)(R:K<=Q)(qU:FR K U)(qD:FR K D)(lU:U.length<=mu)(lD:D.length<=md)(W:mu<=md)(V:1<=md)(g:md<=10)
 (T:∀ la,la<=mu->∀ lb,lb<=md->eP (lb+1) la lb (2*K+1) (2*K+1)<=B/\gP (lb+1) la lb (2*K+1) (2*K+1)<=G) (Z:2 ^ (md - 1)*(K+2*G+2)<=Q) (A:Fk w s) (C:1<=w) (hw2:w<1000000) :
 ∃ u d,NFo (ptsR (rv U) (rv D)).1 (ptsR (rv U) (rv D)).2 u d/\Wq n ⟨U,D⟩ s=some (valF u d (fv s)):=by
 obtain⟨X,Y,p1,p2,E,p4,p5,p6,p7⟩:=Q00 (U:=U) (D:=D) i y om qU qD om om;have p:trimQ (rv Y)≠[]:=by rw[E];exact Qta _ _
 have tX:=Ke (rv X);have tY:=Ke (rv Y);rw[Yd] at tX tY;have f:=T (trimQ (rv X)).length om (trimQ (rv Y)).length om;obtain⟨u,d,L,v,_,M⟩:=Qka (m:=md) (Q:=Q) i N y O S p4 p5 om om V g p f.1 f.2 Z;rw[p2,E] at v;have j:u.length<=10/\d.length<=10/\QR (2*Q+1) u/\QR (2*Q+1) d:=by rcases M with ⟨a,b,c,d⟩ | ⟨a,b,c,d⟩;exact⟨om,om,Qy c om,Qy d om⟩;exact⟨om,om,c,d⟩
 obtain⟨q,r,I,J⟩:=j;refine⟨u,d,v,?_⟩
 have e:∀ l:List Rat,l.length<=10->((toR l).length+1)*(2*Q+1+w+1)<1099511627776:=λl hl=>by rw[Q5];have:=ow (2*Q+1+w+1) (show l.length+1<=11 by omega);omega
 obtain⟨F,H⟩:=Qmp (n:=n) (k:=2*Q+1) (w:=w) (x:=toR u) (s:=s) i om C (e u q) (Vo I) A (by rw[Q5];omega);obtain⟨v3,v4⟩:=Qmp (n:=n) (k:=2*Q+1) (w:=w) (x:=toR d) (s:=s) i om C (e d r) (Vo J) A (by rw[Q5];omega);rw[Jy] at F H v3 v4;rw[Q5] at H v4;have g1:=ow (2*Q+1+w+1) q;have g2:=ow (2*Q+1+w+1) r;unfold Wq Qe4;rw[p1,sbind,L,sbind,sbind,F,sbind,v3,sbind,Qfr (k:=1+10*(2*Q+1+w+1)) i om om (Vn om) (Vn om),sbind,K5,K5];rfl
theorem Q13:∀ la,la<=3->∀ lb,lb<=3->eP (lb+1) la lb (2*1+1) (2*1+1)<=761/\gP (lb+1) la lb (2*1+1) (2*1+1)<=45:=ye ox
theorem Q14:∀ la,la<=4->∀ lb,lb<=5->eP (lb+1) la lb (2*28+1) (2*28+1)<=373225/\gP (lb+1) la lb (2*28+1) (2*28+1)<=22633:=ye ox
theorem Q01:∀ la,la<=4->∀ lb,lb<=5->eP (lb+1) la lb (2*57+1) (2*57+1)<=748137/\gP (lb+1) la lb (2*57+1) (2*57+1)<=45369:=ye ox
theorem Q02:∀ la,la<=3->∀ lb,lb<=4->eP (lb+1) la lb (2*1449473+1) (2*1449473+1)<=1136387513/\gP (lb+1) la lb (2*1449473+1) (2*1449473+1)<=69574745:=ye ox
theorem Q15{n:Nat}{U D:List Qc}{s:Qc}(a:big<=n)(qU:FR 1 U)(qD:FR 1 D)(lU:U.length<=3)(lD:D.length<=3)(e:Fk 1 s):
 ∃ u d,NFo (ptsR (rv U) (rv D)).1 (ptsR (rv U) (rv D)).2 u d/\Wq n ⟨U,D⟩ s=some (valF u d (fv s)):=
 Qtb (K:=1) (B:=761) (G:=45) (Q:=372) (mu:=3) (md:=3) (w:=1) a oz (ol _) oz oz oz oz qU qD lU lD (ol _) oz oz Q13 oz e (ol _) oz
def slN(U D:List Rat):List Rat:=subP (mulP (drvP (ptsR U D).1) (ptsR U D).2) (mulP (ptsR U D).1 (drvP (ptsR U D).2))
def slD(U D:List Rat):List Rat:=mulP (ptsR U D).2 (ptsR U D).2
theorem Q03(U D:List Rat):∃ z,evP (slD U D) z≠0:=by obtain⟨z,a⟩:=Qa1 (K1 (ptsR U D).2) (Qta U D);rw[W6] at a;refine⟨z,λe=>?_⟩;unfold slD at e;rw[Qas] at e;rcases uf.1 e with h | h;exact a h;exact a h
theorem Qo7{u d:List Rat}(h:∃ z,evP d z≠0):ptsR u d=(u,d):=by unfold ptsR;rw[oi (Qns h)]
theorem Q16{n:Nat}{U D:List Qc}{s:Qc}(a:big<=n)(qU:FR 1 U)(qD:FR 1 D)(lU:U.length<=3)(lD:D.length<=3)(E:Fk 1 s):
 ∃ u d,NFo (slN (rv U) (rv D)) (slD (rv U) (rv D)) u d/\((Zo n ⟨U,D⟩).bind λR=>Wq n R s)=some (valF u d (fv s)):=by
 obtain⟨X,Y,M,N,F,A,j,Z,p7⟩:=Q00 (U:=U) (D:=D) a (ol 1) oz qU qD om om;have J:(rv X).length<=3:=by rw[Yd];omega
 have L:(rv Y).length<=3:=by rw[Yd];omega
 have qX:QR 1 (rv X):=QR_rv A (ol _);have qY:QR 1 (rv Y):=QR_rv j (ol _);have dX:=Qnr (rv X);have dY:=Qnr (rv Y);have wX:=Qr0 (ol 1) om qX;have wY:=Qr0 (ol 1) om qY;have T:=Qh6 (drvP (rv X)) (rv Y);have V:=Qh6 (rv X) (drvP (rv Y));have W:=Qh6 (rv Y) (rv Y)
 have q1:QR 13 (mulP (drvP (rv X)) (rv Y)):=Qy (Qjm oz oz wX qY) (by have:=ow (1+1+1+1) (show(drvP (rv X)).length<=2 by omega);omega)
 have q2:QR 13 (mulP (rv X) (drvP (rv Y))):=Qy (Qjm oz oz qX wY) (by have:=ow (1+(1+1)+1) J;omega)
 have O:QR 28 (mulP (rv Y) (rv Y)):=Qy (Qjm oz oz qY qY) (by have:=ow (1+1+1) L;omega)
 have r:qw (-1:Rat)<=1:=by rw[Qmc,Xw];exact ol _
 have P:QR 28 (subP (mulP (drvP (rv X)) (rv Y)) (mulP (rv X) (drvP (rv Y)))):=by unfold subP;exact Qy (Qph oz oz q1 (Qb5 r q2)) oz
 have S:=Qx3 (mulP (drvP (rv X)) (rv Y)) (mulP (rv X) (drvP (rv Y)));have eN:slN (rv U) (rv D)=subP (mulP (drvP (rv X)) (rv Y)) (mulP (rv X) (drvP (rv Y))):=by unfold slN;rw[N,F]
 have eD:slD (rv U) (rv D)=mulP (rv Y) (rv Y):=by unfold slD;rw[F]
 have g:trimQ (rv (toR (mulP (rv Y) (rv Y))))≠[]:=by rw[Jy,<-eD];exact Qns (Q03 _ _)
 have tN:=Ke (rv (toR (subP (mulP (drvP (rv X)) (rv Y)) (mulP (rv X) (drvP (rv Y))))));have tD:=Ke (rv (toR (mulP (rv Y) (rv Y))));rw[Jy] at tN tD;have i:=Q14 (trimQ (subP (mulP (drvP (rv X)) (rv Y)) (mulP (rv X) (drvP (rv Y))))).length om (trimQ (mulP (rv Y) (rv Y))).length om
 obtain⟨u,d,H,l,C,I⟩:=Qka (n:=n) (K:=28) (B:=373225) (G:=22633) (Q:=724736) (m:=5) (x:=toR (subP (mulP (drvP (rv X)) (rv Y)) (mulP (rv X) (drvP (rv Y))))) (y:=toR (mulP (rv Y) (rv Y))) a oz oz oz oz (Vo P) (Vo O) (by rw[Q5];omega) (by rw[Q5];omega) oz oz g
  (by rw[Jy,Jy];exact i.1) (by rw[Jy,Jy];exact i.2) oz
 rw[Jy,Jy,<-eN,<-eD] at l;have hd:Zo n ⟨U,D⟩=some ⟨toR u,toR d⟩:=by
  unfold Zo;rw[M,sbind];simp only[]
  rw[Qmq (k:=1) a (ol _) oz A om,sbind,Qi1 (k:=2) a oz oz (Vo (Qy wX oz)) (λf q=>Z1 (j f q) oz) (by rw[Q5];omega) om,sbind,Jy,
   Qmq (k:=1) a (ol _) oz j om,sbind,Qi1 (k:=2) a oz oz (λf q=>Z1 (A f q) oz) (Vo (Qy wY oz)) om (by rw[Q5];omega),sbind,Jy,
   Quz (k:=13) a oz oz (Vo q1) (Vo q2) (by rw[Q5];omega) (by rw[Q5];omega),sbind,Jy,Jy,Qi1 (k:=1) a oz oz j j om om,sbind,H,sbind]
 rw[hd,sbind];rcases I with ⟨a1,a2,a3,a4⟩ | ⟨a1,a2,a3,a4⟩;rw[Q5] at a1 a2;obtain⟨v,w,e,p⟩:=Qtb (n:=n) (U:=toR u) (D:=toR d) (K:=57) (B:=748137) (G:=45369) (Q:=1452752) (mu:=4) (md:=5) (w:=1) (s:=s) a oz oz oz oz oz oz (Vo a3) (Vo a4) (by rw[Q5];omega) (by rw[Q5];omega) oz oz oz Q01 oz E (ol _) oz;rw[Jy,Jy,Qo7 C] at e;exact⟨v,w,Qt6 l e,p⟩;rw[Q5] at a1 a2;obtain⟨v,w,e,p⟩:=Qtb (n:=n) (U:=toR u) (D:=toR d) (K:=1449473) (B:=1136387513) (G:=69574745) (Q:=1124791720) (mu:=3) (md:=4) (w:=1) (s:=s) a oz oz oz oz oz oz (Vo a3) (Vo a4) (by rw[Q5];omega) (by rw[Q5];omega) oz oz oz Q02 oz E (ol _) oz;rw[Jy,Jy,Qo7 C] at e;exact⟨v,w,Qt6 l e,p⟩
set_option maxRecDepth 100000
theorem Qws{D:List Rat}{A:List Rat}(e:∀ z,evP A z=0):NFo A D [] [1]:=by
 have a:∀ z,evP [1] z=1:=λz=>by show 1+z*0=1;grind
 have d:∀ z,evP [] z=0:=λ_=>rfl;refine⟨⟨D,λz=>by rw[e z,d];grind,λz=>by rw[a];grind⟩,λz h=>?_⟩;have:=h.2;rw[a] at this;exact absurd this oz
theorem Q3m{D:List Rat}(h:1<=D.length):(rR D)[D.length - 1]?=some (rF (lastQ D)):=Qjn om
theorem Q04{n K B G Q:Nat}{x:Qi}{U D:List Rat}{mu md:Nat}(i:big<=n)(hB:B<4000000000)(C:1<=K)(hG:1<=G)(hQ:Q<4000000000)(hk:K<1000000000)
 (eU:Q3 n x.Up=some (rR U)) (eD:Q3 n x.Gk=some (rR D)) (qU:QR K U) (qD:QR K D) (lU:U.length<=mu) (lD:D.length<=md) (hmu:mu<=md) (F:1<=md) (hmd:md<=10)
 (hb:∀ la,la<=mu->∀ lb,lb<=md->eW id (lb+1) la lb K K<=B/\gW id (lb+1) la lb K K<=G) (X:2 ^ md*(K+2*(2*G+1)+2)<=Q) :
 ∃ u d,Kg n x=some ⟨rR u,rR d⟩/\NFo (ptsR U D).1 (ptsR U D).2 u d/\(∃ z,evP d z≠0)/\u.length<=mu/\d.length<=md/\QR (2*Q+1) u/\QR (2*Q+1) d:=by
 have tU:=Ke U;have tD:=Ke D;have e1:∀ z,evP [1] z=1:=λz=>by show 1+z*0=1;grind
 have y:QR (2*Q+1) [1]:=λq X=>by rw[gq.1 X,Xw];omega
 unfold Kg;rw[eU,sbind,We i om,sbind,eD,sbind,We i om,sbind,jn_eq,Q9,Q9];have r:Yp n=some (rR [1]):=by unfold Yp;rw[Qdb i,sbind];rfl
 by_cases A:trimQ D=[]
 rw[A,ot oa,bifT];simp only[bifT];rw[r,sbind];refine⟨[],[1],rfl,?_,⟨0,by rw[e1];decide⟩,xg _,F,(λq h=>by cases h),y⟩;unfold ptsR;rw[oj A];exact Qws (λ_=>rfl);have lD1:(trimQ D).length≠0:=λe=>A (xd e);have hp:ptsR U D=(U,D):=by unfold ptsR;rw[oi A]
 rw[oq om,bifF,hp];by_cases S:trimQ U=[]
 rw[S,ot oa];simp only[bifT];rw[r,sbind];refine⟨[],[1],rfl,?_,⟨0,by rw[e1];decide⟩,xg _,F,(λq h=>by cases h),y⟩;exact Qws (λz=>by rw[<-W6,S];rfl);have lU1:(trimQ U).length≠0:=λe=>S (xd e);rw[oq om];simp only[bifF];have ttU:=K1 U;have ttD:=K1 D;have evU:∀ z,evP U z=evP (trimQ U) z:=λz=>(W6 U z).symm;have evD:∀ z,evP D z=evP (trimQ D) z:=λz=>(W6 D z).symm;have qa:QR K (trimQ U):=V9 qU;have qb:QR K (trimQ D):=V9 qD;generalize trimQ U=a at *;generalize trimQ D=b at *;obtain⟨T,V⟩:=hb a.length om b.length om;obtain⟨g,g1,g2,g3,g4,L,g6,m⟩:=Qs6 (n:=n) (K:=K) (B:=B) (G:=G) i hB C hG qa qb ttU ttD A om om T V;have f:1<=g.length:=by cases g with | nil=>exact absurd rfl g6 | cons x t=>simp
 have M:∀ l:Nat,l<=md->rdW l g.length K (2*G+1)<=Q:=λl hl=>by refine xn ?_ X;unfold rdW;exact ow _ (vc oz om)
 obtain⟨⟨p,H⟩,⟨q,I⟩,W⟩:=g2;have dx:=(Qky (a:=a) (g:=g) (p:=p) m f H).2;have N:=(Qky (a:=b) (g:=g) (p:=q) m f I).2;have wx:=Qy (quo_w (a:=a) (b:=g) om C qa L m f) (M _ om);have wy:=Qy (quo_w (a:=b) (b:=g) om C qb L m f) (M _ om);have lqx:=Qmn (b:=g) m f (a.length+1 - g.length) ([],trimQ a) mu (xg _) (by show(trimQ a).length+1<=_;rw[ttU];omega);have lqy:=Qmn (b:=g) m f (b.length+1 - g.length) ([],trimQ b) md (xg _) (by show(trimQ b).length+1<=_;rw[ttD];omega);have m1:=(Qh4 (n:=n) (k:=2*G+1) (w:=K) (B:=Q) (a:=a) (b:=g) i hQ m f g4 om om C L qa (M _ om)).1;have m2:=(Qh4 (n:=n) (k:=2*G+1) (w:=K) (B:=Q) (a:=b) (b:=g) i hQ m f g4 om om C L qb (M _ om)).1;generalize (divP g (a.length+1 - g.length) ([],trimQ a)).1=ux at *;generalize (divP g (b.length+1 - g.length) ([],trimQ b)).1=uy at *;have E:=Qa1 ttD A
 have v:trimQ uy≠[]:=Qns (by
  obtain⟨z,Z⟩:=E
  exact⟨z,λe=>Z (by rw[<-N z,e];grind)⟩)
 have R:1<=Q:=by have h0:=ow (K+2*(2*G+1)+2) (Xx md);omega
 have J:=Vb (K1 uy) v;have ly1:1<=(trimQ uy).length:=by have:(trimQ uy).length≠0:=λe=>v (xd e);omega
 have lq:qw (lastQ (trimQ uy))<=Q:=Jf (V9 wy) R;have j:qw (1 / lastQ (trimQ uy))<=1+Q:=Qcq (by rw[Xw];exact ol _) lq;have lx':=Ke ux;have ly':=Ke uy
 have O:NFo U D ux uy:=Qwp ⟨⟨p,λz=>by rw[evU z,H z]⟩,⟨q,λz=>by rw[evD z,I z]⟩,by
  obtain⟨s,t,hs,ht,Y⟩:=W
  exact⟨s,t,hs,ht,λz=>by rw[Y z,evU z,evD z]⟩⟩ (Qa1 g3 g6) (λz=>by rw[dx z,evU z]) (λz=>by rw[N z,evD z])
 have P:NFo U D (scaP (1 / lastQ (trimQ uy)) (trimQ ux)) (scaP (1 / lastQ (trimQ uy)) (trimQ uy)):=Qs5 O (Qmo J) (λz=>by rw[Qbe,W6]) (λz=>by rw[Qbe,W6]);rw[g1,sbind,m1,sbind,m2,sbind];simp only[]
 rw[Qdb i,sbind,Q9,w64 om om,show(((trimQ uy).length:Int) - 1)=(((trimQ uy).length - 1:Nat):Int) by omega,Jm (Q3m ly1),sbind,Qel (k:=1+Q) i om (by rw[Xw];omega) om,sbind,
  Qcg (k:=1+Q) i om j (Qy (V9 wx) om) om,sbind,Qcg (k:=1+Q) i om j (Qy (V9 wy) om) om,sbind]
 refine⟨_,_,rfl,P,?_,?_,?_,Qy (Qb5 j (V9 wx)) om,Qy (Qb5 j (V9 wy)) om⟩;obtain⟨z,Z⟩:=E;refine⟨z,λe=>Z ?_⟩;rw[Qbe,W6] at e;rcases uf.1 e with e | e;exact absurd e (Qmo J);rw[<-N z,e];grind;have:=Qb4 (1 / lastQ (trimQ uy)) (trimQ ux);omega;have:=Qb4 (1 / lastQ (trimQ uy)) (trimQ uy);omega
theorem Qwt:∀(l:List Rat) (x:Rat),evP l x=sumN (λi=>l.getD i 0*x ^ i) l.length
 | [],x=>rfl
 | c::l,x=>by
   rw[xl,Qku];have a:=Qwt l x;have e:sumN (λj=>(c::l).getD (j+1) 0*x ^ (j+1)) l.length=x*evP l x:=by rw[a,<-Qrs];refine Qnn λj _=>?_;rw[um,Rat.pow_succ];grind
   rw[e];show c+x*evP l x=c*x ^ 0+x*evP l x;rw[Rat.pow_zero];grind
theorem Qr1{x:Rat}{w:Nat}(h:qw x<=w):∀ i,qw (x ^ i)<=1+i*w
 | 0=>by rw[Rat.pow_zero,Xw];omega
 | i+1=>by rw[Rat.pow_succ];have:=Qb2 (Qr1 h i) h;rw[wq,wt];omega
theorem Qkz{n k w:Nat}{l:List Rat}{s:Rat}(a:big<=n)(f:1<=k)(hk:k<10000000000)(v:w<1000)(r:l.length<=10)(g:QR k l)(e:qw s<=w):
 Wv n (rR l) (rF s)=some (rF (evP l s))/\qw (evP l s)<=1+l.length*(k+20000):=by
 have term:∀ i,i<=10->qw (l.getD i 0*s ^ i)<=k+1+10000:=λi hi=>by have:=Qb2 (Jf (i:=i) g f) (Qr1 e i);have J:=wj hi (show w<=1000 by omega);omega
 have sums:∀ i,i<=10->qw (sumN (λi=>l.getD i 0*s ^ i) i)<=1+i*(k+20000):=by
  intro i
  induction i with
  | zero=>intro _;show qw 0<=_;rw[Qaz];omega
  | succ i x=>
    intro hi;have:=Qj4 (x om) (term i om);rw[show sumN (λi=>l.getD i 0*s ^ i) (i+1)=sumN (λi=>l.getD i 0*s ^ i) i+l.getD i 0*s ^ i from rfl,wq,wt];omega
 have m:∀ i,i<=10->i*(k+20000)<=10*(k+20000):=λi hi=>ow _ hi;refine⟨?_,by rw[Qwt];exact sums _ r⟩;unfold Wv;rw[Qar a,sbind,Qdb a,sbind,Yk (s:=(rF 0,rF 1,0)) (λi=>(rF (sumN (λi=>l.getD i 0*s ^ i) i),rF (s ^ i),(i:Int))) l.length (rF (evP l s)) (λi hi=>?_) (by simp only[];rw[Q9,oq om,bifF,<-Qwt]) (by unfold big at a;omega) (by rw[Rat.pow_zero];rfl)];have u:=wj (show i<=10 by omega) (show w<=1000 by omega);have j:=m i om;have y:k+1+10000<=1+10*(k+20000):=om
 have A:1+i*w<=20000:=om
 have B:w<=20000:=om
 have C:k<=k+10001:=om
 have E:1+i*w<=k+10001:=om
 have F:1+10*(k+20000)<274877906944:=om
 have G:k+10001<274877906944:=om
 have H:((i:Int)<(l.length:Int)):=om
 have I:i<9223372036854775807:=om
 have d:i<=10:=om
 have a1:=Qb3 (n:=n) (k:=k+10001) (p:=l.getD i 0) (q:=s ^ i) a G (xn (Jf (i:=i) g f) C) (xn (Qr1 e i) E);have a2:=Qek (n:=n) (k:=1+10*(k+20000)) (p:=sumN (λi=>l.getD i 0*s ^ i) i) (q:=l.getD i 0*s ^ i) a F (xn (sums i d) (Nat.add_le_add_left j 1)) (xn (term i d) y);have a3:=Qb3 (n:=n) (k:=20000) (p:=s ^ i) (q:=s) a oz (xn (Qr1 e i) A) (xn e B);simp only[]
 rw[Q9,ot H,bifT,Jm (Qjn hi),sbind,a1,sbind,a2,sbind,a3,sbind,w1 I,Rat.pow_succ,
  show sumN (λi=>l.getD i 0*s ^ i) (i+1)=sumN (λi=>l.getD i 0*s ^ i) i+l.getD i 0*s ^ i from rfl]
theorem Qk0{n k:Nat}{l:List Rat}(a:big<=n)(d:1<=k)(hk:k<100000000000)(f:l.length<=1000)(e:QR k l):Wx n (rR l)=some (rR (drvP l)):=by
 unfold Wx;rw[Yk (s:=([],1)) (λi=>(rR (coefs i λi=>((i+1:Nat):Rat)*l.getD (i+1) 0),((i+1:Nat):Int))) (l.length - 1) (rR (coefs (l.length - 1) λi=>((i+1:Nat):Rat)*l.getD (i+1) 0)) (λi hi=>?_) (by simp only[];rw[Q9,oq om,bifF]) (by unfold big at a;omega) rfl];rw[We a (by rw[Kn];omega),sbind];rfl;simp only[]
 rw[Q9,ot om,bifT,Qda a om om,sbind,Jm (Qjn (show i+1<l.length by omega)),sbind,show(((i+1:Nat):Int):Rat)=((i+1:Nat):Rat) from rfl,Qb3 (k:=k) a om (xn (Qrz (m:=i+1) om) d) (Jf e d),sbind,
  W5 (by rw[Q9,Kn];simp;omega) (by rw[Q9,Kn];simp;omega),sbind,w1 om,Qjh,rR_sn]
set_option maxRecDepth 100000
def docV(u d:List Rat)(s:Rat):Qa×Bool:=if evP d s=0 then (rF 0,false) else (rF (evP u s / evP d s),true)
theorem Qk1{n k w:Nat}{u d:List Rat}{s:Rat}(e:big<=n)(f:1<=k)(hk:k<10000000000)(a:w<1000)(j:u.length<=10)(i:d.length<=10)(x:QR k u)(v:QR k d)(g:qw s<=w):
 J2 n ⟨rR u,rR d⟩ (rF s)=some (docV u d s)/\(evP d s≠0->qw (evP u s / evP d s)<=2*(1+10*(k+20000))):=by
 obtain⟨y,m⟩:=Qkz (n:=n) (l:=u) e f hk a j x g;obtain⟨v3,v4⟩:=Qkz (n:=n) (l:=d) e f hk a i v g;have r:1+10*(k+20000)<274877906944:=om
 have p:=ow (k+20000) j;have q:=ow (k+20000) i;refine⟨?_,λ_=>xn (Qcq m v4) om⟩;unfold J2 docV;simp only[];rw[v3,sbind,Qhd,sbind];by_cases h:evP d s=0;rw[ot h,bifT,oj h,Qar e,sbind];rw[oq h,bifF,oi h,y,sbind,Qel (k:=1+10*(k+20000)) e r (xn m (Nat.add_le_add_left p 1)) (xn v4 (Nat.add_le_add_left q 1)),sbind]
theorem Q17:∀ la,la<=3->∀ lb,lb<=3->eW id (lb+1) la lb 1 1<=784/\gW id (lb+1) la lb 1 1<=10:=ye ox
theorem Q18:∀ la,la<=4->∀ lb,lb<=5->eW id (lb+1) la lb 10000 10000<=169454984/\gW id (lb+1) la lb 10000 10000<=2360208:=ye ox
theorem Q19{n:Nat}{x:Qi}(a:big<=n)(qU:FRr 1 x.Up)(qD:FRr 1 x.Gk)(lU:x.Up.length<=3)(lD:x.Gk.length<=3):
 ∃ u d,Kg n x=some ⟨rR u,rR d⟩/\NFo (ptsR (rvr x.Up) (rvr x.Gk)).1 (ptsR (rvr x.Up) (rvr x.Gk)).2 u d/\(∃ z,evP d z≠0)/\u.length<=3/\d.length<=3/\QR 721 u/\QR 721 d:=
 Q04 (K:=1) (B:=784) (G:=10) (Q:=360) (mu:=3) (md:=3) a oz (ol _) oz oz oz (Xk a oz qU om) (Xk a oz qD om) (Qro qU (ol _)) (Qro qD (ol _)) (by rw[Zk];exact lU) (by rw[Zk];exact lD) (ol _) oz oz Q17 oz
theorem Q2a{n:Nat}{u d:List Rat}(a:big<=n)(C:u.length<=3)(A:d.length<=3)(g:QR 721 u)(f:QR 721 d)(hd:∃ z,evP d z≠0):
 ∃ v w,Vr n ⟨rR u,rR d⟩=some ⟨rR v,rR w⟩/\NFo (subP (mulP (drvP u) d) (mulP u (drvP d))) (mulP d d) v w/\v.length<=10/\w.length<=10/\QR 604853505 v/\QR 604853505 w:=by
 have dX:=Qnr u;have dY:=Qnr d;have wX:=Qr0 (k:=721) oz om g;have wY:=Qr0 (k:=721) oz om f;have I:=Qh6 (drvP u) d;have J:=Qh6 u (drvP d);have L:=Qh6 d d
 have q1:QR 4333 (mulP (drvP u) d):=Qy (Qjm oz oz wX f) (by have:=ow (721+1+721+1) (show(drvP u).length<=2 by omega);omega)
 have q2:QR 4333 (mulP u (drvP d)):=Qy (Qjm oz oz g wY) (by have:=ow (721+(721+1)+1) C;omega)
 have p:QR 10000 (mulP d d):=Qy (Qjm oz oz f f) (by have:=ow (721+721+1) A;omega)
 have j:qw (-1:Rat)<=1:=by rw[Qmc,Xw];exact ol _
 have q:QR 10000 (subP (mulP (drvP u) d) (mulP u (drvP d))):=by unfold subP;exact Qy (Qph oz oz q1 (Qb5 j q2)) oz
 have H:=Qx3 (mulP (drvP u) d) (mulP u (drvP d));have i:∃ z,evP (mulP d d) z≠0:=by obtain⟨z,m⟩:=hd;refine⟨z,λe=>?_⟩;rw[Qas] at e;rcases uf.1 e with h | h;exact m h;exact m h
 have nN:Q3 n (rR (subP (mulP (drvP u) d) (mulP u (drvP d))))=some (rR (subP (mulP (drvP u) d) (mulP u (drvP d)))):=by rw[Xk (k:=10000) a oz (Q0m q) (by rw[Q9];omega),Q0l]
 have nD:Q3 n (rR (mulP d d))=some (rR (mulP d d)):=by rw[Xk (k:=10000) a oz (Q0m p) (by rw[Q9];omega),Q0l]
 obtain⟨v,w,r,l,_,E,F,s,y⟩:=Q04 (n:=n) (x:=⟨rR (subP (mulP (drvP u) d) (mulP u (drvP d))),rR (mulP d d)⟩) (K:=10000) (B:=169454984) (G:=2360208) (Q:=302426752) (mu:=4) (md:=5) a oz oz oz oz oz nN nD q p om om oz oz oz Q18 oz;rw[Qo7 i] at l;refine⟨v,w,?_,l,om,om,s,y⟩;unfold Vr;simp only[]
 rw[Qk0 (k:=721) a oz oz om g,sbind,Qem (k:=722) a oz oz wX (Qy f oz) om om,sbind,
  Qk0 (k:=721) a oz oz om f,sbind,Qem (k:=722) a oz oz (Qy g oz) wY om om,sbind,
  Qml (k:=4333) a oz oz q1 q2 om om,sbind,Qem (k:=721) a oz oz f f om om,sbind,r,sbind]
def oP:Option Rat->Qc×Bool
 | none=>(toF 0,false)
 | some q=>(toF q,true)
def oR:Option Rat->Qa×Bool
 | none=>(rF 0,false)
 | some q=>(rF q,true)
theorem Qwu{A B A' B' u d j g:List Rat}(h:NFo A B u d)(n:NFo A' B' j g)(w:∃ x,evP B x≠0)(k:∃ x,evP B' x≠0)(e:∀ x,evP A x*evP B' x=evP A' x*evP B x)(s:Rat):
 ∃ o:Option Rat,valF u d s=oP o/\docV j g s=oR o/\∀ q,o=some q->evP g s≠0/\q=evP j s / evP g s:=by
 obtain⟨c1,l⟩:=Q11 h n w k e s;unfold valF docV;by_cases i:evP d s=0;exact⟨none,by rw[oj i];rfl,by rw[oj (c1.1 i)];rfl,λq h=>by cases h⟩;have f:evP g s≠0:=λe=>i (c1.2 e);have key:evP j s / evP g s=evP u s / evP d s:=by
  generalize evP u s=a at *;generalize evP d s=b at *;generalize evP j s=a' at *;generalize evP g s=b' at *;have p:a / b*b=a:=uo i;have r:a' / b'*b'=a':=uo f;have v:(a' / b' - a / b)*(b*b')=0:=by
   have m:(a' / b' - a / b)*(b*b')=(a' / b'*b')*b - (a / b*b)*b':=by grind
   rw[m,p,r,<-l];grind
  rcases uf.1 v with h | h;grind;rcases uf.1 h with h | h;exact absurd h i;exact absurd h f
 exact⟨some (evP u s / evP d s),by rw[oi i];rfl,by rw[oi f,key];rfl,λq h=>⟨f,by rw[key];exact(Option.some.inj h).symm⟩⟩
theorem Q2b{n:Nat}{x:Qi}{s:Qa}(i:big<=n)(qU:FRr 1 x.Up)(qD:FRr 1 x.Gk)(lU:x.Up.length<=3)(lD:x.Gk.length<=3)(r:Wd s.N/\Wd s.D/\s.N.length<=1/\s.D.length<=1):
 ∃(o p:Option Rat) (y z:Qi),Kg n x=some y/\J2 n y (rF (fr s))=some (oR o)/\Vr n y=some z/\J2 n z (rF (fr s))=some (oR p) /\
  Wq n ⟨x.Up.map tF,x.Gk.map tF⟩ (tF s)=some (oP o)/\((Zo n ⟨x.Up.map tF,x.Gk.map tF⟩).bind λr1=>Wq n r1 (tF s))=some (oP p)/\(∀ q,o=some q->qw q<=20000000000)/\∀ q,p=some q->qw q<=20000000000:=by
 have j:Fk 1 (tF s):=⟨r.1,r.2.2.1,r.2.1,r.2.2.2⟩
 have m:qw (fr s)<=1:=qw_fr r (ol _)
 have A:∀ l:List Qa,FRr 1 l->FR 1 (l.map tF):=λl h f X=>by obtain⟨g,Y,rfl⟩:=xj.1 X;have:=h g Y;exact⟨this.1,this.2.2.1,this.2.1,this.2.2.2⟩
 obtain⟨u,d,P,I,J,Q,R,K,L⟩:=Q19 i qU qD lU lD;obtain⟨v,w,S,T,U,f4,V,W⟩:=Q2a i Q R K L J;obtain⟨u1,d1,g1,M⟩:=Q15 (n:=n) (s:=tF s) i (A _ qU) (A _ qD) (by rw[xy];exact lU) (by rw[xy];exact lD) j;obtain⟨u2,d2,N,O⟩:=Q16 (n:=n) (s:=tF s) i (A _ qU) (A _ qD) (by rw[xy];exact lU) (by rw[xy];exact lD) j;rw[Qmh,Qmh] at g1 N;rw[fr_tF] at M O;have a:∃ z,evP (ptsR (rvr x.Up) (rvr x.Gk)).2 z≠0:=by
  obtain⟨z,B⟩:=Qa1 (K1 _) (Qta (rvr x.Up) (rvr x.Gk));exact⟨z,by rw[<-W6];exact B⟩
 have E:∃ z,evP (mulP d d) z≠0:=by obtain⟨z,B⟩:=J;refine⟨z,λe=>?_⟩;rw[Qas] at e;rcases uf.1 e with h | h;exact B h;exact B h
 obtain⟨o,o1,o2,o3⟩:=Qwu g1 I a a (λ_=>rfl) (fr s)
 have C:∀ z,evP (ptsR (rvr x.Up) (rvr x.Gk)).1 z*evP d z=evP u z*evP (ptsR (rvr x.Up) (rvr x.Gk)).2 z:=λz=>by obtain⟨⟨g,G,H⟩,_⟩:=I;rw[G z,H z];grind
 obtain⟨p,p1,p2,p3⟩:=Qwu N T (Q03 _ _) E (λz=>by
  unfold slN slD;rw[Qas,Qas,Qj7,Qj7,Qas,Qas,Qas,Qas,Qry,Qry,Qry,Qry]
  exact Q3k C z) (fr s)
 obtain⟨G,H⟩:=Qk1 (n:=n) (k:=721) (w:=1) i oz oz oz om om K L m;obtain⟨Z,k4⟩:=Qk1 (n:=n) (k:=604853505) (w:=1) i oz oz oz U f4 V W m;refine⟨o,p,_,_,P,by rw[G,o2],S,by rw[Z,p2],by rw[M,o1],by rw[O,p1],λq F=>?_,λq F=>?_⟩;obtain⟨h0,rfl⟩:=o3 q F;exact xn (H h0) oz;obtain⟨h0,rfl⟩:=p3 q F;exact xn (k4 h0) oz
set_option maxRecDepth 100000
def xT(x:Qi):Qf:=⟨x.Up.map tF,x.Gk.map tF⟩
structure FvP(n:Nat)(s:Qa)(x:Qi)(w:Option Rat×Option Rat):Prop where
 doc:∃ y z,Kg n x=some y/\J2 n y (rF (fr s))=some (oR w.1)/\Vr n y=some z/\J2 n z (rF (fr s))=some (oR w.2)
 val:Wq n (xT x) (tF s)=some (oP w.1)
 slo:((Zo n (xT x)).bind λr1=>Wq n r1 (tF s))=some (oP w.2)
 q1:∀ q,w.1=some q->qw q<=20000000000
 q2:∀ q,w.2=some q->qw q<=20000000000
open Classical in
noncomputable def wS(n:Nat)(s:Qa)(x:Qi):Option Rat×Option Rat:=if h:∃ w,FvP n s x w then Classical.choose h else (none,none)
theorem wS_ok{n:Nat}{s:Qa}{x:Qi}(h:∃ w,FvP n s x w):FvP n s x (wS n s x):=by unfold wS;rw[dif_pos h];exact Classical.choose_spec h
def okX(x:Qi):Prop:=FL 3 1 x.Up/\FL 3 1 x.Gk
theorem fv_ok{n:Nat}{s:Qa}{x:Qi}(d:big<=n)(a:Qbs x)(h:okX x)(e:Wd s.N/\Wd s.D/\s.N.length<=1/\s.D.length<=1):FvP n s x (wS n s x):=by obtain⟨o,p,y,z,a1,a2,a3,a4,a5,a6,a7,a8⟩:=Q2b (n:=n) (x:=x) (s:=s) d (Qmi a.1 h.1) (Qmi a.2.1 h.2) h.1.1 h.2.1 e;exact wS_ok ⟨(o,p),⟨y,z,a1,a2,a3,a4⟩,a5,a6,a7,a8⟩
theorem Qqm{f:Nat->Qf->List Qc->Option (Lp (List Qc) (List Qc×Bool))}{G:Qi->Option Rat}:∀(xs:List Qi) (i:Nat) (a:List Qc),
 (∀ x∈xs,∀(i:Nat) (a:List Qc),a.length<=100->f i (xT x) a=some (match G x with | none=>Lp.out ([],false) | some q=>Lp.go (a++[toF q])))->a.length+xs.length<=100 ->
 rangeL f (xs.map xT) i a=some (if (xs.all λx=>(G x).isSome)=true then Lp.go (a++xs.map (λx=>toF ((G x).getD 0))) else Lp.out ([],false))
 | [],i,a,_,_=>by simp[rangeL]
 | x::xs,i,a,h,e=>by
   simp only[xl] at e;have g:=h x (.head _) i a om;rw[ur,rangeL,g];cases d:G x with
   | none=>simp[d]
   | some q=>
     have k:=Qqm xs (i+1) (a++[toF q]) (λy j=>h y (.tail _ j)) oh;simp only[xq];rw[k];simp[d]
theorem oR_1(o:Option Rat):(oR o).2=o.isSome/\(oR o).1=rF (o.getD 0):=by cases o<;>exact⟨rfl,rfl⟩
theorem Qzd{n:Nat}{l:List Qi}{s:Qa}{w:Qi->Option Rat×Option Rat}(g:l.length<=4)(h:∀ x∈l,FvP n s x (w x)):
 Qih n (l.map xT) (tF s)=some (if (l.all λx=>(w x).1.isSome)=true then (toR (l.map λx=>(w x).1.getD 0),true) else ([],false)):=by
 unfold Qih Vv;rw[Qqm (G:=λx=>(w x).1) l 0 [] (λx e i d f=>?_) oh];by_cases a:(l.all λx=>(w x).1.isSome)=true;rw[oj a,oj a,sbind,Vy,sbind];unfold toR;rw[uw,ya];rfl;rw[oi a,oi a,sbind,Qc3,sbind];unfold Z9;rw[(h x e).val,sbind,sbind];simp only[];cases j:(w x).1 with
 | none=>rfl
 | some q=>
   show(bif !true then _ else _)=_;rw[yj,bifF,W5 (by simp[oP];omega) (by simp[oP];omega),sbind];rfl
theorem Qtc{n:Nat}{l:List Qi}{s:Qa}{w:Qi->Option Rat×Option Rat}(j:l.length<=4)(h:∀ x∈l,FvP n s x (w x)):
 Qcj n (l.map xT) (tF s)=some (if (l.all λx=>(w x).2.isSome)=true then (toR (l.map λx=>(w x).2.getD 0),true) else ([],false)):=by
 unfold Qcj Vw;rw[Qqm (G:=λx=>(w x).2) l 0 [] (λx f i e g=>?_) oh];by_cases d:(l.all λx=>(w x).2.isSome)=true;rw[oj d,oj d,sbind,Vy,sbind];unfold toR;rw[uw,ya];rfl;rw[oi d,oi d,sbind,Qc3,sbind];unfold Qaa;have a:=(h x f).slo;cases hd:Zo n (xT x) with
 | none=>rw[hd] at a;cases a
 | some m=>
   rw[hd,sbind] at a;rw[sbind,a,sbind,sbind];simp only[];cases k:(w x).2 with
   | none=>rfl
   | some q=>
     show(bif !true then _ else _)=_;rw[yj,bifF,W5 (by simp[oP];omega) (by simp[oP];omega),sbind];rfl
theorem Qfj:Jt big=some true:=ox
theorem Qwv{α:Type}{f:α->Bool}{l:List α}{i:Nat}{x:α}(h:l[i]?=some x):(l.take (i+1)).all f=((l.take i).all f && f x):=by rw[Qbc h,List.all_append];simp
abbrev LvS:=(List Qf)×Bool×Bool×(List Qa)×(List Qa)×Int
noncomputable def LvF(n:Nat)(s:Qa)(l:List Qi)(i:Nat):LvS:=
 ((l.take i).map xT,(l.take i).all (λx=>(wS n s x).1.isSome),(l.take i).all (λx=>(wS n s x).2.isSome),rR ((l.take i).map λx=>(wS n s x).1.getD 0),rR ((l.take i).map λx=>(wS n s x).2.getD 0),(i:Int))
set_option maxRecDepth 100000
theorem Q05{n:Nat}{b:Qu}{p:List Qa}{s:Qa}(i:big<=n)(qY:FRr 1 b.Y)(qU:FRr 1 b.U)(qV:FRr 1 b.V)(w:FRr 1 p)(lY:b.Y.length<=4)(lU:b.U.length<=4)(lV:b.V.length<=4)(x:p.length<=4)(r:Fk 1 (tF s)):
 Qax n ⟨tF b.T,b.Y.map tF,b.U.map tF,b.V.map tF⟩ (p.map tF) (tF s)=some (if b.Y.length=b.U.length/\p.length=b.V.length then (toR (addQ (rvr b.Y) (scaleQ (fr s) (rvr b.U))),toR (addQ (rvr p) (scaleQ (fr s) (rvr b.V))),true) else ([],[],false)):=by
 have m:∀ l:List Qa,FRr 1 l->FR 1 (l.map tF):=λl h f q=>by obtain⟨g,v,rfl⟩:=xj.1 q;have:=h g v;exact⟨this.1,this.2.2.1,this.2.1,this.2.2.2⟩
 have u:∀ l:List Qa,FRr 1 l->FR 2 (toR (scaleQ (fr s) (rvr l))):=λl h=>Vo (Qnm (j:=1) (k:=1) (by rw[<-fr_tF];exact qw_fv r (ol _)) (Qro h (ol _)));have a:∀ l:List Qa,FRr 1 l->FR 2 (l.map tF):=λl h f q=>Z1 (m l h f q) oz;unfold Qax;simp only[]
 rw[Qej (k:=1) i (ol _) oz r (m _ qU) oh,sbind,Qmh,fr_tF,Qj5 (k:=2) i oz oz (a _ qY) (u _ qU) oh,sbind,
  Qej (k:=1) i (ol _) oz r (m _ qV) oh,sbind,Qmh,fr_tF,Qj5 (k:=2) i oz oz (a _ w) (u _ qV) oh,sbind,Jy,Jy,Qmh,Qmh,jn_eq,Q5,Q5,Qae,Qae,Zk,Zk,xy,xy]
 by_cases d:b.Y.length=b.U.length;rw[oj d];by_cases e:p.length=b.V.length;rw[oj e,oj ⟨d,e⟩];rfl;rw[oi e,oi (show ¬(b.Y.length=b.U.length/\p.length=b.V.length) from λh=>e h.2)];rfl;rw[oi d,oi (show ¬(b.Y.length=b.U.length/\p.length=b.V.length) from λh=>d h.1)];rfl
theorem Q06{n:Nat}(a:big<=n):Y2 n (toF 1)=some true:=by rw[Qkq a (Fk_Fw (Vn (k:=1) (by rw[Xw];exact ol _)) oz),K5];simp
set_option maxRecDepth 100000
theorem Q3n{α:Type}{x:Option α}{y:α}{k:α->Option Bool}(h:x=some y)(hk:∃ r,k y=some r/\r=true):∃ r,x.bind k=some r/\r=true:=by rw[h];exact hk
theorem Qr2{f:Qa}(a:X8 f):Wd f.N/\Wd f.D:=⟨a.2.1.2,a.2.2.1.2⟩
theorem Qye{n:Nat}{l:List Qi}{g:Qi->Option Rat}(d:big<=n)(i:l.length<=4)(e:∀ x∈l,∀ q,g x=some q->qw q<=20000000000):
 Qs n (toR (l.map λx=>(g x).getD 0)) (rR (l.map λx=>(g x).getD 0))=some true:=by
 rw[Qh1 (k:=20000000000) d oh oz (λq h=>by
  obtain⟨x,f,rfl⟩:=xj.1 h;cases a:g x with
  | none=>rw[Option.getD_none,Qaz];decide
  | some q=>rw[vu];exact e x f q a),ot rfl]
theorem Qtd(l:List Qi)(s:Qa)(b:Qu)(p:List Qa)(hl:Qen l)(hs:X8 s)(S:Qb7 b)(hp:Kj p)(hT:b.T.N.length<35184372087850/\b.T.D.length<35184372087850):
 ∃ n,K7 n l s b p=some true:=by
 refine⟨big,?_⟩
 suffices ∃ r,K7 big l s b p=some r/\r=true by obtain⟨r,h,rfl⟩:=this;exact h
 have a:big<=big:=ol _;have W:∃ r,((Jt big).bind λr24=>some r24)=some r/\r=true:=⟨true,by rw[Qfj,sbind],rfl⟩
 unfold K7;rw[jn_eq,bifd];by_cases h0:(4:Int)<(l.length:Int)
 . rw[oj h0];exact W
 rw[oi h0,show(1:Int)=((1:Nat):Int) from rfl,show(4:Int)=((4:Nat):Int) from rfl,Qkr,sbind];by_cases Q:s.N.length<=1/\s.D.length<=1
 rotate_left
 . rw[oq Q,uc,bifT];exact W
 rw[ot Q,yj,bifF];obtain⟨v1,e1,f1⟩:=Z2 (n:=big) (l:=b.Y) (many:=4) (k:=1) a oz;rw[e1,sbind];cases v1 with
 | true=>rw[bifT];exact W
 | false=>
 obtain⟨v2,e2,f2⟩:=Z2 (n:=big) (l:=b.U) (many:=4) (k:=1) a oz;rw[bifF,e2,sbind];cases v2 with
 | true=>rw[bifT];exact W
 | false=>
 obtain⟨v3,e3,f3⟩:=Z2 (n:=big) (l:=b.V) (many:=4) (k:=1) a oz;rw[bifF,e3,sbind];cases v3 with
 | true=>rw[bifT];exact W
 | false=>
 obtain⟨v4,e4,f4⟩:=Z2 (n:=big) (l:=p) (many:=4) (k:=1) a oz;rw[bifF,e4,sbind];cases v4 with
 | true=>simp only[bifT];exact W
 | false=>
 simp only[bifF];have gY:=f1 rfl;have gU:=f2 rfl;have gV:=f3 rfl;have C:=f4 rfl;have d:Wd s.N/\Wd s.D/\s.N.length<=1/\s.D.length<=1:=⟨(Qr2 hs).1,(Qr2 hs).2,Q.1,Q.2⟩
 have V:Fk 1 (tF s):=⟨d.1,d.2.2.1,d.2.1,d.2.2.2⟩
 have hqs:qw (fr s)<=1:=qw_fr d (ol _);simp only[show((1:Nat):Int)=1 from rfl];refine Q3n (Xz a d.1 d.2.1 om om) ?_
 refine Qac (λt:LvS=>l.length - t.2.2.2.2.2.toNat) (λt=>∃ i:Nat,t=LvF big s l i/\i<=l.length/\∀ x∈l.take i,okX x)
  (λt=>(t=Lp.go ((LvF big s l l.length).1,(LvF big s l l.length).2.1,(LvF big s l l.length).2.2.1,(LvF big s l l.length).2.2.2.1,(LvF big s l l.length).2.2.2.2.1)/\∀ x∈l,okX x)\/t=Lp.out true) ⟨0,rfl,xg _,oc⟩ (by show l.length - 0<big;exact xu (show l.length - 0<=4 by omega) oz) (λt hI=>?_) (λt hQ=>?_)
 . obtain⟨i,rfl,hi,B⟩:=hI
   by_cases hil:i<l.length
   . have e:l[i]?=some l[i]:=oo hil
     have N:=Zs e;generalize l[i]=x at e N;have U:=hl.2 x N;obtain⟨I,k1,k2⟩:=Z2 (n:=big) (l:=x.Up) (many:=3) (k:=1) a oz;obtain⟨J,k3,k4⟩:=Z2 (n:=big) (l:=x.Gk) (many:=3) (k:=1) a oz;have hLong:Ya big x 3 1=some (I || J):=by unfold Ya;rw[jn_eq,show(3:Int)=((3:Nat):Int) from rfl,show(1:Int)=((1:Nat):Int) from rfl,k1,sbind,k3];cases I<;>cases J<;>rfl
     have c1:decide ((LvF big s l i).2.2.2.2.2<(l.length:Int))=true:=ot (by show(i:Int)<(l.length:Int);omega);have K:getI l (LvF big s l i).2.2.2.2.2=some x:=Jm e;rw[c1,bifT,jn_eq,K,sbind,hLong,sbind];by_cases hu:(I || J)=true
     . right
       refine⟨Lp.out true,?_,.inr rfl⟩;rw[hu,bifT,Qfj,sbind]
     . left
       have v:(I || J)=false:=by cases h:(I || J) with | true=>exact absurd h hu | false=>rfl
       rw[vb] at v;have f:okX x:=⟨k2 v.1,k4 v.2⟩
       have F:=fv_ok (n:=big) (s:=s) a U f d;obtain⟨y,z,d1,d2,d3,d4⟩:=F.doc;have hT:Y4 big x=some (xT x):=by unfold Y4;rw[Qa0 a (by have:=f.1.1;omega),sbind,Qa0 a (by have:=f.2.1;omega),sbind];rfl
       have u:(l.take i).length=i:=oh
       refine⟨LvF big s l (i+1),?_,⟨i+1,rfl,om,λy hy=>?_⟩,by show l.length - ((i+1:Nat):Int).toNat<l.length - (i:Int).toNat;omega⟩
       . rw[show(I || J)=false by rw[v.1,v.2];rfl,bifF]
         simp only[sbind,d1,d2,d3,d4,hT];have a1:appM 48 (LvF big s l i).1 [xT x]=some ((LvF big s l i).1++[xT x]):=W5 (by show(((l.take i).map xT).length+1)*48<=_;rw[xy,u];omega) (by show((l.take i).map xT).length+1<=_;rw[xy,u];omega);have a2:appM 56 (LvF big s l i).2.2.2.1 [(oR (wS big s x).1).1]=some ((LvF big s l i).2.2.2.1++[(oR (wS big s x).1).1]):=W5 (by show((rR ((l.take i).map _)).length+1)*56<=_;rw[Q9,xy,u];omega) (by show(rR ((l.take i).map _)).length+1<=_;rw[Q9,xy,u];omega);have a3:appM 56 (LvF big s l i).2.2.2.2.1 [(oR (wS big s x).2).1]=some ((LvF big s l i).2.2.2.2.1++[(oR (wS big s x).2).1]):=W5 (by show((rR ((l.take i).map _)).length+1)*56<=_;rw[Q9,xy,u];omega) (by show(rR ((l.take i).map _)).length+1<=_;rw[Q9,xy,u];omega);rw[a1,sbind,a2,sbind,a3,sbind,jn_eq];have hw:wrap64 ((LvF big s l i).2.2.2.2.2+1)=((i+1:Nat):Int):=w1 om;have t1:(LvF big s l (i+1)).1=(LvF big s l i).1++[xT x]:=by show(l.take (i+1)).map xT=_;rw[Qbc e,yx];rfl
         have t2:(LvF big s l (i+1)).2.1=((LvF big s l i).2.1 && (wS big s x).1.isSome):=Qwv e;have t3:(LvF big s l (i+1)).2.2.1=((LvF big s l i).2.2.1 && (wS big s x).2.isSome):=Qwv e;have t4:(LvF big s l (i+1)).2.2.2.1=(LvF big s l i).2.2.2.1++[(oR (wS big s x).1).1]:=by show rR ((l.take (i+1)).map _)=_;rw[Qbc e,yx,(oR_1 _).2];unfold rR;rw[yx];rfl
         have t5:(LvF big s l (i+1)).2.2.2.2.1=(LvF big s l i).2.2.2.2.1++[(oR (wS big s x).2).1]:=by show rR ((l.take (i+1)).map _)=_;rw[Qbc e,yx,(oR_1 _).2];unfold rR;rw[yx];rfl
         have fin:LvF big s l (i+1)=((LvF big s l (i+1)).1,(LvF big s l (i+1)).2.1,(LvF big s l (i+1)).2.2.1,(LvF big s l (i+1)).2.2.2.1,(LvF big s l (i+1)).2.2.2.2.1,((i+1:Nat):Int)):=rfl;rw[fin,t1,t2,t3,t4,t5,(oR_1 (wS big s x).1).1,(oR_1 (wS big s x).2).1];simp only[hw];cases (LvF big s l i).2.1<;>cases (LvF big s l i).2.2.1<;>rfl
       . rw[Qbc e] at hy
         rcases wn.1 hy with h | h
         . exact B y h
         . rw[gq.1 h];exact f
   . right
     have hie:i=l.length:=om
     subst hie;refine⟨_,?_,.inl ⟨rfl,λx e=>B x (by rw[ug];exact e)⟩⟩;rw[show decide ((LvF big s l l.length).2.2.2.2.2<(l.length:Int))=false from oq (by show ¬((l.length:Nat):Int)<(l.length:Int);omega),bifF]
 . rcases hQ with ⟨rfl,B⟩ | rfl
   . rw[Vy]
     have R:∀ x∈l,FvP big s x (wS big s x):=λx e=>fv_ok a (hl.2 x e) (B x e) d;have eL:LvF big s l l.length=(l.map xT,l.all (λx=>(wS big s x).1.isSome),l.all (λx=>(wS big s x).2.isSome),rR (l.map λx=>(wS big s x).1.getD 0),rR (l.map λx=>(wS big s x).2.getD 0),(l.length:Int)):=by unfold LvF;rw[ug]
     rw[eL];simp only[];have eTo:J5 s=some (tF s):=rfl;have T:=Qzd (n:=big) (l:=l) (s:=s) (w:=wS big s) om R;have Y:=Qtc (n:=big) (l:=l) (s:=s) (w:=wS big s) om R;have i1:=Qye (n:=big) (l:=l) (g:=λx=>(wS big s x).1) a om (λx e q h=>(R x e).q1 q h);have i2:=Qye (n:=big) (l:=l) (g:=λx=>(wS big s x).2) a om (λx e q h=>(R x e).q2 q h);rw[eTo,sbind,T,sbind,sbind,Y,sbind]
     have hrest:∃ r,((Xr big b).bind λr266=>
      (J6 big p).bind λr268=>
      (J5 s).bind λr270=>
      (Qax big r266 r268 r270).bind λr272=>
      jn (λ(j274:(Bool)->Option _)=>
       bif !decide ((b.Y.length:Int)=(b.U.length:Int)) then (
        j274 true)
       else (
        j274 (!decide ((p.length:Int)=(b.V.length:Int))))) (λ(s276:Bool)=>
       bif s276 then (
        jn (λ(j279:(Bool)->Option _)=>
         bif decide ((r272.1.length:Int)=(0:Int)) then (
          bif decide ((r272.2.1.length:Int)=(0:Int)) then (
           bif !r272.2.2 then (
            (Jt big).bind λr282=>
            j279 r282)
           else (
            j279 false))
          else (
           j279 false))
         else (
          j279 false)) (λ(s281:Bool)=>
         some s281))
       else (
        (W0 big b).bind λr284=>
        jn (λ(j310:(Bool)->Option _)=>
         bif r272.2.2 then (
          (Kc big (rF (fr s)) r284.U).bind λr314=>
          (Vg big r284.Y r314).bind λr316=>
          (Qs big r272.1 r316).bind λr318=>
          bif r318 then (
           (Q3 big p).bind λr321=>
           (Kc big (rF (fr s)) r284.V).bind λr323=>
           (Vg big r321 r323).bind λr325=>
           (Qs big r272.2.1 r325).bind λr327=>
           bif r327 then (
            (Jn big (1:Int)).bind λr330=>
            (Y2 big r330).bind λr332=>
            bif r332 then (
             (Jt big).bind λr335=>
             j310 r335)
            else (
             j310 false))
           else (
            j310 false))
          else (
           j310 false))
         else (
          j310 false)) (λ(s312:Bool)=>
         some s312))))=some r/\r=true:=by
      have Z:Xr big b=some ⟨tF b.T,b.Y.map tF,b.U.map tF,b.V.map tF⟩:=by unfold Xr;rw[show J5 b.T=some (tF b.T) from rfl,sbind,Qa0 a (by have:=gY.1;omega),sbind,Qa0 a (by have:=gU.1;omega),sbind,Qa0 a (by have:=gV.1;omega),sbind]
      have qY:=Qmi S.2.1 gY;have qU:=Qmi S.2.2.1 gU;have qV:=Qmi S.2.2.2.1 gV;have O:=Qmi hp C;rw[Z,sbind,Qa0 a (by have:=C.1;omega),sbind,eTo,sbind,Q05 a qY qU qV O gY.1 gU.1 gV.1 C.1 V,sbind,jn_eq];by_cases c1:b.Y.length=b.U.length
      . by_cases K:p.length=b.V.length
        . rw[ot (show(b.Y.length:Int)=(b.U.length:Int) by omega),yj,bifF,ot (show(p.length:Int)=(b.V.length:Int) by omega),yj]
          simp only[bifF];rw[oj ⟨c1,K⟩];have H:∀ m:List Qa,FL 4 1 m->FRr 1 m->QR 1 (rvr m)/\(rvr m).length<=4:=λm g q=>⟨Qro q (ol _),by rw[Zk];exact g.1⟩
          have sc:∀ m:List Qa,FL 4 1 m->FRr 1 m->QR 2 (scaleQ (fr s) (rvr m)):=λm g q=>Qnm (j:=1) (k:=1) hqs (H m g q).1
          have P:∀ m m':List Qa,FL 4 1 m->FRr 1 m->FL 4 1 m'->FRr 1 m'->QR 5 (addQ (rvr m) (scaleQ (fr s) (rvr m')))/\(addQ (rvr m) (scaleQ (fr s) (rvr m'))).length<=4:=λm m' g q g' q'=>by refine⟨Qy (Q4w (H m g q).1 (sc m' g' q')) oz,?_⟩;unfold addQ;rw[List.length_zipWith];have:=(H m g q).2;omega
          have X:W0 big b=some ⟨rF (fr b.T),rR (rvr b.Y),rR (rvr b.U),rR (rvr b.V)⟩:=by unfold W0;have M:=S.1;rw[Xz a (Qr2 M).1 (Qr2 M).2 om om,sbind,Xk (k:=1) a oz qY (by have:=gY.1;omega),sbind,Xk (k:=1) a oz qU (by have:=gU.1;omega),sbind,Xk (k:=1) a oz qV (by have:=gV.1;omega),sbind]
          rw[X,sbind,jn_eq];simp only[]
          rw[bifT,Qfx (k:=2) a oz om (Qy (H _ gU qU).1 oz) (by rw[Zk];have:=gU.1;omega),sbind,Qmj (k:=2) a oz (Qy (H _ gY qY).1 oz) (sc _ gU qU) (by rw[Qae,Zk,Zk];exact c1) (by rw[Zk];have:=gY.1;omega),sbind,
           Qh1 (k:=5) a (by have:=(P _ _ gY qY gU qU).2;omega) oz (P _ _ gY qY gU qU).1,sbind,ot rfl,bifT,Xk (k:=1) a oz O (by have:=C.1;omega),sbind,
           Qfx (k:=2) a oz om (Qy (H _ gV qV).1 oz) (by rw[Zk];have:=gV.1;omega),sbind,Qmj (k:=2) a oz (Qy (H _ C O).1 oz) (sc _ gV qV) (by rw[Qae,Zk,Zk];exact K) (by rw[Zk];have:=C.1;omega),sbind,
           Qh1 (k:=5) a (by have:=(P _ _ C O gV qV).2;omega) oz (P _ _ C O gV qV).1,sbind,ot rfl,bifT,Qcr a,sbind,Q06 a,sbind,bifT,Qfj,sbind]
          exact⟨true,rfl,rfl⟩
        . rw[ot (show(b.Y.length:Int)=(b.U.length:Int) by omega),yj,bifF,oq (show ¬(p.length:Int)=(b.V.length:Int) by omega),uc]
          simp only[bifT];rw[oi (show ¬(b.Y.length=b.U.length/\p.length=b.V.length) from λh=>K h.2),jn_eq];simp only[Qfj,sbind];exact⟨true,rfl,rfl⟩
      . rw[oq (show ¬(b.Y.length:Int)=(b.U.length:Int) by omega),uc,bifT]
        simp only[bifT];rw[oi (show ¬(b.Y.length=b.U.length/\p.length=b.V.length) from λh=>c1 h.1),jn_eq];simp only[Qfj,sbind];exact⟨true,rfl,rfl⟩
     rw[jn_eq];by_cases E:(l.all λx=>(wS big s x).1.isSome)=true
     . by_cases A:(l.all λx=>(wS big s x).2.isSome)=true
       . rw[oj E,oj A,E,A]
         simp only[gz,bifF,yj,bifT,i1,i2,sbind];exact hrest
       . have G:(l.all λx=>(wS big s x).2.isSome)=false:=by cases h:(l.all λx=>(wS big s x).2.isSome) with | true=>exact absurd h A | false=>rfl
         rw[oj E,oi A,E,G];simp only[gz,bifF,yj,uc,bifT,i1,sbind,gr,show decide (((0:Nat):Int)=0)=true from rfl];exact hrest
     . have L:(l.all λx=>(wS big s x).1.isSome)=false:=by cases h:(l.all λx=>(wS big s x).1.isSome) with | true=>exact absurd h E | false=>rfl
       by_cases A:(l.all λx=>(wS big s x).2.isSome)=true
       . rw[oi E,oj A,L,A]
         simp only[gz,bifF,yj,uc,bifT,i2,sbind,gr,show decide (((0:Nat):Int)=0)=true from rfl];exact hrest
       . have G:(l.all λx=>(wS big s x).2.isSome)=false:=by cases h:(l.all λx=>(wS big s x).2.isSome) with | true=>exact absurd h A | false=>rfl
         rw[oi E,oi A,L,G];simp only[gz,bifF,yj,uc,bifT,sbind,gr,show decide (((0:Nat):Int)=0)=true from rfl];exact hrest
   . exact⟨true,rfl,rfl⟩
end Go.Proofs.YtmnlcblemgjeeaaGreatDoor
