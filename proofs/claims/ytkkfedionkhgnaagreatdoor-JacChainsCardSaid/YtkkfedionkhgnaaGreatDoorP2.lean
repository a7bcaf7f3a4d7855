import Derived.Test.YtkkfedionkhgnaaGreatDoorP1
namespace Go.Proofs.YtkkfedionkhgnaaGreatDoor
open Go Go.RowKit
def wy(w:Qv):Int:=if w.Neg then -(val w.Ao:Int) else (val w.Ao:Int)
def rW(z:Int):Qv:=⟨decide (z<0),toL z.natAbs⟩
theorem wy_rW(z:Int):wy (rW z)=z:=by unfold wy rW;simp only[Qt];by_cases h:z<0;rw[decide_eq_true h,if_pos rfl];omega;rw[decide_eq_false h,if_neg (by decide)];omega
theorem Qid{n:Nat}{w:Qv}(hn:big≤n)(hw:Wd w.Ao)(hl:w.Ao.length≤35184372088832):Ki n w=some (rW (wy w)):=by unfold Ki rW wy;rw[Vh hn hl,sbind,←Jn hw,jn_eq];cases w.Neg;rw[bifF,if_neg (by decide),decide_eq_false (by omega),Int.natAbs_natCast];rw[bifT,if_pos rfl,Int.natAbs_neg,Int.natAbs_natCast];have:=Qf8 (v:=val w.Ao);refine congrArg (λb=>some (⟨b,_⟩:Qv)) (decide_eq_decide.2 ?_);omega
theorem Qvk{n:Nat}{w u:Qv}(hn:big≤n)(hw:Wd w.Ao)(hu:Wd u.Ao)(hl:w.Ao.length<17592186044410)(hl2:u.Ao.length<17592186044410):Yk n w u=some (rW (wy w+wy u)):=by
 unfold Yk;have g1:=Jt hw;have g2:=Jt hu;have len:∀ z,z≤val w.Ao+val u.Ao->(toL z).length≤35184372088832:=λz hz=>Nat.le_trans (V6 hz) (Nat.le_trans (Qko (k:=17592186044410) (by omega) (by omega)) (by decide));rw[Qn0 hn (by omega) (by omega) hw hu,sbind,Qiz hn (by omega) (by omega) hw hu,sbind,bifd];obtain⟨s,a⟩:=w;obtain⟨t,b⟩:=u;simp only at *
 have hsum:∀ s,Ki n ⟨s,toL (val a+val b)⟩=some (rW (if s then -((val a+val b:Nat):Int) else ((val a+val b:Nat):Int))):=λs=>by rw[Qid hn (Q1 _) (len _ (Nat.le_refl _))];unfold wy;simp only[Qt]
 have hd1:∀ s,val b≤val a->(Vl n a b).bind (λr=>(Ki n ⟨s,r⟩).bind λr13=>some r13)=some (rW (if s then -((val a - val b:Nat):Int) else ((val a - val b:Nat):Int))):=λs h=>by rw[Qn8 hn (by omega) (by omega) hw hu h,sbind,Qid hn (Q1 _) (len _ (by omega)),sbind];unfold wy;simp only[Qt]
 have hd2:∀ s,val a≤val b->(Vl n b a).bind (λr=>(Ki n ⟨s,r⟩).bind λr13=>some r13)=some (rW (if s then -((val b - val a:Nat):Int) else ((val b - val a:Nat):Int))):=λs h=>by rw[Qn8 hn (by omega) (by omega) hu hw h,sbind,Qid hn (Q1 _) (len _ (by omega)),sbind];unfold wy;simp only[Qt]
 have hc:=@Qyw (val a) (val b);unfold wy;simp only[hsum,sbind];by_cases h:val a<val b;rw[if_pos (hc.2 h),hd2 t (by omega)];cases s<;>cases t<;>simp only[beq_self_eq_true,bifT,bifF,Bool.false_eq_true,if_true,if_false,show(false == true)=false by rfl,show(true == false)=false by rfl]<;>congr 2<;>omega;rw[if_neg (λg=>h (hc.1 g)),hd1 s (by omega)];cases s<;>cases t<;>simp only[beq_self_eq_true,bifT,bifF,Bool.false_eq_true,if_true,if_false,show(false == true)=false by rfl,show(true == false)=false by rfl]<;>congr 2<;>omega
def rF(q:Rat):Qc:=⟨decide (q.num<0),toL q.num.natAbs,toL q.den⟩
def fr(f:Qc):Rat:=mkRat (if f.Neg then -(val f.N:Int) else (val f.N:Int)) (val f.D)
theorem Qrh(z:Int):(if decide (z<0) then -(z.natAbs:Int) else (z.natAbs:Int))=z:=by by_cases h:z<0;rw[decide_eq_true h,if_pos rfl];omega;rw[decide_eq_false h,if_neg (by decide)];omega
theorem fr_rF(q:Rat):fr (rF q)=q:=by unfold fr rF;simp only[Qt];rw[Qrh];exact Rat.mkRat_self q
theorem Q7r{p q:Rat}(h:rF p=rF q):p=q:=by rw[←fr_rF p,h,fr_rF]
theorem Q5s:toL 1=[1]:=by rw[Yp (by decide)];rw[show(1:Nat)%4294967296=1 from rfl,show(1:Nat) / 4294967296=0 from rfl,K8]
theorem Q0m:rF 0=⟨false,[],[1]⟩:=by unfold rF;rw[show(0:Rat).num=0 from rfl,show(0:Rat).den=1 from rfl,Q5s,show(0:Int).natAbs=0 from rfl,K8];rfl
theorem rF_mk{s:Bool}{x d:Nat}(hx:x≠0)(hd:d≠0):rF (mkRat (if s then -(x:Int) else (x:Int)) d)=⟨s,toL (x / Nat.gcd x d),toL (d / Nat.gcd x d)⟩:=by
 obtain⟨e1,e2⟩:=Qgj (z:=if s then -(x:Int) else (x:Int)) hd;have e3:(if s then -(x:Int) else (x:Int)).natAbs=x:=by cases s<;>simp
 have hg:Nat.gcd x d ∣ x:=Nat.gcd_dvd_left _ _;have hp:x / Nat.gcd x d≠0:=by have:=Nat.div_pos (Nat.le_of_dvd (Nat.pos_of_ne_zero hx) hg) (Nat.gcd_pos_of_pos_left d (Nat.pos_of_ne_zero hx));omega
 rw[e3] at e1 e2;rw[←Q0e s x _ hg] at e1;unfold rF;rw[e1,e2];generalize x / Nat.gcd x d=y at hp;cases s;rw[if_neg (by decide),decide_eq_false (by omega),Int.natAbs_natCast];rw[if_pos rfl,decide_eq_true (by omega),Int.natAbs_neg,Int.natAbs_natCast]
theorem Qbd{n:Nat}{f:Qc}(hn:big≤n)(hN:Wd f.N)(hD:Wd f.D)(lN:f.N.length<1099511627776)(lD:f.D.length<1099511627776):Kx n f=some (rF (fr f)):=by
 unfold Kx;have g1:=Jt hN;have g2:=Jt hD;rw[Vh hn (by omega),sbind,Vh hn (by omega),sbind,←Jn hN,←Jn hD];simp only[jn_eq,bifd];have z1:=Qf8 (v:=val f.N);have z2:=Qf8 (v:=val f.D);unfold fr;by_cases hd:val f.D=0;rw[if_pos (by omega),hd,Rat.mkRat_zero,Q0m];rfl;rw[if_neg (by omega)];by_cases hx:val f.N=0;rw[if_pos (by omega),hx];have:(if f.Neg=true then -((0:Nat):Int) else ((0:Nat):Int))=0:=by split<;>rfl
 rw[this,Rat.zero_mkRat,Q0m];rw[if_neg (by omega),rF_mk hx hd,Qn9,sbind];have hg:Nat.gcd (val f.N) (val f.D)≠0:=by have:=Nat.gcd_pos_of_pos_left (val f.D) (Nat.pos_of_ne_zero hx);omega
 have lg:(toL (Nat.gcd (val f.N) (val f.D))).length<1099511627776:=Nat.lt_of_le_of_lt (V6 (Nat.gcd_le_left _ (Nat.pos_of_ne_zero hx))) (by omega);by_cases h1:toL (val f.D)=[1]
 rw[decide_eq_true h1,Bool.not_true,bifF];have:val f.D=1:=by rw[←Qt (val f.D),h1];rfl
 rw[this,Nat.gcd_one_right,Nat.div_one,Nat.div_one];rw[decide_eq_false h1,Bool.not_false,bifT,Qvj hn (by omega) (by omega) (Q1 _) (Q1 _),sbind,Qt,Qt,Qml hn (by omega) lg (Q1 _) (Q1 _) (by rw[Qt];exact hg),sbind,Qml hn (by omega) lg (Q1 _) (Q1 _) (by rw[Qt];exact hg),sbind,Qt,Qt,Qt]
theorem wy_mk(z:Int)(d:Nat):wy ⟨decide (z<0),toL (z.natAbs*d)⟩=z*(d:Int):=by unfold wy;simp only[Qt,Int.natCast_mul];by_cases h:z<0;rw[decide_eq_true h,if_pos rfl,←Int.neg_mul];congr 1;omega;rw[decide_eq_false h,if_neg (by decide)];congr 1;omega
theorem Qob{n k:Nat}{p q:Rat}(hn:big≤n)(hk:k<274877906944)(hp:qw p≤k)(hq:qw q≤k):W8 n (rF p) (rF q)=some (rF (p+q)):=by
 have n1:=Qia p;have n2:=Qia q;have d1:=Qib p;have d2:=Qib q;have m1:=@Ze p.num.natAbs q.den;have m2:=@Ze q.num.natAbs p.den;have m3:=@Ze p.den q.den;unfold W8 rF;simp only[];rw[Qaf hn (by omega) (by omega) (Q1 _) (Q1 _),sbind,Qaf hn (by omega) (by omega) (Q1 _) (Q1 _),sbind,Qt,Qt,Qt,Qt,Qvk hn (Q1 _) (Q1 _) (by simp only[];omega) (by simp only[];omega),sbind,wy_mk,wy_mk,Qaf hn (by omega) (by omega) (Q1 _) (Q1 _),sbind,Qt,Qt];have hs:(toL (p.num*(q.den:Int)+q.num*(p.den:Int)).natAbs).length≤2*k+1:=by
  refine Nat.le_trans (V6 (Int.natAbs_add_le _ _)) ?_;rw[Int.natAbs_mul,Int.natAbs_mul,Int.natAbs_natCast,Int.natAbs_natCast];exact Qko (by omega) (by omega)
 rw[Qbd hn (Q1 _) (Q1 _) (by unfold rW;simp only[];omega) (by simp only[];omega),sbind];have e:fr ⟨(rW (p.num*(q.den:Int)+q.num*(p.den:Int))).Neg,(rW (p.num*(q.den:Int)+q.num*(p.den:Int))).Ao,toL (p.den*q.den)⟩=p+q:=by unfold fr rW;simp only[Qt];rw[Qrh,←Rat.mkRat_add_mkRat _ _ p.den_nz q.den_nz,Rat.mkRat_self,Rat.mkRat_self]
 rw[e];rfl
theorem Q4p(z u:Int):(if (decide (z<0) != decide (u<0)) then -((z.natAbs*u.natAbs:Nat):Int) else ((z.natAbs*u.natAbs:Nat):Int))=z*u:=by rw[Q0d,Qrh,Qrh]
theorem Qvl{n k:Nat}{p q:Rat}(hn:big≤n)(hk:k<274877906944)(hp:qw p≤k)(hq:qw q≤k):Yl n (rF p) (rF q)=some (rF (p*q)):=by
 have n1:=Qia p;have n2:=Qia q;have d1:=Qib p;have d2:=Qib q;have m1:=@Ze p.num.natAbs q.num.natAbs;have m3:=@Ze p.den q.den;unfold Yl rF;simp only[];rw[Qaf hn (by omega) (by omega) (Q1 _) (Q1 _),sbind,Qaf hn (by omega) (by omega) (Q1 _) (Q1 _),sbind,Qt,Qt,Qt,Qt,Qbd hn (Q1 _) (Q1 _) (by simp only[];omega) (by simp only[];omega),sbind];have e:fr ⟨decide (p.num<0) != decide (q.num<0),toL (p.num.natAbs*q.num.natAbs),toL (p.den*q.den)⟩=p*q:=by
  unfold fr;simp only[Qt];rw[Q4p,←Rat.mkRat_mul_mkRat,Rat.mkRat_self,Rat.mkRat_self]
 rw[e];rfl
open Classical in
theorem Qt1{n:Nat}{f g:Qc}(hn:big≤n)(h1:f.N.length≤4611686018427387904)(h2:f.D.length≤4611686018427387904):X5 n f g=some (decide (f=g)):=by unfold X5;simp only[jn_eq];obtain⟨s,a,d⟩:=f;obtain⟨t,b,e⟩:=g;simp only at *;by_cases c1:s=t;subst c1;rw[show(s == s)=true by simp,bifT,Qmf hn h1,sbind];by_cases c2:a=b;subst c2;rw[decide_eq_true rfl,bifT,Qmf hn h2,sbind];exact congrArg some (decide_eq_decide.2 ⟨λh=>by rw[h],λh=>by cases h;rfl⟩);rw[decide_eq_false c2,bifF,decide_eq_false (λh=>by cases h;exact c2 rfl)];rw[show(s == t)=false by simpa using c1,bifF,decide_eq_false (λh=>by cases h;exact c1 rfl)]
theorem Qq6{n x:Nat}(hn:big≤n)(hx:x<18446744073709551616):Xm n x=some (toL x):=by
 unfold Xm;have hw:Wd [x%4294967296%4294967296,x / 4294967296%4294967296]:=Jk.2 ⟨by omega,Jk.2 ⟨by omega,Kf⟩⟩;have hv:val [x%4294967296%4294967296,x / 4294967296%4294967296]=x:=by simp only[val];omega
 rw[sbind,Vh hn (by simp),sbind,←Jn hw,hv]
theorem Qt2{n:Nat}{x:Int}(hn:big≤n)(h1:-9223372036854775808≤x)(h2:x≤9223372036854775807):W7 n x=some (rF (x:Rat)):=by
 unfold W7;have w1':Wd [1]:=Jk.2 ⟨by decide,Kf⟩;have v1:val [1]=1:=rfl;have l2:∀ z,z<18446744073709551616->(toL z).length≤2:=λz hz=>Qbb (by rw[Kl,Kl,Xp];omega);rw[bifd];by_cases h:x<0;have e:Int.toNat (wrap64 (-(wrap64 (x+1)))%18446744073709551616)=x.natAbs - 1:=by rw[w64 (x:=x+1) (by omega) (by omega),w64 (by omega) (by omega)];omega
 have hl:=l2 (x.natAbs - 1) (by omega);have hl2:=l2 x.natAbs (by omega);rw[if_pos h,sbind,e,Qq6 hn (by omega),sbind,Qn0 hn (by omega) (by simp) (Q1 _) w1',sbind,Qt,v1,show x.natAbs - 1+1=x.natAbs by omega,Qbd hn (Q1 _) w1' (by simp only[];omega) (by simp),sbind];congr 2;unfold fr;simp only[Qt,v1];rw[if_pos trivial,show -((x.natAbs:Nat):Int)=x by omega,←Rat.mkRat_one];have e:Int.toNat (x%18446744073709551616)=x.natAbs:=by omega
 have hl2:=l2 x.natAbs (by omega);rw[if_neg h,e,Qq6 hn (by omega),sbind,Qbd hn (Q1 _) w1' (by simp only[];omega) (by simp),sbind];congr 2;unfold fr;simp only[Qt,v1];rw[if_neg (by decide),show((x.natAbs:Nat):Int)=x by omega,←Rat.mkRat_one]
theorem Qsn{n:Nat}(hn:big≤n):W7 n 0=some (rF 0):=Qt2 hn (by decide) (by decide)
def rR(l:List Rat):List Qc:=l.map rF
theorem Qc1(l:List Rat):(rR l).length=l.length:=by unfold rR;simp
theorem Qq7{l:List Rat}{i:Nat}{q:Rat}(h:l[i]?=some q):(rR l)[i]?=some (rF q):=by unfold rR;rw[List.getElem?_map,h];rfl
theorem Q7s{a b:List Rat}(h:rR a=rR b):a=b:=by
 unfold rR at h
 induction a generalizing b with
 | nil=>cases b with
   | nil=>rfl
   | cons y b=>cases h
 | cons x a ih=>cases b with
   | nil=>cases h
   | cons y b=>
     rw[List.map_cons,List.map_cons] at h;obtain⟨h1,h2⟩:=List.cons.inj h;rw[Q7r h1,ih h2]
theorem Qri(l:List Rat)(q:Rat):rR (l++[q])=rR l++[rF q]:=by unfold rR;simp
theorem Qq8{α:Type}{l:List α}{i:Nat}{x:α}(h:l[i]?=some x):l.take (i+1)=l.take i++[x]:=by rw[List.take_add_one,h];rfl
def FRr(k:Nat)(l:List Qc):Prop:=∀ f∈l,Wd f.N∧Wd f.D∧f.N.length≤k∧f.D.length≤k
def rvr(l:List Qc):List Rat:=l.map fr
theorem Qvm(l:List Qc):(rvr l).length=l.length:=by unfold rvr;simp
theorem fr_tF(f:Qc):fv (tF f)=fr f:=rfl
theorem Q7t(l:List Qc):rv (l.map tF)=rvr l:=by unfold rv rvr;rw[List.map_map];rfl
theorem qw_fr{f:Qc}{k:Nat}(h:Wd f.N∧Wd f.D∧f.N.length≤k∧f.D.length≤k)(h1:1≤k):qw (fr f)≤k:=by rw[←fr_tF];exact qw_fv ⟨h.1,h.2.2.1,h.2.1,h.2.2.2⟩ h1
theorem Q7u{k:Nat}{l:List Qc}(h:FRr k l)(h1:1≤k):QR k (rvr l):=λq hq=>by obtain⟨f,hf,rfl⟩:=List.mem_map.1 hq;exact qw_fr (h f hf) h1
theorem Qso{n k:Nat}{l:List Qc}(hn:big≤n)(hk:k<1099511627776)(h:FRr k l)(hl:l.length≤1000000):Xr n l=some (rR (rvr l)):=by
 unfold Xr;rw[Zf (λi=>(rR (rvr (l.take i)),(i:Int))) l.length (rR (rvr l))];intro i hi;have hp:l[i]?=some l[i]:=List.getElem?_eq_getElem hi;have hf:=h l[i] (List.getElem_mem hi);generalize l[i]=p at hp hf;simp only[bifd];have e:rvr (l.take (i+1))=rvr (l.take i)++[fr p]:=by rw[Qq8 hp];unfold rvr;simp
 rw[if_pos (by omega),Kn hp,sbind,Qbd hn hf.1 hf.2.1 (by omega) (by omega),sbind,Xy (by simp[Qc1,Qvm];omega) (by simp[Qc1,Qvm];omega),sbind,w1 (by omega),e,Qri];simp only[bifd];rw[if_neg (by omega),List.take_length];unfold big at hn;omega;rfl
open Classical in
theorem Qt3{n:Nat}{a b:List Qc}(hn:big≤n)(hl:a.length≤1000000)(h:∀ f∈a,f.N.length≤4611686018427387904∧f.D.length≤4611686018427387904):Vw n a b=some (decide (a=b)):=by
 unfold Vw;by_cases hab:a.length=b.length;rw[decide_eq_true (show(a.length:Int)=(b.length:Int) by omega),Bool.not_true,bifF];rw[Qix (λi=>a[i]?=b[i]?) a.length (r:=false)];have e:(∀ i,i<a.length->a[i]?=b[i]?)↔a=b:=by constructor;intro g;refine List.ext_getElem? λi=>?_;rcases Nat.lt_or_ge i a.length with hi | hi;exact g i hi;rw[List.getElem?_eq_none hi,List.getElem?_eq_none (by omega)];rintro rfl i _;rfl
 by_cases g:a=b;rw[if_pos (e.2 g),decide_eq_true g];rw[if_neg (λh=>g (e.1 h)),decide_eq_false g];intro i hi;have hp:a[i]?=some a[i]:=List.getElem?_eq_getElem hi;have hp2:b[i]?=some (b[i]'(by omega)):=List.getElem?_eq_getElem (by omega);have hf:=h a[i] (List.getElem_mem hi);generalize a[i]=x at hp hf;generalize b[i]'(by omega)=y at hp2;simp only[bifd];rw[if_pos (by omega),Kn hp,sbind,Kn hp2,sbind,Qt1 hn hf.1 hf.2,sbind,hp,hp2,w1 (by omega)];constructor;intro g;rw[decide_eq_true (Option.some.inj g)];rfl;intro g;rw[decide_eq_false (λh=>g (by rw[h]))];rfl;simp only[bifd];rw[if_neg (by omega)];unfold big at hn;omega;rw[decide_eq_false (show ¬(a.length:Int)=(b.length:Int) by omega),Bool.not_false,bifT,decide_eq_false];intro g;exact hab (by rw[g])
theorem Q5t{q:Rat}{k:Nat}(h:qw q≤k):(rF q).N.length≤k∧(rF q).D.length≤k:=by have:=Qia q;have:=Qib q;exact⟨by show(toL q.num.natAbs).length≤k;omega,by show(toL q.den).length≤k;omega⟩
theorem Qlt{n k:Nat}{a b:List Rat}(hn:big≤n)(hl:a.length≤1000000)(hk:k<274877906944)(h:QR k a):Vw n (rR a) (rR b)=some (decide (a=b)):=by
 classical
 rw[Qt3 hn (by rw[Qc1];exact hl) (λf hf=>by
  obtain⟨q,hq,rfl⟩:=List.mem_map.1 hf;have:=Q5t (h q hq)
  exact⟨by omega,by omega⟩)]
 exact congrArg some (decide_eq_decide.2 ⟨Q7s,λh=>by rw[h]⟩)
def oF(x:Qa):Qc:=⟨x.Num.Neg,x.Num.Ao,x.Den⟩
theorem Q7v(l:List Rat):(toR l).map oF=rR l:=by unfold toR rR;rw[List.map_map];rfl
theorem Qw5(x:Qa):Z5 x=some (oF x):=rfl
theorem Qw6{n:Nat}{l:List Qa}(hn:big≤n)(h1:l.length≤1000000):Yx n l=some (l.map oF):=by unfold Yx;rw[Zf (λi=>((l.take i).map oF,(i:Int))) l.length (l.map oF)];intro i hi;have hp:l[i]?=some l[i]:=List.getElem?_eq_getElem hi;generalize l[i]=p at hp;simp only[bifd,Qw5,sbind];rw[if_pos (by omega),Kn hp,sbind,Xy (by simp;omega) (by simp;omega),sbind,w1 (by omega),Qgk oF hp];simp only[bifd];rw[if_neg (by omega),List.take_length];unfold big at hn;omega;rfl
theorem Qvn{n k:Nat}{a b:List Rat}(hn:big≤n)(hl:a.length≤1000000)(hk:k<274877906944)(h:QR k a):Yy n (toR a) (rR b)=some (decide (a=b)):=by unfold Yy;rw[Qw6 hn (by rw[Qe3];exact hl),sbind,Q7v,Qlt hn hl hk h,sbind]
theorem Q7w{many k:Nat}{l:List Qc}(hB:Qah l)(h:FL many k l):FRr k l:=λx hx=>by have hb:=hB.2 x hx;have:=h.2 x hx;exact⟨hb.2.1.2,hb.2.2.1.2,this.1,this.2⟩
theorem Qvo{n k:Nat}{a b:List Rat}(hn:big≤n)(hk:k<274877906944)(ha:QR k a)(hb:QR k b)(hl:a.length=b.length)(hl2:a.length≤1000000):Ym n (rR a) (rR b)=some (rR (addQ a b)):=by
 unfold Ym;rw[Zf (λi=>(rR (addQ (a.take i) (b.take i)),(i:Int))) a.length (rR (addQ a b))];intro i hi;have hp:a[i]?=some a[i]:=List.getElem?_eq_getElem hi;have hp2:b[i]?=some (b[i]'(by omega)):=List.getElem?_eq_getElem (by omega);have q1:=ha a[i] (List.getElem_mem hi);have q2:=hb (b[i]'(by omega)) (List.getElem_mem (by omega));generalize a[i]=x at hp q1;generalize b[i]'(by omega)=y at hp2 q2;simp only[bifd];have e:addQ (a.take (i+1)) (b.take (i+1))=addQ (a.take i) (b.take i)++[x+y]:=by
  rw[Qq8 hp,Qq8 hp2];unfold addQ;rw[List.zipWith_append (by simp;omega)];rfl
 rw[if_pos (by rw[Qc1];omega),Kn (Qq7 hp),sbind,Kn (Qq7 hp2),sbind,Qob hn hk q1 q2,sbind,Xy (by simp[Qc1,Qlr];omega) (by simp[Qc1,Qlr];omega),sbind,w1 (by omega),e,Qri];simp only[bifd];rw[if_neg (by rw[Qc1];omega),List.take_length,hl,List.take_length];unfold big at hn;omega;rfl
def fresh(out:List Zh)(i:Nat)(s:List UInt8):Prop:=∀ w,out.getLast?=some w->w.At+w.Text.length≤i∧∀ c r,s=c::r->w.At+w.Text.length=(i:Int)->goC w.Ap c.toNat=false
theorem Qkr{α β:Type}(f:α->β){l:List α}{i:Nat}{x:α}(h:l[i]?=some x):(l.map f)[i]?=some (f x):=by rw[List.getElem?_map,h];rfl
def FKs(k:Nat)(l:List Qc):Prop:=∀ f∈l,Fk k (tF f)
structure SchWr(k:Nat)(s:Qdx):Prop where
 a:∀ r∈s.A,FKs k r
 al:∀ r∈s.A,r.length≤1000000
 b:FKs k s.B
 bl:s.B.length≤1000000
 c:FKs k s.C
 cl:s.C.length≤1000000
 e:FKs k s.E
 el:s.E.length≤1000000
 nl:s.Name.length≤1000000
structure PrbWr(k:Nat)(p:Qdk):Prop where
 t:∀ x∈p.Tape.Code,Fk k (tF x.N)
 o:p.Tape.Outs.length≤1000000
 s:SchWr k p.An
 pk:FKs k p.P
 pl:p.P.length≤1000000
def rRR(l:List (List Rat)):List (List Qc):=l.map rR
theorem Xa(l:List (List Rat)):(rRR l).length=l.length:=by unfold rRR;simp
theorem Qpe(l:List (List Rat))(a:List Rat):rRR (l++[a])=rRR l++[rR a]:=by unfold rRR;simp
theorem Qhb{l:List (List Rat)}{i:Nat}{a:List Rat}(h:l[i]?=some a):(rRR l)[i]?=some (rR a):=by unfold rRR;exact Qkr rR h
set_option maxRecDepth 100000
theorem PrbWr.mono{j k:Nat}{p:Qdk}(h:PrbWr j p)(hk:j≤k):PrbWr k p:=
 ⟨λx hx=>Qg9 (h.t x hx) hk,h.o,⟨λr hr f hf=>Qg9 (h.s.a r hr f hf) hk,h.s.al,λf hf=>Qg9 (h.s.b f hf) hk,h.s.bl,λf hf=>Qg9 (h.s.c f hf) hk,h.s.cl,λf hf=>Qg9 (h.s.e f hf) hk,h.s.el,h.s.nl⟩,λf hf=>Qg9 (h.pk f hf) hk,h.pl⟩
set_option maxRecDepth 100000
def RulW(k:Nat)(r:Qp8):Prop:=FR k [r.Tol,r.Safe,r.Low,r.High,r.Least]
theorem RulW.all{k:Nat}{r:Qp8}(h:RulW k r):Fk k r.Tol∧Fk k r.Safe∧Fk k r.Low∧Fk k r.High∧Fk k r.Least:=
 ⟨h _ (by simp),h _ (by simp),h _ (by simp),h _ (by simp),h _ (by simp)⟩
set_option maxRecDepth 100000
def addAt(l:List Rat)(a:Int)(c:Rat):List Rat:=l.set a.toNat (l.getD a.toNat 0+c)
theorem Q3m{l:List Rat}{a:Int}{c:Rat}:(addAt l a c).length=l.length:=List.length_set
structure BkS where
 co:List Rat
 T:Rat
 Y:List Rat
 P:List Rat
def Qoc(x:Q8)(c r:Rat)(vs:List Rat)(s:BkS):BkS:=
 if c=0 then s else
 if x.Op=2 then ⟨s.co,s.T+c,s.Y,s.P⟩ else
 if x.Op=3 then ⟨s.co,s.T,addAt s.Y x.A c,s.P⟩ else
 if x.Op=4 then ⟨s.co,s.T,s.Y,addAt s.P x.A c⟩ else
 if x.Op=6 then ⟨addAt s.co x.A (-c),s.T,s.Y,s.P⟩ else
 if x.Op=7 then ⟨addAt (addAt s.co x.A c) x.B c,s.T,s.Y,s.P⟩ else
 if x.Op=8 then ⟨addAt (addAt s.co x.A c) x.B (-c),s.T,s.Y,s.P⟩ else
 if x.Op=9 then ⟨addAt (addAt s.co x.A (c*vs.getD x.B.toNat 0)) x.B (c*vs.getD x.A.toNat 0),s.T,s.Y,s.P⟩ else
 if x.Op=10 then ⟨addAt (addAt s.co x.A (c / vs.getD x.B.toNat 0)) x.B (-(c / vs.getD x.B.toNat 0*r)),s.T,s.Y,s.P⟩ else
 if x.Op=11 then ⟨addAt s.co x.A (c*((x.B:Rat)*turnQ (vs.getD x.A.toNat 0) r x.B)),s.T,s.Y,s.P⟩ else s
theorem Qt4{x:Q8}{c r:Rat}{vs:List Rat}{s:BkS}:(Qoc x c r vs s).co.length=s.co.length∧(Qoc x c r vs s).Y.length=s.Y.length∧(Qoc x c r vs s).P.length=s.P.length:=by
 unfold Qoc
 repeat' split
 all_goals simp[Q3m]
structure BkW(b:Nat)(co:List Qa)(s:BkS):Prop where
 c:rv co=s.co
 k:FR b co
 t:qw s.T≤b
 y:QR b s.Y
 p:QR b s.P
theorem BkW.mono{b b':Nat}{co:List Qa}{s:BkS}(h:BkW b co s)(hb:b≤b'):BkW b' co s:=⟨h.c,Qiy h.k hb,Nat.le_trans h.t hb,Qha h.y hb,Qha h.p hb⟩
set_option maxRecDepth 100000
structure SameL(a b:BkS):Prop where
 c:b.co.length=a.co.length
 y:b.Y.length=a.Y.length
 p:b.P.length=a.P.length
theorem SameL.bk{x:Q8}{c1 c2 r:Rat}{vs:List Rat}{s1 s2:BkS}(h:SameL s1 s2):SameL (Qoc x c1 r vs s1) (Qoc x c2 r vs s2):=by obtain⟨a1,a2,a3⟩:=Qt4 (x:=x) (c:=c1) (r:=r) (vs:=vs) (s:=s1);obtain⟨b1,b2,b3⟩:=Qt4 (x:=x) (c:=c2) (r:=r) (vs:=vs) (s:=s2);exact⟨by rw[a1,b1,h.c],by rw[a2,b2,h.y],by rw[a3,b3,h.p]⟩
set_option maxRecDepth 100000
def sumN(f:Nat->Rat):Nat->Rat
 | 0=>0
 | i+1=>sumN f i+f i
theorem Qwf{f:Nat->Rat}:∀ {i:Nat},sumN f (i+1)=f 0+sumN (λj=>f (j+1)) i
 | 0=>by simp only[sumN];grind
 | i+1=>by rw[sumN,Qwf (i:=i),sumN];grind
def psum(a b:List Rat)(i:Nat):Rat:=sumN (λj=>a.getD j 0*b.getD j 0) i
theorem Qwg{a b:List Rat}{i:Nat}:psum a b (i+1)=psum a b i+a.getD i 0*b.getD i 0:=rfl
theorem Qwh{x y:Rat}{a b:List Rat}{i:Nat}:psum (x::a) (y::b) (i+1)=x*y+psum a b i:=by unfold psum;rw[Qwf];rfl
section
variable {t:Qx}{lim:Int}{T':Rat}{Y' P' vs ds:List Rat}
end
set_option maxRecDepth 100000
theorem Qsp{k:Nat}{a b:List Rat}(h1:1≤k)(ha:QR k a)(hb:QR k b):∀ i:Nat,qw (psum a b i)≤1+i*(2*k+1)
 | 0=>by show qw (0:Rat)≤_;rw[Qvb];omega
 | i+1=>by rw[Qwg,Nat.succ_mul];have:=Q3b (Qsp h1 ha hb i) (Qyy (Qkp (i:=i) ha h1) (Qkp (i:=i) hb h1));omega
theorem Qvp{n k:Nat}{a b:List Rat}(hn:big≤n)(h1:1≤k)(hk:k<1000000)(ha:QR k a)(hb:QR k b)(hl:a.length=b.length)(hl2:a.length≤1000):Yn n (rR a) (rR b)=some (rF (psum a b a.length)):=by
 unfold Yn;rw[Qsn hn,sbind,Zf (λi=>(rF (psum a b i),(i:Int))) a.length (rF (psum a b a.length))];intro i hi;have e1:a[i]?=some (a.getD i 0):=by rw[List.getD_eq_getElem?_getD,List.getElem?_eq_getElem hi];rfl
 have e2:b[i]?=some (b.getD i 0):=by rw[List.getD_eq_getElem?_getD,List.getElem?_eq_getElem (by omega)];rfl
 have q1:=Qkp (i:=i) ha h1;have q2:=Qkp (i:=i) hb h1;have q3:=Qyy q1 q2;have q4:=Qsp h1 ha hb i;have q5:i*(2*k+1)≤1000*(2*k+1):=Nat.mul_le_mul_right _ (by omega);simp only[Qc1];rw[decide_eq_true (show(i:Int)<(a.length:Int) by omega),bifT,Kn (Qq7 e1),sbind,Kn (Qq7 e2),sbind,Qvl (k:=k) hn (by omega) q1 q2,sbind,Qob (k:=1000*(2*k+1)+2*k+1) hn (by omega) (by omega) (by omega),sbind,w1 (by omega),Qwg];simp only[Qc1];rw[decide_eq_false (by omega),bifF];unfold big at hn;omega;rfl
set_option maxRecDepth 100000
structure LinF(F:List Rat->List Rat->List Rat)(n k m:Nat):Prop where
 len:∀ {U V},U.length=n->V.length=k->(F U V).length=m
 lin:∀ {c U1 U2 V1 V2},U1.length=n->U2.length=n->V1.length=k->V2.length=k->F (linQ c U1 U2) (linQ c V1 V2)=linQ c (F U1 V1) (F U2 V2)
def zerQ(n:Nat):List Rat:=List.replicate n 0
def uniQ(n i:Nat):List Rat:=(zerQ n).set i 1
def truQ(U:List Rat)(i:Nat):List Rat:=U.take i++zerQ (U.length - i)
theorem Y4{n:Nat}:(zerQ n).length=n:=by simp[zerQ]
theorem Qi1{n i:Nat}:(uniQ n i).length=n:=by simp[uniQ,Y4]
theorem Qi2{U:List Rat}{i:Nat}(h:i≤U.length):(truQ U i).length=U.length:=by simp[truQ,Y4];omega
theorem Qsq{n i:Nat}:(zerQ n).getD i 0=0:=by unfold zerQ;rw[List.getD_eq_getElem?_getD,List.getElem?_replicate];split<;>rfl
theorem Q4q{n i j:Nat}(hi:i<n):(uniQ n i).getD j 0=if j=i then 1 else 0:=by unfold uniQ;rw[List.getD_eq_getElem?_getD,List.getElem?_set];by_cases h:i=j;subst h;rw[if_pos rfl,if_pos (by rw[Y4];exact hi),if_pos rfl];rfl;rw[if_neg h,if_neg (λe=>h e.symm),←List.getD_eq_getElem?_getD,Qsq]
theorem Qy8{U:List Rat}{i j:Nat}:(truQ U i).getD j 0=if j<i then U.getD j 0 else 0:=by unfold truQ;rw[List.getD_eq_getElem?_getD,List.getElem?_append,List.length_take];split;rename_i h;rw[if_pos (by omega),List.getElem?_take,if_pos (by omega),List.getD_eq_getElem?_getD];rename_i h;rw[←List.getD_eq_getElem?_getD,Qsq];split;rename_i h2;rw[List.getD_eq_getElem?_getD,List.getElem?_eq_none (by omega)];rfl;rfl
theorem Qsr{a b:List Rat}(h:a.length=b.length)(g:∀ i,i<a.length->a.getD i 0=b.getD i 0):a=b:=by apply List.ext_getElem h;intro i h1 h2;have:=g i h1;rw[List.getD_eq_getElem?_getD,List.getD_eq_getElem?_getD,List.getElem?_eq_getElem h1,List.getElem?_eq_getElem h2] at this;exact this
theorem Qy9{U:List Rat}:truQ U 0=zerQ U.length:=rfl
theorem Q0n{U:List Rat}:truQ U U.length=U:=by unfold truQ;rw[List.take_length,Nat.sub_self];exact List.append_nil _
theorem Qza{U:List Rat}{i:Nat}(h:i<U.length):truQ U (i+1)=linQ (U.getD i 0) (uniQ U.length i) (truQ U i):=by apply Qsr;rw[Q0h (by rw[Qi1,Qi2 (by omega)]),Qi2 (by omega),Qi1];intro j hj;rw[Qls (by rw[Qi1,Qi2 (by omega)]),Qy8,Qy8,Q4q h];by_cases c1:j=i;subst c1;rw[if_pos (by omega),if_pos rfl,if_neg (by omega)];grind;rw[if_neg c1];by_cases c2:j<i;rw[if_pos (by omega),if_pos c2];grind;rw[if_neg (by omega),if_neg c2];grind
theorem Qvq{c:Rat}{n:Nat}:linQ c (zerQ n) (zerQ n)=zerQ n:=(Qwb n).symm
theorem Q4r{c:Rat}{U:List Rat}:linQ c (zerQ U.length) U=U:=by apply Qsr;rw[Q0h (by rw[Y4]),Y4];intro j hj;rw[Qls (by rw[Y4]),Qsq];grind
section
variable {F:List Rat->List Rat->List Rat}{n k m:Nat}
theorem LinF.zero(hF:LinF F n k m){r:Nat}:(F (zerQ n) (zerQ k)).getD r 0=0:=by have e:=hF.lin (c:=-1) (U1:=zerQ n) (U2:=zerQ n) (V1:=zerQ k) (V2:=zerQ k) Y4 Y4 Y4 Y4;rw[Qvq,Qvq] at e;have g:(F (zerQ n) (zerQ k)).getD r 0=(linQ (-1) (F (zerQ n) (zerQ k)) (F (zerQ n) (zerQ k))).getD r 0:=congrArg (λl:List Rat=>l.getD r 0) e;rw[Qls rfl] at g;generalize (F (zerQ n) (zerQ k)).getD r 0=x at g;grind
theorem LinF.left(hF:LinF F n k m){U:List Rat}{r:Nat}(hU:U.length=n):∀ i:Nat,i≤n->(F (truQ U i) (zerQ k)).getD r 0=sumN (λj=>U.getD j 0*(F (uniQ n j) (zerQ k)).getD r 0) i
 | 0,_=>by rw[Qy9,hU,hF.zero];rfl
 | i+1,h=>by have e:=hF.lin (c:=U.getD i 0) (U1:=uniQ n i) (U2:=truQ U i) (V1:=zerQ k) (V2:=zerQ k) Qi1 (by rw[Qi2 (by omega),hU]) Y4 Y4;rw[Qvq] at e;rw[Qza (by omega),hU,e,Qls (by rw[hF.len Qi1 Y4,hF.len (by rw[Qi2 (by omega),hU]) Y4]),hF.left hU i (by omega),sumN];grind
theorem LinF.right(hF:LinF F n k m){U V:List Rat}{r:Nat}(hU:U.length=n)(hV:V.length=k):∀ i:Nat,i≤k->(F U (truQ V i)).getD r 0=(F U (zerQ k)).getD r 0+sumN (λj=>V.getD j 0*(F (zerQ n) (uniQ k j)).getD r 0) i
 | 0,_=>by rw[Qy9,hV];simp only[sumN];grind
 | i+1,h=>by have e:=hF.lin (c:=V.getD i 0) (U1:=zerQ n) (U2:=U) (V1:=uniQ k i) (V2:=truQ V i) Y4 hU Qi1 (by rw[Qi2 (by omega),hV]);rw[←hU,Q4r,hU] at e;rw[Qza (by omega),hV,e,Qls (by rw[hF.len Y4 Qi1,hF.len hU (by rw[Qi2 (by omega),hV])]),hF.right hU hV i (by omega),sumN];grind
theorem LinF.all(hF:LinF F n k m){U V:List Rat}{r:Nat}(hU:U.length=n)(hV:V.length=k):
 (F U V).getD r 0=sumN (λj=>U.getD j 0*(F (uniQ n j) (zerQ k)).getD r 0) n+sumN (λj=>V.getD j 0*(F (zerQ n) (uniQ k j)).getD r 0) k:=by
 have e1:=hF.right (r:=r) hU hV k (Nat.le_refl _);have e2:=hF.left (r:=r) hU n (Nat.le_refl _);rw[show truQ V k=V by rw[←hV,Q0n]] at e1;rw[show truQ U n=U by rw[←hU,Q0n]] at e2;rw[e1,e2]
end
def widM{α:Type}:List (List α)->Nat
 | []=>0
 | r::_=>r.length
def recM{α:Type}(M:List (List α)):Prop:=∀ r∈M,r.length=widM M
theorem Qjb(M:List (List Qa)):Zn M=some ((widM M:Nat):Int):=by
 unfold Zn;cases M with
 | nil=>rfl
 | cons r M=>
   rw[decide_eq_false (show ¬(((r::M).length:Nat):Int)=0 by simp;omega),bifF];rfl
theorem Qf9(M:List (List Qc)):K5 M=some ((widM M:Nat):Int):=by
 unfold K5;cases M with
 | nil=>rfl
 | cons r M=>
   rw[decide_eq_false (show ¬(((r::M).length:Nat):Int)=0 by simp;omega),bifF];rfl
theorem Qga(M:List (List Qa)):Yw M=some (dP (recM M)):=by
 classical
 unfold Yw;rw[Qjb,Qjn (P:=λ_ r=>r.length=widM M) (r:=false)];by_cases h:recM M;rw[if_pos (λi x hx=>h x (List.mem_of_getElem? hx)),dP_t h]
 rw[if_neg (λg=>h λr hr=>by
  obtain⟨i,hi⟩:=List.getElem?_of_mem hr
  exact g i r hi),dP_f h]
 intro i x _;rw[sbind];constructor;intro h;rw[decide_eq_true (by omega)];rfl;intro h;rw[decide_eq_false (by omega)];rfl
theorem Qvr{α β:Type}{f:List α->List β}(hf:∀ l,(f l).length=l.length)(M:List (List α)):widM (M.map f)=widM M∧(recM (M.map f)↔recM M):=by
 have hw:widM (M.map f)=widM M:=by
  cases M with
  | nil=>rfl
  | cons r M=>exact hf r
 refine⟨hw,?_⟩;unfold recM;rw[hw];constructor;intro h r hr;have:=h (f r) (List.mem_map_of_mem hr);rwa [hf] at this;intro h r hr;obtain⟨s,hs,rfl⟩:=List.mem_map.1 hr;rw[hf];exact h s hs
theorem Qjc{n:Nat}{M:List (List Qc)}(hn:big≤n)(hl:M.length≤1000000):K4 n M=some (dP (recM M)):=by
 classical
 unfold K4;rw[Qix (λi=>∀ r,M[i]?=some r->r.length=widM M) M.length (r:=false)];by_cases h:recM M;rw[if_pos (λi _ r hr=>h r (List.mem_of_getElem? hr)),dP_t h]
 rw[if_neg (λg=>h λr hr=>by
  obtain⟨i,hi⟩:=List.getElem?_of_mem hr
  exact g i (List.getElem?_eq_some_iff.1 hi).1 r hi),dP_f h]
 intro i hi;have hx:M[i]?=some (M[i]'hi):=List.getElem?_eq_getElem hi;generalize M[i]'hi=x at hx;have h0:∃ y,M[0]?=some y∧y.length=widM M:=by
  cases M with
  | nil=>simp at hi
  | cons r M=>exact⟨r,rfl,rfl⟩
 obtain⟨y,hy,hyw⟩:=h0;rw[decide_eq_true (by omega),bifT,Kn hx,sbind,show getI M (0:Int)=some y from Kn (i:=0) hy,sbind,hyw];constructor;intro h;rw[decide_eq_true (by have:=h x hx;omega),Bool.not_true,bifF,w1 (by omega)];intro h;rw[decide_eq_false (λe=>h λr hr=>by rw[hx] at hr;cases hr;omega),Bool.not_false,bifT];rw[decide_eq_false (by omega),bifF];unfold big at hn;omega
set_option maxRecDepth 100000
def colJ(M:List (List Rat))(j:Nat):List Rat:=M.map (·.getD j 0)
def leftR(r:List Rat)(M:List (List Rat)):List Rat:=(List.range (widM M)).map λj=>psum (colJ M j) r M.length
def mulR(A B:List (List Rat)):List (List Rat):=A.map λr=>leftR r B
def sumRows:List (List Rat)->List Rat
 | []=>[]
 | a::l=>l.foldl addQ a
theorem Qvs{w:Nat}:∀ {l:List (List Rat)}{a:List Rat},a.length=w->(∀ b∈l,b.length=w)->(l.foldl addQ a).length=w
 | [],_,ha,_=>ha
 | b::l,a,ha,h=>Qvs (l:=l) (a:=addQ a b) (by rw[Qlr,ha,h b (.head _)];exact Nat.min_self _) (λx hx=>h x (.tail _ hx))
theorem Q4s{a b:List Rat}{j:Nat}(h1:j<a.length)(h2:j<b.length):(addQ a b).getD j 0=a.getD j 0+b.getD j 0:=by unfold addQ;rw[List.getD_eq_getElem?_getD,List.getD_eq_getElem?_getD,List.getD_eq_getElem?_getD,List.getElem?_zipWith,List.getElem?_eq_getElem h1,List.getElem?_eq_getElem h2];rfl
theorem Qt5{c:Rat}{a:List Rat}{j:Nat}:(scaleQ c a).getD j 0=c*a.getD j 0:=by
 unfold scaleQ;rw[List.getD_eq_getElem?_getD,List.getD_eq_getElem?_getD,List.getElem?_map];cases a[j]? with
 | none=>show(0:Rat)=c*0;rw[Rat.mul_zero]
 | some x=>rfl
theorem Q0o{w j:Nat}(hj:j<w):∀ {r:List Rat}{M:List (List Rat)}{a:List Rat},r.length=M.length->a.length=w->(∀ b∈M,b.length=w) →
 ((List.zipWith scaleQ r M).foldl addQ a).getD j 0=a.getD j 0+psum (colJ M j) r M.length
 | [],[],a,_,_,_=>by show a.getD j 0=a.getD j 0+0;rw[Rat.add_zero]
 | [],_::_,_,h,_,_=>by simp at h
 | _::_,[],_,h,_,_=>by simp at h
 | c::r,m::M,a,hr,ha,h=>by
   have hm:m.length=w:=h m (.head _);have e:(addQ a (scaleQ c m)).length=w:=by rw[Qlr,Qe4,ha,hm];exact Nat.min_self _
   show((List.zipWith scaleQ r M).foldl addQ (addQ a (scaleQ c m))).getD j 0=a.getD j 0+psum (m.getD j 0::colJ M j) (c::r) (M.length+1);rw[Q0o hj (by simpa using hr) e (λx hx=>h x (.tail _ hx)),Qwh,Q4s (by omega) (by rw[Qe4];omega),Qt5,Rat.mul_comm c,Rat.add_assoc]
theorem Q5u{r:List Rat}{M:List (List Rat)}(he:r.length=M.length)(hc:recM M):sumRows (List.zipWith scaleQ r M)=leftR r M:=by
 cases M with
 | nil=>
   cases r with
   | nil=>rfl
   | cons c r=>simp at he
 | cons m M=>
   cases r with
   | nil=>simp at he
   | cons c r=>
     have hM:∀ b∈M,b.length=m.length:=λb hb=>hc b (.tail _ hb);have l1:(sumRows (List.zipWith scaleQ (c::r) (m::M))).length=m.length:=by refine Qvs (l:=List.zipWith scaleQ r M) (a:=scaleQ c m) Qe4 (Qn7 λx _ y hy=>?_);rw[Qe4];exact hM y hy
     have l2:(leftR (c::r) (m::M)).length=m.length:=by unfold leftR widM;simp
     refine Qsr (by rw[l1,l2]) λj hj=>?_;rw[l1] at hj;show((List.zipWith scaleQ r M).foldl addQ (scaleQ c m)).getD j 0=_;have e2:(leftR (c::r) (m::M)).getD j 0=psum (m.getD j 0::colJ M j) (c::r) (M.length+1):=by unfold leftR;rw[List.getD_eq_getElem?_getD,List.getElem?_map,List.getElem?_range (show j<widM (m::M) from hj)];rfl
     rw[e2,Q0o hj (by simpa using he) Qe4 hM,Qt5,Qwh,Rat.mul_comm c]
theorem Q3n{k:Nat}:∀ {l:List (List Rat)}{a:List Rat}{j:Nat},QR j a->(∀ b∈l,QR k b)->QR (j+l.length*(k+1)) (l.foldl addQ a)
 | [],_,_,ha,_=>Qha ha (Nat.le_add_right _ _)
 | b::l,a,j,ha,h=>by have:=Q3n (l:=l) (Q3d ha (h b (.head _))) (λx hx=>h x (.tail _ hx));refine Qha this ?_;rw[List.length_cons,Nat.succ_mul];omega
theorem Q0p{k:Nat}{r:List Rat}{M:List (List Rat)}(h1:1≤k)(hr:QR k r)(hM:∀ b∈M,QR k b)(hl:M.length≤10):QR (21*k+11) (leftR r M):=λq hq=>by
 unfold leftR at hq;obtain⟨j,hj,rfl⟩:=List.mem_map.1 hq
 have hc:QR k (colJ M j):=λx hx=>by unfold colJ at hx;obtain⟨m,hm,rfl⟩:=List.mem_map.1 hx;exact Qkp (hM m hm) h1
 have:=Qsp h1 hc hr M.length;have h2:M.length*(2*k+1)≤10*(2*k+1):=Nat.mul_le_mul_right _ hl;omega
theorem Q7x{n k:Nat}{u:List Rat}{b:List Qa}(hn:big≤n)(h1:1≤k)(hk:k<1099511627776)(hu:QR k u)(hb:FR k b)(h:u.length=b.length):
 ((rangeL (λ(i86:Nat) (x87:Qa) (s85:List Qa)=>
  (getI s85 (i86:Int)).bind λy89=>
  (Kw n y89 x87).bind λr91=>
  (getI s85 (i86:Int)).bind λ_=>
  some (Lp.go (List.set s85 (Int.toNat (i86:Int)) r91))) b 0 (toR u):Option (Lp (List Qa) (Lp (List Qa) (List Qa×Bool)))).bind (lpK λ(s95:List Qa)=>some (Lp.go s95)))=some (Lp.go (toR (addQ u (rv b)))):=by
 rw[Qwa (λ(x:Qa) (y:Qa)=>toF (fv y+fv x)) b (toR u) (by rw[Qe3,h]),Wu];refine congrArg (λz=>some (Lp.go z)) ?_;unfold addQ toR rv;rw[List.map_zipWith,List.zipWith_map_right,List.zipWith_map_right,List.zipWith_comm];congr 1;funext x y;simp only[Qyx];intro i x y s' hx hy hy';have hy2:Fk k y:=Qq5 hu y (K9 hy);rw[Kn hy',sbind,Qpq hn h1 hk hy2 (hb x (K9 hx)),sbind,sbind,Int.toNat_natCast]
theorem Qw7{n k w:Nat}{l:List (List Rat)}(hn:big≤n)(h1:1≤k)(hk:k≤10000)(h:∀ b∈l,QR k b∧b.length=w)(hl:l.length≤10)(hw:w≤1000):Xe n (toRR l)=some (toR (sumRows l),true):=by
 cases l with
 | nil=>rfl
 | cons a l=>
   unfold Xe;obtain⟨qa,la⟩:=h a (.head _);have hs:sub (toRR (a::l)) (1:Int) ((toRR (a::l)).length:Int)=some (toRR l):=by have e:toRR (a::l)=toR a::toRR l:=rfl;rw[e,show(1:Int)=((1:Nat):Int) from rfl,Q5e (by simp) (Nat.le_refl _),List.take_length];rfl
   rw[decide_eq_false (by rw[Qct];simp;omega),bifF,show getI (toRR (a::l)) (0:Int)=some (toR a) from rfl,sbind,Qpr hn (k:=k) (by omega) (Qq5 qa) (by rw[Qe3];omega),sbind,Qy0,hs,sbind];rw[Qg8 (λi=>toR ((l.take i).foldl addQ a)) (toRR l)];rw[Wu,Qct,List.take_length];rfl;intro i x hx;have hi:i<l.length:=by have:=(List.getElem?_eq_some_iff.1 hx).1;rwa [Qct] at this
   have hb:l[i]?=some l[i]:=List.getElem?_eq_getElem hi;have hbm:l[i]∈l:=List.getElem_mem hi;generalize l[i]=b at hb hbm;have hxb:x=toR b:=by have:=Qkr toR hb;unfold toRR at hx;rw[this] at hx;exact(Option.some.inj hx).symm
   subst hxb;obtain⟨qb,lb⟩:=h b (.tail _ hbm);have hpl:∀ c∈l.take i,QR k c∧c.length=w:=λc hc=>h c (.tail _ (List.mem_of_mem_take hc));have ls:((l.take i).foldl addQ a).length=w:=Qvs la λc hc=>(hpl c hc).2;have qs:=Q3n (l:=l.take i) qa (λc hc=>(hpl c hc).1);have ht:(l.take i).length≤10:=by rw[List.length_take];simp at hl;omega
   have hm:(l.take i).length*(k+1)≤10*(k+1):=Nat.mul_le_mul_right _ ht;have qs2:QR (11*k+10) ((l.take i).foldl addQ a):=Qha qs (by omega);simp only[Qe3];rw[ls,lb,decide_eq_true rfl,Bool.not_true,bifF,Q7x (k:=11*k+10) hn (by omega) (by omega) qs2 (Qq5 (Qha qb (by omega))) (by rw[Qe3,ls,lb]),Qy0];rw[show l.take (i+1)=l.take i++[b] by rw[List.take_add_one,hb];rfl,List.foldl_append];rfl;rfl
theorem Qss{α β γ:Type}{g:α->β->γ}{a:List α}{b:List β}{i:Nat}{x:α}{y:β}(hx:a[i]?=some x)(hy:b[i]?=some y):(List.zipWith g a b).take (i+1)=(List.zipWith g a b).take i++[g x y]:=by rw[List.take_add_one,List.getElem?_zipWith,hx,hy];rfl
theorem Qlu(M:List (List Qa)):widM (M.map rv)=widM M∧(recM (M.map rv)↔recM M):=Qvr Qjo M
theorem Q1r{n k:Nat}{r:List Qa}{M:List (List Qa)}(hn:big≤n)(h1:1≤k)(hk:k≤1000)(hr:FR k r)(hM:∀ b∈M,FR k b∧b.length≤1000)(hl:M.length≤10)(he:r.length=M.length)(hc:recM M):
 Qfq n r M=some (toR (leftR (rv r) (M.map rv)),true):=by
 unfold Qfq;simp only[jn_eq];rw[decide_eq_true (show(r.length:Int)=(M.length:Int) by omega),Bool.not_true,bifF,Qga,sbind,dP_t hc,Bool.not_true,bifF];have hz:(List.zipWith scaleQ (rv r) (M.map rv)).length=M.length:=by rw[List.length_zipWith,Qjo,List.length_map];omega
 rw[Qg8 (λi=>toRR ((List.zipWith scaleQ (rv r) (M.map rv)).take i)) M];rw[Wu,show(List.zipWith scaleQ (rv r) (M.map rv)).take M.length=List.zipWith scaleQ (rv r) (M.map rv) by rw[←hz];exact List.take_length];have hrow:∀ b∈List.zipWith scaleQ (rv r) (M.map rv),QR (k+k) b∧b.length=widM M:=by refine Qn7 λc hc' b hb=>?_;obtain⟨m,hm,rfl⟩:=List.mem_map.1 hb;exact⟨Q4k (QR_rv hr h1 c hc') (QR_rv (hM m hm).1 h1),by rw[Qe4,Qjo];exact hc m hm⟩
 have hww:widM M≤1000:=by
  cases M with
  | nil=>exact Nat.zero_le _
  | cons m M=>exact(hM m (.head _)).2
 rw[Qw7 (k:=k+k) (w:=widM M) hn (by omega) (by omega) hrow (by omega) hww,sbind,Q5u (by rw[Qjo,List.length_map,he]) ((Qlu M).2.2 hc)];intro i x hx;have hi:i<M.length:=(List.getElem?_eq_some_iff.1 hx).1;have hcx:r[i]?=some (r[i]'(by omega)):=List.getElem?_eq_getElem (by omega);generalize r[i]'(by omega)=c at hcx;rw[Kn hcx,sbind,Qvd hn h1 (by omega) (hr c (K9 hcx)) (hM x (K9 hx)).1 (by have:=(hM x (K9 hx)).2;omega),sbind];have hc2:(rv r)[i]?=some (fv c):=Qkr fv hcx;have hx2:(M.map rv)[i]?=some (rv x):=Qkr rv hx;have ht:(toRR ((List.zipWith scaleQ (rv r) (M.map rv)).take i)).length≤10:=by rw[Qct,List.length_take];omega
 rw[Xy (by simp only[List.length_cons,List.length_nil];omega) (by simp only[List.length_cons,List.length_nil];omega),sbind,Qss hc2 hx2];unfold toRR;rw[List.map_append];rfl;rfl
set_option maxRecDepth 100000
def MB(k:Nat)(M:List (List Qa)):Prop:=M.length≤10∧∀ r∈M,FR k r∧r.length≤1000
theorem Qks{M:List (List Qa)}{i:Nat}{r:List Qa}(h:M[i]?=some r):(M.map rv)[i]?=some (rv r):=Qkr rv h
theorem Qc2{α β:Type}{f:α->β}{l:List α}{i:Nat}{x:α}(h:l[i]?=some x):(l.take (i+1)).map f=(l.take i).map f++[f x]:=by rw[List.take_add_one,h,List.map_append];rfl
open Classical in
theorem Qwi{n k:Nat}{A B:List (List Qa)}(hn:big≤n)(h1:1≤k)(hk:k≤1000)(hA:MB k A)(hB:MB k B):
 Qex n A B=some (if recM A∧recM B∧widM A=B.length then (toRR (mulR (A.map rv) (B.map rv)),true) else ([],false)):=by
 unfold Qex;simp only[jn_eq];rw[Qga,sbind];by_cases c1:recM A
 case neg=>rw[dP_f c1,Bool.not_false,bifT,bifT,if_neg (λh=>c1 h.1)]
 rw[dP_t c1,Bool.not_true,bifF,Qga,sbind];by_cases c2:recM B
 case neg=>rw[dP_f c2,Bool.not_false,bifT,bifT,if_neg (λh=>c2 h.2.1)]
 rw[dP_t c2,Bool.not_true,bifF,Qjb,sbind];by_cases c3:widM A=B.length
 case neg=>rw[decide_eq_false (by omega),Bool.not_false,bifT,if_neg (λh=>c3 h.2.2)]
 rw[decide_eq_true (by omega),Bool.not_true,bifF,if_pos ⟨c1,c2,c3⟩];rw[Qg8 (λi=>toRR (mulR ((A.map rv).take i) (B.map rv))) A]
 . rw[Wu,show(A.map rv).take A.length=A.map rv by rw[←List.length_map (f:=rv)];exact List.take_length]
 . intro i x hx
   have hm:=K9 hx;have hl:x.length=B.length:=by rw[←c3];exact c1 x hm
   rw[Q1r hn h1 hk (hA.2 x hm).1 hB.2 hB.1 hl c2,sbind];have ht:(toRR (mulR ((A.map rv).take i) (B.map rv))).length≤10:=by rw[Qct];unfold mulR;rw[List.length_map,List.length_take,List.length_map];have:=hA.1;omega
   rw[Xy (by simp only[List.length_cons,List.length_nil];omega) (by simp only[List.length_cons,List.length_nil];omega),sbind];unfold mulR;rw[Qc2 (Qks hx)];unfold toRR;rw[List.map_append];rfl
 . rfl
open Classical in
theorem Q3o{n k:Nat}{A B:List (List Qa)}(hn:big≤n)(h1:1≤k)(hk:k≤100000)(hA:MB k A)(hB:MB k B):
 Qhs n A B=some (if recM A∧recM B∧A.length=B.length∧widM A=widM B then (toRR (List.zipWith addQ (A.map rv) (B.map rv)),true) else ([],false)):=by
 unfold Qhs;simp only[jn_eq];rw[Qga,sbind];by_cases c1:recM A
 case neg=>rw[dP_f c1,Bool.not_false,bifT,bifT,if_neg (λh=>c1 h.1)]
 rw[dP_t c1,Bool.not_true,bifF,Qga,sbind];by_cases c2:recM B
 case neg=>rw[dP_f c2,Bool.not_false,bifT,bifT,if_neg (λh=>c2 h.2.1)]
 rw[dP_t c2,Bool.not_true,bifF];by_cases c3:A.length=B.length
 case neg=>rw[decide_eq_false (by omega),Bool.not_false,bifT,bifT,if_neg (λh=>c3 h.2.2.1)]
 rw[decide_eq_true (by omega),Bool.not_true,bifF,Qjb,sbind,Qjb,sbind];by_cases c4:widM A=widM B
 case neg=>rw[decide_eq_false (by omega),Bool.not_false,bifT,if_neg (λh=>c4 h.2.2.2)]
 rw[decide_eq_true (by omega),Bool.not_true,bifF,if_pos ⟨c1,c2,c3,c4⟩];have hz:(List.zipWith addQ (A.map rv) (B.map rv)).length=A.length:=by rw[List.length_zipWith,List.length_map,List.length_map];omega
 rw[Qg8 (λi=>toRR ((List.zipWith addQ (A.map rv) (B.map rv)).take i)) A]
 . rw[Wu,show(List.zipWith addQ (A.map rv) (B.map rv)).take A.length=List.zipWith addQ (A.map rv) (B.map rv) by rw[←hz];exact List.take_length]
 . intro i x hx
   have hi:i<A.length:=(List.getElem?_eq_some_iff.1 hx).1;have hy:B[i]?=some (B[i]'(by omega)):=List.getElem?_eq_getElem (by omega);generalize B[i]'(by omega)=y at hy;have hxm:=K9 hx;have hym:=K9 hy;have hl:x.length=y.length:=by rw[c1 x hxm,c2 y hym,c4]
   rw[Kn hy,sbind,Qy1 hn h1 (by omega) (hA.2 x hxm).1 (hB.2 y hym).1 (by have:=(hA.2 x hxm).2;omega),sbind,if_pos hl];have ht:(toRR ((List.zipWith addQ (A.map rv) (B.map rv)).take i)).length≤10:=by rw[Qct,List.length_take,hz];have:=hA.1;omega
   rw[Xy (by simp only[List.length_cons,List.length_nil];omega) (by simp only[List.length_cons,List.length_nil];omega),sbind,Qss (Qks hx) (Qks hy)];unfold toRR;rw[List.map_append];rfl
 . rfl
def fitR(A B:List (List Rat)):Prop:=recM A∧recM B∧widM A=B.length
def sumF(A B:List (List Rat)):Prop:=recM A∧recM B∧A.length=B.length∧widM A=widM B
def chnF(aY aP bY bP:List (List Rat)):Prop:=(fitR bY aY∧fitR bY aP)∧sumF (mulR bY aP) bP
theorem MB_rv{k:Nat}{M:List (List Qa)}(h1:1≤k)(h:MB k M):∀ b∈M.map rv,QR k b:=λb hb=>by obtain⟨m,hm,rfl⟩:=List.mem_map.1 hb;exact QR_rv (h.2 m hm).1 h1
theorem Q7y{k:Nat}{A B:List (List Qa)}(h1:1≤k)(hA:MB k A)(hB:MB k B):MB (21*k+11) (toRR (mulR (A.map rv) (B.map rv))):=by
 refine⟨by rw[Qct];unfold mulR;rw[List.length_map,List.length_map];exact hA.1,λr hr=>?_⟩;unfold toRR mulR at hr;rw[List.map_map] at hr;obtain⟨a,ha,rfl⟩:=List.mem_map.1 hr;refine⟨Qq5 (Q0p h1 (MB_rv h1 hA a ha) (MB_rv h1 hB) (by rw[List.length_map];exact hB.1)),?_⟩;show(toR (leftR a (B.map rv))).length≤1000;rw[Qe3];unfold leftR;rw[List.length_map,List.length_range,(Qlu B).1];cases B with
 | nil=>exact Nat.zero_le _
 | cons b B=>exact(hB.2 b (.head _)).2
open Classical in
theorem Q1s{n k:Nat}{x y:Jv}(hn:big≤n)(h1:1≤k)(hk:k≤1000)(hxY:MB k x.Y)(hxP:MB k x.P)(hyY:MB k y.Y)(hyP:MB k y.P):
 Qfr n x y=some (if chnF (x.Y.map rv) (x.P.map rv) (y.Y.map rv) (y.P.map rv) then (⟨toRR (mulR (y.Y.map rv) (x.Y.map rv)),toRR (List.zipWith addQ (mulR (y.Y.map rv) (x.P.map rv)) (y.P.map rv))⟩,true) else (⟨[],[]⟩,false)):=by
 have sh:∀ A B:List (List Qa),(recM A∧recM B∧widM A=B.length)↔fitR (A.map rv) (B.map rv):=λA B=>by unfold fitR;rw[(Qlu A).2,(Qlu B).2,(Qlu A).1,List.length_map]
 unfold Qfr;simp only[jn_eq];rw[Qwi hn h1 hk hyY hxY,sbind,Qwi hn h1 hk hyY hxP,sbind];by_cases c1:fitR (y.Y.map rv) (x.Y.map rv)
 case neg=>rw[if_neg (λh=>c1 ((sh _ _).1 h)),Bool.not_false,bifT,bifT,if_neg (λh=>c1 h.1.1)]
 rw[if_pos ((sh _ _).2 c1),Bool.not_true,bifF];by_cases c2:fitR (y.Y.map rv) (x.P.map rv)
 case neg=>rw[if_neg (λh=>c2 ((sh _ _).1 h)),Bool.not_false,bifT,if_neg (λh=>c2 h.1.2)]
 rw[if_pos ((sh _ _).2 c2),Bool.not_true,bifF];have hm:=Q7y h1 hyY hxP;rw[Q3o (k:=21*k+11) hn (by omega) (by omega) hm ⟨hyP.1,λr hr=>⟨Qiy (hyP.2 r hr).1 (by omega),(hyP.2 r hr).2⟩⟩,sbind,Q5p];have sh2:(recM (toRR (mulR (y.Y.map rv) (x.P.map rv)))∧recM y.P∧(toRR (mulR (y.Y.map rv) (x.P.map rv))).length=y.P.length∧widM (toRR (mulR (y.Y.map rv) (x.P.map rv)))=widM y.P)↔sumF (mulR (y.Y.map rv) (x.P.map rv)) (y.P.map rv):=by
  unfold sumF;rw[(Qlu y.P).2,(Qlu y.P).1,List.length_map,Qct];have:=Qvr Qe3 (mulR (y.Y.map rv) (x.P.map rv));unfold toRR;rw[this.2,this.1]
 by_cases c3:sumF (mulR (y.Y.map rv) (x.P.map rv)) (y.P.map rv)
 case neg=>rw[if_neg (λh=>c3 (sh2.1 h)),Bool.not_false,bifT,if_neg (λh=>c3 h.2)]
 rw[if_pos (sh2.2 c3),Bool.not_true,bifF,if_pos ⟨⟨c1,c2⟩,c3⟩]
theorem Qt6{n k:Nat}{A B:List (List Qa)}(hn:big≤n)(h1:1≤k)(hk:k≤1000)(hA:MB k A)(hB:MB k B):Qdd n A B=some (dP (A.map rv=B.map rv)):=by
 unfold Qdd;by_cases c0:A.length=B.length
 case neg=>rw[decide_eq_false (by omega),Bool.not_false,bifT,dP_f λh=>c0 (by have:=congrArg List.length h;simpa using this)]
 rw[decide_eq_true (by omega),Bool.not_true,bifF,Qjn (P:=λi x=>(B.map rv)[i]?=some (rv x)) (r:=false)]
 . by_cases h:A.map rv=B.map rv
   . rw[if_pos (λi x hx=>by rw[←h];exact Qks hx),dP_t h]
   . rw[if_neg (λg=>h (List.ext_getElem? λi=>by
      by_cases hi:i<A.length
      . have hx:A[i]?=some A[i]:=List.getElem?_eq_getElem hi
        rw[g i A[i] hx];exact Qks hx
      . rw[List.getElem?_eq_none (by simp;omega),List.getElem?_eq_none (by simp;omega)])),dP_f h]
 . intro i x hx
   have hi:i<A.length:=(List.getElem?_eq_some_iff.1 hx).1;have hy:B[i]?=some (B[i]'(by omega)):=List.getElem?_eq_getElem (by omega);generalize B[i]'(by omega)=y at hy;rw[Kn hy,sbind,Qw1 hn h1 (by omega) (hA.2 x (K9 hx)).1 (hB.2 y (K9 hy)).1,sbind,Qks hy];constructor
   . intro h;rw[decide_eq_true (Option.some.inj h).symm,Bool.not_true,bifF]
   . intro h;rw[decide_eq_false (λe=>h (by rw[e])),Bool.not_false,bifT]
theorem Q1t{n k:Nat}{x y:Jv}(hn:big≤n)(h1:1≤k)(hk:k≤1000)(hxY:MB k x.Y)(hxP:MB k x.P)(hyY:MB k y.Y)(hyP:MB k y.P):
 Qey n x y=some (dP (x.Y.map rv=y.Y.map rv∧x.P.map rv=y.P.map rv)):=by
 unfold Qey;simp only[jn_eq];rw[Qt6 hn h1 hk hxY hyY,sbind];by_cases c1:x.Y.map rv=y.Y.map rv
 case neg=>rw[dP_f c1,bifF,dP_f λh=>c1 h.1]
 rw[dP_t c1,bifT,Qt6 hn h1 hk hxP hyP,sbind];by_cases c2:x.P.map rv=y.P.map rv
 . rw[dP_t c2,dP_t ⟨c1,c2⟩]
 . rw[dP_f c2,dP_f λh=>c2 h.2]
set_option maxRecDepth 100000
theorem Qmm{n k:Nat}{a:List (List Rat)}(hn:big≤n)(hk:k<274877906944)(hl:a.length≤1000000)(h:∀ x∈a,QR k x∧x.length≤1000000):Xl n (toRR a) (rRR a)=some true:=by unfold Xl;simp only[Qct,Xa];rw[decide_eq_true trivial,Bool.not_true,bifF,Qix (λ_=>True) a.length (r:=false)];rw[if_pos (λ_ _=>trivial)];intro i hi;refine⟨λ_=>?_,λh=>absurd trivial h⟩;have ha:a[i]?=some a[i]:=List.getElem?_eq_getElem hi;obtain⟨q1,q2⟩:=h a[i] (List.getElem_mem hi);generalize a[i]=x at ha q1 q2;rw[decide_eq_true (show(i:Int)<(a.length:Int) by omega),bifT,Kn (show(toRR a)[i]?=some (toR x) by unfold toRR;exact Qkr toR ha),sbind,Kn (Qhb ha),sbind,Qvn hn q2 hk q1,sbind,decide_eq_true rfl,Bool.not_true,bifF,w1 (by omega)];rw[decide_eq_false (by omega),bifF];unfold big at hn;omega
set_option maxRecDepth 100000
def MR(k:Nat)(M:List (List Rat)):Prop:=M.length≤10∧∀ r∈M,QR k r∧r.length≤1000
theorem Qcg(M:List (List Rat)):widM (rRR M)=widM M∧(recM (rRR M)↔recM M):=Qvr Qc1 M
theorem Qzb{k:Nat}{M:List (List Rat)}(h:MR k M):widM M≤1000:=by
 cases M with
 | nil=>exact Nat.zero_le _
 | cons m M=>exact(h.2 m (.head _)).2
theorem Q1u{α:Type}{f:Nat->α}{i:Nat}:(List.range (i+1)).map f=(List.range i).map f++[f i]:=by rw[List.range_succ,List.map_append];rfl
theorem Q1v{n k:Nat}{M:List (List Rat)}(hn:big≤n)(h:MR k M)(hc:recM M):X7 n (rRR M)=some (rRR ((List.range (widM M)).map (colJ M))):=by
 unfold X7;have hw:=Qzb h;rw[Zf (λi=>(rRR ((List.range i).map (colJ M)),(i:Int))) (widM M) (rRR ((List.range (widM M)).map (colJ M)))];intro j hj;simp only[];rw[Qf9,sbind,(Qcg M).1,decide_eq_true (by omega),bifT];rw[Zf (λi=>(rR ((M.take i).map (·.getD j 0)),(i:Int))) M.length (rR (colJ M j))];have ht:(rRR ((List.range j).map (colJ M))).length≤1000:=by rw[Xa,List.length_map,List.length_range];omega
 rw[Xy (by simp only[List.length_cons,List.length_nil];omega) (by simp only[List.length_cons,List.length_nil];omega),sbind,w1 (by omega),Q1u,Qpe];intro i hi;simp only[Xa];have hx:M[i]?=some M[i]:=List.getElem?_eq_getElem hi;have hxl:M[i].length=widM M:=hc _ (List.getElem_mem hi);generalize M[i]=x at hx hxl;have hy:x[j]?=some (x.getD j 0):=by rw[List.getD_eq_getElem?_getD,List.getElem?_eq_getElem (by omega)];rfl
 have hM:=h.1;have ht:(rR ((M.take i).map (·.getD j 0))).length≤10:=by rw[Qc1,List.length_map,List.length_take];omega
 rw[decide_eq_true (by omega),bifT,Kn (Qhb hx),sbind,Kn (Qq7 hy),sbind,Xy (by simp only[List.length_cons,List.length_nil];omega) (by simp only[List.length_cons,List.length_nil];omega),sbind,w1 (by omega),Qc2 hx,Qri];simp only[Xa];rw[decide_eq_false (by omega),bifF,List.take_length];rfl;have:=h.1;unfold big at hn;omega;rfl;simp only[];rw[Qf9,sbind,(Qcg M).1,decide_eq_false (by omega),bifF];unfold big at hn;omega;rfl
theorem Qzw{n k m:Nat}{C:List (List Rat)}{r:List Rat}(hn:big≤n)(h1:1≤k)(hk:k<1000000)(hC:∀ c∈C,QR k c∧c.length=m)(hr:QR k r)(hm:r.length=m)(hm2:m≤1000)(hl:C.length≤1000):
 Xt n (rRR C) (rR r)=some (rR (C.map λc=>psum c r m)):=by
 unfold Xt;rw[Zf (λi=>(rR ((C.take i).map λc=>psum c r m),(i:Int))) C.length (rR (C.map λc=>psum c r m))];intro i hi;simp only[Xa];have hx:C[i]?=some C[i]:=List.getElem?_eq_getElem hi;obtain⟨q1,q2⟩:=hC _ (List.getElem_mem hi);generalize C[i]=x at hx q1 q2;have ht:(rR ((C.take i).map λc=>psum c r m)).length≤1000:=by rw[Qc1,List.length_map,List.length_take];omega
 rw[decide_eq_true (by omega),bifT,Kn (Qhb hx),sbind,Qvp hn h1 hk q1 hr (by omega) (by omega),sbind,q2,Xy (by simp only[List.length_cons,List.length_nil];omega) (by simp only[List.length_cons,List.length_nil];omega),sbind,w1 (by omega),Qc2 hx,Qri];simp only[Xa];rw[decide_eq_false (by omega),bifF,List.take_length];unfold big at hn;omega;rfl
theorem Q7z{k j:Nat}{M:List (List Rat)}(h1:1≤k)(h:MR k M):QR k (colJ M j):=λx hx=>by unfold colJ at hx;obtain⟨m,hm,rfl⟩:=List.mem_map.1 hx;exact Qkp (h.2 m hm).1 h1
theorem Q1w{n k:Nat}{r:List Rat}{M:List (List Rat)}(hn:big≤n)(h1:1≤k)(hk:k<1000000)(h:MR k M)(hc:recM M)(hr:QR k r)(hl:r.length=M.length):X8 n (rR r) (rRR M)=some (rR (leftR r M)):=by unfold X8;have hw:=Qzb h;have h10:=h.1;rw[Q1v hn h hc,sbind,Qzw (m:=M.length) hn h1 hk ?_ hr hl (by omega) (by rw[List.length_map,List.length_range];omega),sbind,List.map_map];rfl;intro c hc';obtain⟨j,hj,rfl⟩:=List.mem_map.1 hc';exact⟨Q7z h1 h,by unfold colJ;exact List.length_map _⟩
theorem Qt7{n k:Nat}{A B:List (List Rat)}(hn:big≤n)(h1:1≤k)(hk:k<1000000)(hA:MR k A)(hB:MR k B)(hf:fitR A B):Vy n (rRR A) (rRR B)=some (rRR (mulR A B)):=by
 unfold Vy;obtain⟨c1,c2,c3⟩:=hf;have h10:=hA.1;rw[Zf (λi=>(rRR (mulR (A.take i) B),(i:Int))) A.length (rRR (mulR A B))];intro i hi;simp only[Xa];have hx:A[i]?=some A[i]:=List.getElem?_eq_getElem hi;have hxl:A[i].length=widM A:=c1 _ (List.getElem_mem hi);obtain⟨q1,q2⟩:=hA.2 _ (List.getElem_mem hi);generalize A[i]=x at hx hxl q1 q2;have ht:(rRR (mulR (A.take i) B)).length≤10:=by rw[Xa];unfold mulR;rw[List.length_map,List.length_take];omega
 rw[decide_eq_true (by omega),bifT,Kn (Qhb hx),sbind,Q1w hn h1 hk hB c2 q1 (by omega),sbind,Xy (by simp only[List.length_cons,List.length_nil];omega) (by simp only[List.length_cons,List.length_nil];omega),sbind,w1 (by omega)];unfold mulR;rw[Qc2 hx,Qpe];simp only[Xa];rw[decide_eq_false (by omega),bifF,List.take_length];unfold big at hn;omega;rfl
theorem Qt8{n:Nat}{A B:List (List Rat)}(hn:big≤n)(hA:A.length≤10)(hB:B.length≤10):W0 n (rRR A) (rRR B)=some (dP (fitR A B)):=by
 unfold W0;simp only[jn_eq];rw[Qjc hn (by rw[Xa];omega),sbind];by_cases c1:recM A
 case neg=>rw[dP_f (λh=>c1 ((Qcg A).2.1 h)),bifF,dP_f λh=>c1 h.1]
 rw[dP_t ((Qcg A).2.2 c1),bifT,Qjc hn (by rw[Xa];omega),sbind];by_cases c2:recM B
 case neg=>rw[dP_f (λh=>c2 ((Qcg B).2.1 h)),bifF,dP_f λh=>c2 h.2.1]
 rw[dP_t ((Qcg B).2.2 c2),bifT,Qf9,sbind,(Qcg A).1,Xa];by_cases c3:widM A=B.length
 . rw[decide_eq_true (by omega),dP_t ⟨c1,c2,c3⟩]
 . rw[decide_eq_false (by omega),dP_f λh=>c3 h.2.2]
theorem Qzc{k:Nat}{A B:List (List Rat)}(h1:1≤k)(hA:MR k A)(hB:MR k B):MR (21*k+11) (mulR A B):=by refine⟨by unfold mulR;rw[List.length_map];exact hA.1,λr hr=>?_⟩;unfold mulR at hr;obtain⟨a,ha,rfl⟩:=List.mem_map.1 hr;refine⟨Q0p h1 (hA.2 a ha).1 (λb hb=>(hB.2 b hb).1) hB.1,?_⟩;unfold leftR;rw[List.length_map,List.length_range];exact Qzb hB
open Classical in
theorem Qzx{n k:Nat}{aY aP bY bP:List (List Rat)}(hn:big≤n)(h1:1≤k)(hk:k≤1000)(haY:MR k aY)(haP:MR k aP)(hbY:MR k bY)(hbP:MR k bP):
 Xu n ⟨rRR aY,rRR aP⟩ ⟨rRR bY,rRR bP⟩=some (if chnF aY aP bY bP then (⟨rRR (mulR bY aY),rRR (List.zipWith addQ (mulR bY aP) bP)⟩,true) else (⟨[],[]⟩,false)):=by
 unfold Xu chnF;simp only[jn_eq];rw[Qt8 hn hbY.1 haY.1,sbind];by_cases c1:fitR bY aY
 case neg=>rw[dP_f c1,Bool.not_false,bifT,bifT,if_neg (λh=>c1 h.1.1)]
 rw[dP_t c1,Bool.not_true,bifF,Qt8 hn hbY.1 haP.1,sbind];by_cases c2:fitR bY aP
 case neg=>rw[dP_f c2,Bool.not_false,bifT,if_neg (λh=>c2 h.1.2)]
 rw[dP_t c2,Bool.not_true,bifF,Qt7 hn h1 (by omega) hbY haP c2,sbind];have hq:=Qzc h1 hbY haP;have hq10:=hq.1;have hb10:=hbP.1;rw[Qjc hn (by rw[Xa];omega),sbind];generalize mulR bY aP=q at hq hq10;by_cases c3:recM q
 case neg=>rw[dP_f (λh=>c3 ((Qcg q).2.1 h)),Bool.not_false,bifT,bifT,if_neg (λh=>c3 h.2.1)]
 rw[dP_t ((Qcg q).2.2 c3),Bool.not_true,bifF,Qjc hn (by rw[Xa];omega),sbind];by_cases c4:recM bP
 case neg=>rw[dP_f (λh=>c4 ((Qcg bP).2.1 h)),Bool.not_false,bifT,bifT,if_neg (λh=>c4 h.2.2.1)]
 rw[dP_t ((Qcg bP).2.2 c4),Bool.not_true,bifF,Xa,Xa];by_cases c5:q.length=bP.length
 case neg=>rw[decide_eq_false (by omega),Bool.not_false,bifT,bifT,if_neg (λh=>c5 h.2.2.2.1)]
 rw[decide_eq_true (by omega),Bool.not_true,bifF,Qf9,sbind,Qf9,sbind,(Qcg q).1,(Qcg bP).1];by_cases c6:widM q=widM bP
 case neg=>rw[decide_eq_false (by omega),Bool.not_false,bifT,if_neg (λh=>c6 h.2.2.2.2)]
 rw[decide_eq_true (by omega),Bool.not_true,bifF,Qt7 hn h1 (by omega) hbY haY c1,sbind,if_pos ⟨⟨c1,c2⟩,c3,c4,c5,c6⟩];rw[Zf (λi=>(rRR ((List.zipWith addQ q bP).take i),(i:Int))) q.length (rRR (List.zipWith addQ q bP))]
 . intro i hi
   have hx:q[i]?=some q[i]:=List.getElem?_eq_getElem hi;have hy:bP[i]?=some (bP[i]'(by omega)):=List.getElem?_eq_getElem (by omega);have hxm:=List.getElem_mem hi;have hym:(bP[i]'(by omega))∈bP:=List.getElem_mem _;generalize q[i]=x at hx hxm;generalize (bP[i]'(by omega))=y at hy hym;have e1:=c3 x hxm;have e2:=c4 y hym;have ht:(rRR ((List.zipWith addQ q bP).take i)).length≤10:=by rw[Xa,List.length_take,List.length_zipWith];omega
   rw[decide_eq_true (by omega),bifT,Kn (Qhb hx),sbind,Kn (Qhb hy),sbind,Qvo (k:=21*k+11) hn (by omega) (hq.2 x hxm).1 (Qha (hbP.2 y hym).1 (by omega)) (by omega) (by have:=(hq.2 x hxm).2;omega),sbind,Xy (by simp only[List.length_cons,List.length_nil];omega) (by simp only[List.length_cons,List.length_nil];omega),sbind,w1 (by omega),Qss hx hy,Qpe]
 . rw[decide_eq_false (by omega),bifF,show(List.zipWith addQ q bP).take q.length=List.zipWith addQ q bP from List.take_of_length_le (by rw[List.length_zipWith];omega)]
 . unfold big at hn;omega
 . rfl
theorem Qjd{n k:Nat}{M:List (List Qc)}(hn:big≤n)(hk:k<1099511627776)(h:∀ r∈M,FRr k r∧r.length≤1000)(hl:M.length≤10):K3 n M=some (rRR (M.map rvr)):=by
 unfold K3;rw[Zf (λi=>(rRR ((M.take i).map rvr),(i:Int))) M.length (rRR (M.map rvr))];intro i hi;have hx:M[i]?=some M[i]:=List.getElem?_eq_getElem hi;obtain⟨q1,q2⟩:=h _ (List.getElem_mem hi);generalize M[i]=x at hx q1 q2;have ht:(rRR ((M.take i).map rvr)).length≤10:=by rw[Xa,List.length_map,List.length_take];omega
 simp only[];rw[decide_eq_true (by omega),bifT,Kn hx,sbind,Qso hn hk q1 (by omega),sbind,Xy (by simp only[List.length_cons,List.length_nil];omega) (by simp only[List.length_cons,List.length_nil];omega),sbind,w1 (by omega),Qc2 hx,Qpe];simp only[];rw[decide_eq_false (by omega),bifF,List.take_length];unfold big at hn;omega;rfl
theorem Qt9{n k:Nat}{A B:List (List Rat)}(hn:big≤n)(hk:k<274877906944)(hA:MR k A):Ve n (rRR A) (rRR B)=some (dP (A=B)):=by
 unfold Ve;have h10:=hA.1;rw[Xa,Xa];by_cases c0:A.length=B.length
 case neg=>rw[decide_eq_false (by omega),Bool.not_false,bifT,dP_f λh=>c0 (congrArg List.length h)]
 rw[decide_eq_true (by omega),Bool.not_true,bifF,Qix (λi=>A[i]?=B[i]?) A.length (r:=false)]
 . by_cases h:A=B
   . rw[if_pos (λi _=>by rw[h]),dP_t h]
   . rw[if_neg (λg=>h (List.ext_getElem? λi=>by
      by_cases hi:i<A.length
      . exact g i hi
      . rw[List.getElem?_eq_none (by omega),List.getElem?_eq_none (by omega)])),dP_f h]
 . intro i hi
   have hx:A[i]?=some A[i]:=List.getElem?_eq_getElem hi;have hy:B[i]?=some (B[i]'(by omega)):=List.getElem?_eq_getElem (by omega);obtain⟨q1,q2⟩:=hA.2 _ (List.getElem_mem hi);generalize A[i]=x at hx q1 q2;generalize B[i]'(by omega)=y at hy;rw[decide_eq_true (by omega),bifT,Kn (Qhb hx),sbind,Kn (Qhb hy),sbind,Qlt hn (by omega) hk q1,sbind,hx,hy];constructor
   . intro e;rw[decide_eq_true (Option.some.inj e),Bool.not_true,bifF,w1 (by omega)]
   . intro e;rw[decide_eq_false (λg=>e (by rw[g])),Bool.not_false,bifT]
 . rw[decide_eq_false (by omega),bifF]
 . unfold big at hn;omega
theorem Qie{n:Nat}{M:List (List Qc)}(hn:big≤n):∃ v,Vd n M 4 2=some v∧(v=false->M.length≤4∧∀ r∈M,FL 4 2 r):=by
 have hr:∀ r:List Qc,∃ v,Vb n r 4 2=some v∧(v=false->FL 4 2 r):=λr=>Qtz (l:=r) (many:=4) (k:=2) hn (by decide);unfold Vd;simp only[jn_eq];rw[Qix (λi=>∀ r,M[i]?=some r->Vb n r 4 2=some false) (min M.length 4) (r:=true)];by_cases h:∀ i,i<min M.length 4->∀ r,M[i]?=some r->Vb n r 4 2=some false;rw[if_pos h];refine⟨_,rfl,λe=>?_⟩;have h4:M.length≤4:=by have:=of_decide_eq_false e;omega
 refine⟨h4,λr hm=>?_⟩;obtain⟨i,hi⟩:=List.getElem?_of_mem hm;have hi2:=(List.getElem?_eq_some_iff.1 hi).1;obtain⟨v,e1,e2⟩:=hr r;have:=h i (by omega) r hi;rw[e1] at this;exact e2 (Option.some.inj this);rw[if_neg h];exact⟨true,rfl,λe=>by cases e⟩;intro i hi;have hx:M[i]?=some (M[i]'(by omega)):=List.getElem?_eq_getElem (by omega);generalize M[i]'(by omega)=x at hx;rw[decide_eq_true (show(i:Int)<(M.length:Int) by omega),bifT,decide_eq_true (show(i:Int)<4 by omega),bifT,Kn hx,sbind];obtain⟨v,e1,_⟩:=hr x;rw[e1,sbind];constructor;intro h;have:=h x hx;rw[e1] at this;rw[Option.some.inj this,bifF,w1 (by omega)];intro h;cases v with
 | true=>rw[bifT]
 | false=>exact absurd (λr hr'=>by rw[hx] at hr';cases hr';exact e1) h
 by_cases c:((min M.length 4:Nat):Int)<(M.length:Int);rw[decide_eq_true c,bifT,decide_eq_false (by omega),bifF];rw[decide_eq_false c,bifF,bifF];unfold big at hn;omega
theorem w45c:Xs big=some true:=by kernel_rfl
theorem Qmn{n k:Nat}{A B:List (List Rat)}(hn:big≤n)(hk:k<274877906944)(hA:MR k A)(hB:MR k B):Xn n ⟨toRR A,toRR B⟩ ⟨rRR A,rRR B⟩=some true:=by unfold Xn;simp only[jn_eq];have hA1:=hA.1;have hB1:=hB.1;rw[Qmm hn hk (by omega) (λx hx=>⟨(hA.2 x hx).1,by have:=(hA.2 x hx).2;omega⟩),sbind,bifT,Qmm hn hk (by omega) (λx hx=>⟨(hB.2 x hx).1,by have:=(hB.2 x hx).2;omega⟩),sbind]
set_option maxRecDepth 100000
theorem Qua{M:List (List Qc)}(hB:Yb M)(h:M.length≤4∧∀ r∈M,FL 4 2 r):MB 2 (M.map (·.map tF))∧MR 2 (M.map rvr)∧(∀ r∈M,FRr 2 r∧r.length≤1000)∧(M.map (·.map tF)).map rv=M.map rvr:=by
 have hF:∀ r∈M,FRr 2 r∧r.length≤1000:=λr hr=>⟨Q7w (hB.2 r hr) (h.2 r hr),by have:=(h.2 r hr).1;omega⟩
 refine⟨⟨by rw[List.length_map];omega,λr hr=>?_⟩,⟨by rw[List.length_map];omega,λr hr=>?_⟩,hF,?_⟩;obtain⟨m,hm,rfl⟩:=List.mem_map.1 hr;refine⟨λx hx=>?_,by rw[List.length_map];exact(hF m hm).2⟩;obtain⟨f,hf,rfl⟩:=List.mem_map.1 hx;obtain⟨h1,h2,h3,h4⟩:=(hF m hm).1 f hf;exact⟨h1,h3,h2,h4⟩;obtain⟨m,hm,rfl⟩:=List.mem_map.1 hr;exact⟨Q7u (hF m hm).1 (by decide),by rw[Qvm];exact(hF m hm).2⟩;rw[List.map_map];exact List.map_congr_left λr _=>Q7t r
theorem Qw8(a b:Qy)(hA:Qbi a)(hB:Qbi b):∃ n,Wg n a b=some true:=by
 refine⟨big,?_⟩;have hn:big≤big:=Nat.le_refl _;unfold Wg;simp only[jn_eq];obtain⟨v1,e1,f1⟩:=Qie (M:=a.Y) hn;rw[e1,sbind];cases v1
 case true=>rw[bifT,bifT,w45c];rfl
 obtain⟨v2,e2,f2⟩:=Qie (M:=a.P) hn;rw[bifF,e2,sbind];cases v2
 case true=>rw[bifT,bifT,w45c];rfl
 obtain⟨v3,e3,f3⟩:=Qie (M:=b.Y) hn;rw[bifF,e3,sbind];cases v3
 case true=>rw[bifT,bifT,w45c];rfl
 obtain⟨v4,e4,f4⟩:=Qie (M:=b.P) hn;rw[bifF,e4,sbind];cases v4
 case true=>rw[bifT,w45c];rfl
 rw[bifF];obtain⟨p1,r1,q1,s1⟩:=Qua hA.1 (f1 rfl);obtain⟨p2,r2,q2,s2⟩:=Qua hA.2.1 (f2 rfl);obtain⟨p3,r3,q3,s3⟩:=Qua hB.1 (f3 rfl);obtain⟨p4,r4,q4,s4⟩:=Qua hB.2.1 (f4 rfl);have l1:=(f1 rfl).1;have l2:=(f2 rfl).1;have l3:=(f3 rfl).1;have l4:=(f4 rfl).1
 rw[Qgl hn (by omega) (λr hr=>by have:=(q1 r hr).2;omega),sbind,Qgl hn (by omega) (λr hr=>by have:=(q2 r hr).2;omega),sbind,
  Qgl hn (by omega) (λr hr=>by have:=(q3 r hr).2;omega),sbind,Qgl hn (by omega) (λr hr=>by have:=(q4 r hr).2;omega),sbind,
  Qjd hn (by omega) q1 (by omega),sbind,Qjd hn (by omega) q2 (by omega),sbind,Qjd hn (by omega) q3 (by omega),sbind,Qjd hn (by omega) q4 (by omega),sbind]
 have hch:=Q1s (x:=⟨a.Y.map (·.map tF),a.P.map (·.map tF)⟩) (y:=⟨b.Y.map (·.map tF),b.P.map (·.map tF)⟩) hn (k:=2) (by decide) (by decide) p1 p2 p3 p4;simp only[] at hch;rw[s1,s2,s3,s4] at hch;rw[hch,sbind,Qzx hn (k:=2) (by decide) (by decide) r1 r2 r3 r4,sbind];rw[Q1t hn (k:=2) (by decide) (by decide) p1 p2 p3 p4];simp only[s1,s2,s3,s4]
 have hs:∀ K:Bool->Option Bool,((Ve big (rRR (a.Y.map rvr)) (rRR (b.Y.map rvr))).bind λr49=>bif r49 then ((Ve big (rRR (a.P.map rvr)) (rRR (b.P.map rvr))).bind λr51=>K r51) else K false)=K (dP (a.Y.map rvr=b.Y.map rvr∧a.P.map rvr=b.P.map rvr)):=λK=>by
  rw[Qt9 hn (k:=2) (by decide) r1,sbind];by_cases c1:a.Y.map rvr=b.Y.map rvr
  case neg=>rw[dP_f c1,bifF,dP_f λh=>c1 h.1]
  rw[dP_t c1,bifT,Qt9 hn (k:=2) (by decide) r2,sbind];by_cases c2:a.P.map rvr=b.P.map rvr
  . rw[dP_t c2,dP_t ⟨c1,c2⟩]
  . rw[dP_f c2,dP_f λh=>c2 h.2]
 rw[hs];by_cases c:chnF (a.Y.map rvr) (a.P.map rvr) (b.Y.map rvr) (b.P.map rvr)
 . rw[if_pos c,if_pos c]
   have m1:=Qzc (k:=2) (by decide) r3 r1;have m2:=Qzc (k:=2) (by decide) r3 r2;have m3:MR 56 (List.zipWith addQ (mulR (b.Y.map rvr) (a.P.map rvr)) (b.P.map rvr)):=by refine⟨by rw[List.length_zipWith];have:=m2.1;omega,Qn7 λx hx y hy=>⟨Q3d (m2.2 x hx).1 (r4.2 y hy).1,by rw[Qlr];have:=(m2.2 x hx).2;omega⟩⟩
   have m1':MR 56 (mulR (b.Y.map rvr) (a.Y.map rvr)):=⟨m1.1,λr hr=>⟨Qha (m1.2 r hr).1 (by decide),(m1.2 r hr).2⟩⟩
   simp only[];rw[Qmn hn (by decide) m1' m3,sbind,bifT,beq_self_eq_true,bifT,sbind,beq_self_eq_true,bifT,w45c];rfl
 . rw[if_neg c,if_neg c]
   have hI:Xn big ⟨[],[]⟩ ⟨[],[]⟩=some true:=Qmn (k:=2) (A:=[]) (B:=[]) hn (by decide) ⟨Nat.zero_le _,λr hr=>by cases hr⟩ ⟨Nat.zero_le _,λr hr=>by cases hr⟩;simp only[];rw[hI,sbind,bifT,beq_self_eq_true,bifT,sbind,beq_self_eq_true,bifT,w45c];rfl
end Go.Proofs.YtkkfedionkhgnaaGreatDoor
