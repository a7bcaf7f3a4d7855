import Derived.Test.YtbdgngdpkdagoabGreatDoorModb
import Derived.Test.YtbdgngdpkdagoabGreatDoorP3
namespace Go.Proofs.YtbdgngdpkdagoabGreatDoor
open Go Go.RowKit
def absQ(q:Rat):Rat:=if q.num<0 then -q else q
theorem Jlm(q:Rat):toF (absQ q)=⟨⟨false,(toF q).Num.A8⟩,(toF q).Den⟩:=by unfold absQ toF toW;split;rw[Qyv,Q8f,Int.natAbs_neg,oj om];rw[oj om]
theorem Ja2{n k:Nat}{f:Qc}(hn:big<=n)(hk:k<1099511627776)(a:Fk k f):Qqu n f=some (toF (absQ (fv f))):=by unfold Qqu;rw[Va hn (Fk_Fw a om),sbind,Jlm]
def maxQ(a b:Rat):Rat:=if 0<(b - a).num.sign then b else a
theorem Q8z{n k:Nat}{f g:Qc}(hn:big<=n)(a:1<=k)(hk:k<1099511627776)(d:Fk k f)(e:Fk k g):Qqv n [f,g]=some (toF (maxQ (fv f) (fv g))):=by unfold Qqv;simp only[jn_eq,rangeL];have i:Fk k (toF (fv f)):=Js (qw_fv d a);rw[Qac hn,sbind,show decide (((0:Nat):Int)=0)=true from rfl,bifT,bifT,Va hn (Fk_Fw d om),sbind,sbind];simp only[];rw[show decide (((0+1:Nat):Int)=0)=false from rfl,bifF,Zj hn a hk e i,sbind,Jf,bifd];unfold maxQ;split;rw[Va hn (Fk_Fw e om),sbind];rfl;rfl
def normQ(l:List Rat):Rat:=l.foldl (λb x=>maxQ b (absQ x)) 0
theorem Q2z(q:Rat):qw (absQ q)=qw q:=by unfold absQ;split;exact Qjz q;rfl
theorem Jdp{a b:Rat}{k:Nat}(d:qw a<=k)(e:qw b<=k):qw (maxQ a b)<=k:=by unfold maxQ;split<;>assumption
theorem Ja3{n k:Nat}{a:List Qc}(hn:big<=n)(f:1<=k)(hk:k<1099511627776)(j:FR k a):Qly n a=some (toF (normQ (rv a))):=by
 unfold Qly;have g:∀(l:List Rat) (b:Rat),QR k l->qw b<=k->qw (l.foldl (λb x=>maxQ b (absQ x)) b)<=k:=by
  intro l
  induction l with
  | nil=>intro b _ d;exact d
  | cons x l u=>intro b m d;exact u _ (λq g=>m q (.tail _ g)) (Jdp d (by rw[Q2z];exact m x (.head _)))
 rw[Qac hn,sbind,Qjy (λi=>toF ((rv (a.take i)).foldl (λb x=>maxQ b (absQ x)) 0)) a,Xi,xu];rfl;intro i x p;have r:a.take (i+1)=a.take i++[x]:=by rw[gc,p];rfl
 have s:rv (a.take (i+1))=rv (a.take i)++[fv x]:=by unfold rv;rw[r,yf];rfl
 have e:=j x (Jr p);have d:=g (rv (a.take i)) 0 (QR_rv (λy t=>j y (yx t)) f) (by rw[Qab];exact f);rw[Ja2 hn hk e,sbind,Q8z hn f hk (Js d) (Js (by rw[Q2z];exact qw_fv e f)),sbind,s,List.foldl_append,Jf,Jf];rfl;rfl
def noH:Qs:=⟨[],⟨⟨false,[]⟩,[]⟩,[]⟩
theorem Jaa{k:Nat}{l:List Rat}(f:1<=k)(h:QR k l):qw (normQ l)<=k:=by
 have d:∀(l:List Rat) (b:Rat),QR k l->qw b<=k->qw (l.foldl (λb x=>maxQ b (absQ x)) b)<=k:=by
  intro l
  induction l with
  | nil=>intro b _ a;exact a
  | cons x l i=>intro b e a;exact i _ (λq g=>e q (.tail _ g)) (Jdp a (by rw[Q2z];exact e x (.head _)))
 exact d l 0 h (by rw[Qab];exact f)
theorem Q80(q:Rat):Qeq (rF q)=some (rF (absQ q)):=by unfold Qeq rF absQ;refine yj some ?_;split;rw[Qyv,Q8f,Int.natAbs_neg,oj (show ¬ -q.num<0 by omega)];rename_i h;rw[oj h]
theorem Jih(q:Rat):oF (toF q)=rF q:=rfl
theorem Q81{n k:Nat}{a:List Rat}(hn:big<=n)(hk:k<274877906944)(p:1<=k)(g:QR k a)(r:a.length<=1000000):Qer n (rR a)=some (rF (normQ a)):=by
 unfold Qer;rw[Zp hn,sbind];have f:∀(l:List Rat) (b:Rat),QR k l->qw b<=k->qw (l.foldl (λb x=>maxQ b (absQ x)) b)<=k:=by
  intro l
  induction l with
  | nil=>intro b _ d;exact d
  | cons x l s=>intro b j d;exact s _ (λq f=>j q (.tail _ f)) (Jdp d (by rw[Q2z];exact j x (.head _)))
 rw[W1 (λi=>(rF (normQ (a.take i)),(i:Int))) a.length (rF (normQ a))];intro i hi;have hp:a[i]?=some a[i]:=oq hi;have m:=g a[i] (xb hi);generalize a[i]=x at hp m;simp only[bifd,jn_eq];have e:normQ (a.take (i+1))=maxQ (normQ (a.take i)) (absQ x):=by rw[Yy hp];unfold normQ;rw[List.foldl_append];rfl
 have d:qw (normQ (a.take i))<=k:=f _ _ (λq f=>g q (yx f)) (by rw[Qab];exact p);rw[oo (by rw[J7];omega),Je (Qim hp),sbind,Q80,sbind,Ze hn hk (by rw[Q2z];exact m) d,sbind,w1 om,e];generalize normQ (a.take i)=b;generalize absQ x=y;unfold maxQ;by_cases h:0<(y - b).num.sign;rw[oo h,oo h];rw[ol h,ol h];simp only[bifd];rw[ol (by rw[J7];omega),xu];unfold big at hn;omega;rfl
set_option maxRecDepth 100000
theorem Jii{p:Qn}{T H:Rat}{Y:List Rat}{z:MadeQ}(h:stepQ p T H Y=.inr z):z.err.length<=6:=by
 unfold stepQ at h;by_cases d:prbR p/\(Y.length:Int)=p.Tape.A3
 case neg=>rw[ol d] at h;cases h
 rw[oo d] at h;have a:=d.1.1.1;unfold doQ at h;cases f:stagesQ p.Tape (limQ p.Aw) T H Y (rv p.P) (List.zip (p.Ap.A.map rv) (rv p.Ap.C)) 0 [] [] with
 | inl e=>rw[f] at h;cases h
 | inr w=>
   rw[f] at h;simp only[] at h;obtain⟨g1,g,g3,g4⟩:=Qs2 (m:=Y.length) (by unfold limQ;omega) (by have:=a.2.2.1;omega) rfl (λ_ h=>by cases h) (λ_ h=>by cases h) f;unfold endQ at h;split at h
   . cases h
   . split at h
     . cases h
     . cases h
       show(if gapQ p.Ap=[] then [] else towQ H Y.length (gapQ p.Ap) w.2).length<=6;split
       . simp
       . rw[Qmv g1];have:=a.1;omega
set_option maxRecDepth 100000
def oTry(t:Q6):Qt:=⟨oF t.T,oF t.Ax,oF t.H,oF t.A5,t.Y.map oF,t.Ok⟩
theorem Ja4{n:Nat}{h:Qs}(hn:big<=n)(f:h.Aq.length<=1000000)(d:h.Y.length<=1000000)(e:∀ t∈h.Aq,t.Y.length<=1000000):Qe9 n h=some ⟨h.Aq.map oTry,oF h.T,h.Y.map oF⟩:=by unfold Qe9;rw[Qtt,sbind,Qmi hn d,sbind];rw[W1 (λi=>((h.Aq.take i).map oTry,(i:Int))) h.Aq.length (h.Aq.map oTry)];intro i hi;have hp:h.Aq[i]?=some h.Aq[i]:=oq hi;have a:=e h.Aq[i] (xb hi);generalize h.Aq[i]=t at hp a;rw[oi (show(i:Int)<(h.Aq.length:Int) by omega),bifT,Je hp,sbind];simp only[Qtt,sbind];rw[Qmi hn a,sbind,Vt oh oh,sbind,w1 om,Qg8 oTry hp];rfl;rw[oj om,bifF,xu];unfold big at hn;omega;rfl
def SmF(f:Qa):Prop:=f.N.length<=4611686018427387904/\f.D.length<=4611686018427387904
def SmL(l:List Qa):Prop:=l.length<=1000000/\∀ f∈l,SmF f
def SmT(t:Qt):Prop:=SmF t.T/\SmF t.Ax/\SmF t.H/\SmF t.A5/\SmL t.Y
def SmH(h:Qh):Prop:=SmF h.T/\SmL h.Y/\h.Aq.length<=1000000/\∀ t∈h.Aq,SmT t
theorem Qzd{q:Rat}{k:Nat}(h:qw q<=k)(hk:k<274877906944):SmF (rF q):=by have:=Q3h h;exact⟨om,om⟩
theorem Jij{l:List Rat}{k:Nat}(h:QR k l)(hk:k<274877906944)(d:l.length<=1000000):SmL (rR l):=⟨by rw[J7];exact d,λf a=>by
 obtain⟨q,e,rfl⟩:=xd.1 a
 exact Qzd (h q e) hk⟩
theorem Jnq{n:Nat}{f:Qa}(hn:big<=n)(h:SmF f):Jt n f f=some true:=by rw[Qm1 hn h.1 h.2];exact yj some (@decide_eq_true _ (Classical.propDecidable _) rfl)
theorem Jdq{n:Nat}{l:List Qa}(hn:big<=n)(h:SmL l):Kz n l l=some true:=by rw[Qrt hn h.1 h.2];simp
theorem Q33{n:Nat}{a:Qh}(hn:big<=n)(h:SmH a):Qd3 n a a=some true:=by
 obtain⟨p,q,u,s⟩:=h;unfold Qd3;simp only[jn_eq];rw[oi trivial,ot,bifF,Jnq hn p,sbind,ot,bifF,Jdq hn q,sbind,ot,bifF];rw[Qkg (λ_=>True) a.Aq.length (r:=false)];rw[oo (λ_ _=>trivial)];intro i hi;have hp:a.Aq[i]?=some a.Aq[i]:=oq hi;have j:=s a.Aq[i] (xb hi);generalize a.Aq[i]=t at hp j;obtain⟨g1,l,g3,g4,m⟩:=j;refine⟨λ_=>?_,λg=>absurd trivial g⟩
 have e:SmL [t.T,t.Ax,t.H,t.A5]:=⟨oc,λf d=>by
  rcases xg.1 d with rfl | d;exact g1;rcases xg.1 d with rfl | d;exact l;rcases xg.1 d with rfl | d;exact g3
  rw[xx.1 d];exact g4⟩
 rw[oi (show(i:Int)<(a.Aq.length:Int) by omega),bifT,Je hp,sbind,sbind,bne_self_eq_false,bifF];unfold Wv;rw[sbind,sbind,Jdq hn e,sbind,ot,bifF,Jdq hn m,sbind,ot,bifF,w1 om];rw[oj om,bifF];unfold big at hn;omega
theorem Qww{n:Nat}{h:Qs}{a:Qh}(hn:big<=n)(d:h.Aq.length<=1000000)(f:h.Y.length<=1000000)(g:∀ t∈h.Aq,t.Y.length<=1000000)(e:(⟨h.Aq.map oTry,oF h.T,h.Y.map oF⟩:Qh)=a)(i:SmH a):Yj n h a=some true:=by unfold Yj;rw[Ja4 hn d f g,sbind,e,Q33 hn i,sbind]
theorem Jfd{n:Nat}(hn:big<=n):Yj n noH ⟨[],⟨false,[],[]⟩,[]⟩=some true:=
 Qww hn oz oz (λ_ h=>by cases h) rfl ⟨⟨oz,oz⟩,⟨oz,λ_ h=>by cases h⟩,oz,λ_ h=>by cases h⟩
set_option maxRecDepth 100000
theorem fl_eq{z q d:Int}(h0:0<d)(a:q*d<=z)(e:z<q*d+d):z / d=q:=by apply Int.le_antisymm;have:z / d<q+1:=(Int.ediv_lt_iff_lt_mul h0).2 (by rw[Int.add_mul,Int.one_mul];exact e);omega;exact(Int.le_ediv_iff_mul_le h0).2 a
theorem Jjw(s:Bool)(x d:Nat)(hd:0<d)(z v:Int)(f:z=if s=true then -((x / d:Nat):Int) else ((x / d:Nat):Int))(e:v=if s=true then -(x:Int) else (x:Int)):
 z.natAbs<=x/\(z*(d:Int)).natAbs<=x/\(v - z*(d:Int)).natAbs<=x/\(v - z*(d:Int)<0->v / (d:Int)=z - 1)/\(0<=v - z*(d:Int)->v / (d:Int)=z):=by
 have j:=Nat.div_mul_le_self x d;have i:x<x / d*d+d:=Nat.lt_div_mul_add hd;have g:=gf x d;generalize x / d=q at *;have a:z*(d:Int)=if s=true then -((q*d:Nat):Int) else ((q*d:Nat):Int):=by rw[f];cases s;rw[ol oz,ol oz,Int.natCast_mul];rw[oo rfl,oo rfl,Int.natCast_mul,Int.neg_mul]
 have k1:v - z*(d:Int)<0->v / (d:Int)=z - 1:=λh=>fl_eq om (by
  rw[Int.sub_mul,Int.one_mul];rw[a] at h |-;rw[e] at h |-;cases s;rw[ol oz,ol oz] at h;omega
  rw[oo rfl,oo rfl];omega) (by rw[Int.sub_mul,Int.one_mul];omega)
 have k2:0<=v - z*(d:Int)->v / (d:Int)=z:=λh=>fl_eq om om (by
  rw[a] at h |-;rw[e] at h |-;cases s;rw[ol oz,ol oz];omega
  rw[oo rfl,oo rfl] at h |-;omega)
 refine⟨?_,?_,?_,k1,k2⟩;rw[f];cases s;rw[ol oz];omega;rw[oo rfl];omega;rw[a];cases s;rw[ol oz];omega;rw[oo rfl];omega;rw[a,e];cases s;rw[ol oz,ol oz];omega;rw[oo rfl,oo rfl];omega
theorem Jdr{z:Int}{a:Qf}(d:Ww a)(h:z.natAbs<=val a.A8):Ww (toW z):=⟨Qfx _,by
 show(toL z.natAbs).length<_
 exact ye (xe (W8 h) (K2 d.1)) d.2⟩
theorem Q5l{n:Nat}{a:Qf}{d:List Nat}(hn:big<=n)(f:Ww a)(hd:Wd d)(l:d.length<4398046511104)(h0:val d≠0):∃ r,Ql9 n a ⟨false,d⟩=some (toW (wv a / (val d:Int)),r):=by
 unfold Ql9;simp only[jn_eq];have u:=f.2;have g:Ww ⟨false,d⟩:=⟨hd,l⟩
 rw[Qmf hn u l f.1 hd,ol h0,sbind];simp only[];rw[ot,bifF,Qa1,sbind];have m:wv (⟨false,d⟩:Qf)=(val d:Int):=rfl;have t:(a.Neg != false)=a.Neg:=by cases a.Neg<;>rfl
 rw[t];obtain⟨g1,q,g3,g4,s⟩:=Jjw a.Neg (val a.A8) (val d) om _ (wv a) rfl rfl;have i:(0:Int)<(val d:Int):=om
 generalize (if a.Neg=true then -((val a.A8 / val d:Nat):Int) else ((val a.A8 / val d:Nat):Int))=z at *;have p:=Jdr f g1;have v:=Jdr f q;have wr:=Jdr f g3
 have j:∀ x:Int,-1<=x.sign/\x.sign<=1:=λx=>by rcases Int.lt_trichotomy x 0 with h | h | h;rw[gd h];omega;rw[h];decide;rw[vt h];omega
 have tr:=j (wv a - z*(val d:Int));rw[Qse hn p g,sbind,Qdq,m,Qob hn f v,sbind,Qdq,Qjw hn wr,sbind,Qjw hn g,sbind,Qdq,m,vt i,Int.mul_one,w64 om om];by_cases e:(wv a - z*(val d:Int)).sign<0;rw[oi e,bifT,Qtp hn oz oz,sbind,Qob hn p ⟨Qfx _,by show(toL 1).length<_;rw[toL1];decide⟩,sbind,Qdq,Qdq,Qsf hn wr g,sbind,g4 (Int.sign_neg_iff.1 e)];exact⟨_,rfl⟩;rw[oj e,bifF,s (Int.not_lt.1 λh=>e (Int.sign_neg_iff.2 h))];exact⟨_,rfl⟩
def floorQ(q:Rat):Int:=q.num / (q.den:Int)
theorem Jjx{z:Int}{d:Nat}(hd:d≠0):floorQ (mkRat z d)=z / (d:Int):=by obtain⟨a,e⟩:=Qg7 (z:=z) hd;unfold floorQ;rw[a,e];have g1:(Nat.gcd z.natAbs d:Int) ∣ z:=Int.dvd_natAbs.1 (Int.natCast_dvd_natCast.2 (Nat.gcd_dvd_left _ _));have f:Nat.gcd z.natAbs d ∣ d:=Nat.gcd_dvd_right _ _;have i:0<Nat.gcd z.natAbs d:=Nat.gcd_pos_of_pos_right _ om;generalize Nat.gcd z.natAbs d=g at *;obtain⟨x,rfl⟩:=g1;obtain⟨y,rfl⟩:=f;rw[Int.mul_ediv_cancel_left _ om,Nat.mul_div_cancel_left _ i,Int.natCast_mul,Int.mul_ediv_mul_of_pos _ _ om]
theorem Q7f{n k:Nat}{f:Qc}(hn:big<=n)(m:1<=k)(hk:k<1099511627776)(p:Fk k f):Qnl n f=some (toW (floorQ (fv f))):=by obtain⟨w,d,g,i,q,j,s,e,l⟩:=Qi6 hn p m om;unfold Qnl;obtain⟨r,hr⟩:=Q5l hn (a:=w) (d:=d) ⟨i,om⟩ j om e;rw[g,sbind,hr,sbind,<-l,Jjx e]
theorem Ja5{n:Nat}{w:Qf}{d:List Nat}(hn:big<=n)(e:Ww w)(hd:Wd d)(a:d.length<4398046511104)(h0:val d≠0):Qjh n w d=some (toF (mkRat (wv w) (val d)),true):=by unfold Qjh;rw[Qtm hn om hd,sbind,oj h0,bifF,Qf3 hn e hd a h0,sbind]
set_option maxRecDepth 100000
def fracsR(r:Kg):Prop:=∀ x∈[r.Bd,r.A4,r.Be,r.A6,r.Az],numR x
structure RulR(r:Kg):Prop where
 f:fracsR r
 tol:0<=(fv r.Bd).num.sign
 safe:0<(fv r.A4).num.sign
 safe1:(fv r.A4 - 1).num.sign<=0
 low:0<(fv r.Be).num.sign
 low1:(fv r.Be - 1).num.sign<0
 high:0<=(fv r.A6 - 1).num.sign
 least:0<(fv r.Az).num.sign
 fine:1<=r.A7/\r.A7<=1024
 most:1<=r.Ba/\r.Ba<=200
theorem Q34{n k:Nat}{l:List Qc}(hn:big<=n)(hk:k<1048576)(m:FR k l):Qk7 n l=some (dP (∀ x∈l,numR x)):=by
 unfold Qk7;rw[Qb8 (λ_ (x:Qc)=>numR x) (r:=false),Qil];by_cases h:∀ x∈l,numR x;rw[oo h,dP_t h];rw[ol h,dP_f h];intro i x p;simp only[jn_eq];have e:=Jex hn hk (m x (Jr p));have j:∀(K:Bool->Option (Lp Unit Bool)),((Yl n x).bind λa=>bif !a then K true else (Y5 n x).bind λd=>K (decide ((190:Int)<d)))=(((Yl n x).bind λf=>bif !f then some true else (Y5 n x).bind λg=>some (decide ((190:Int)<g))).bind K):=by
  intro K;cases Yl n x with
  | none=>rfl
  | some v=>
    cases v;rfl;rw[xy,xy];cases Y5 n x<;>rfl
 refine⟨λh=>?_,λh=>?_⟩;refine(j λs=>bif s then some (Lp.out false) else some (Lp.go ())).trans ?_;rw[e,dP_t h];rfl;refine(j λs=>bif s then some (Lp.out false) else some (Lp.go ())).trans ?_;rw[e,dP_f h];rfl
theorem Qrw{n k:Nat}{f:Qc}(hn:big<=n)(a:1<=k)(hk:k<1099511627776)(d:Fk k f):Qid n f=some (decide (0<(fv f).num.sign)):=by unfold Qid;rw[Qdc hn a hk d,sbind]
theorem Q7g{n k:Nat}{r:Kg}(hn:big<=n)(d:1<=k)(hk:k<1048576)(hr:RulW k r):Qnm n r=some (dP (RulR r)):=by
 obtain⟨w1,u,v,w,y⟩:=hr.all;have k1:Fk k (toF 1):=Js (by rw[Qvd];exact d);have a:k<1099511627776:=om
 unfold Qnm Qq1;simp only[jn_eq];rw[Qi8 hn,sbind,Q34 hn hk hr,sbind,bifnP];by_cases c1:∀ x∈[r.Bd,r.A4,r.Be,r.A6,r.Az],numR x
 case neg=>rw[ol c1,sbind,dP_f λh=>c1 h.f];rfl
 rw[oo c1,Qdc hn d a w1,sbind];by_cases m:(fv r.Bd).num.sign<0
 . rw[oi m,bifT,sbind,dP_f λh=>by have:=h.tol;omega];rfl
 rw[oj m,bifF,Qrw hn d a u,sbind];by_cases i:0<(fv r.A4).num.sign
 case neg=>rw[oj i,ov,bifT,bifT,sbind,dP_f λh=>i h.safe];rfl
 rw[oi i,ot,bifF,Zj (k:=k) hn d a u k1,sbind,Jf];by_cases p:0<(fv r.A4 - 1).num.sign
 . rw[oi p,bifT,sbind,dP_f λh=>by have:=h.safe1;omega];rfl
 rw[oj p,bifF,Qrw hn d a v,sbind];by_cases j:0<(fv r.Be).num.sign
 case neg=>rw[oj j,ov,bifT,bifT,sbind,dP_f λh=>j h.low];rfl
 rw[oi j,ot,bifF,Zj (k:=k) hn d a v k1,sbind,Jf];by_cases q:0<=(fv r.Be - 1).num.sign
 . rw[oi q,bifT,sbind,dP_f λh=>by have:=h.low1;omega];rfl
 rw[oj q,bifF,Zj (k:=k) hn d a w k1,sbind,Jf];by_cases s:(fv r.A6 - 1).num.sign<0
 . rw[oi s,bifT,sbind,dP_f λh=>by have:=h.high;omega];rfl
 rw[oj s,bifF,Qrw hn d a y,sbind];by_cases l:0<(fv r.Az).num.sign
 case neg=>rw[oj l,ov,bifT,sbind,dP_f λh=>l h.least];rfl
 rw[oi l,ot,bifF];by_cases t:r.A7<1
 . rw[oi t,bifT,bifT,sbind,dP_f λh=>by have:=h.fine;omega];rfl
 rw[oj t,bifF];by_cases e:1024<r.A7
 . rw[oi e,bifT,sbind,dP_f λh=>by have:=h.fine;omega];rfl
 rw[oj e,bifF];by_cases f:r.Ba<1
 . rw[oi f,bifT,bifT,sbind,dP_f λh=>by have:=h.most;omega];rfl
 rw[oj f,bifF];by_cases g:200<r.Ba
 . rw[oi g,bifT,sbind,dP_f λh=>by have:=h.most;omega];rfl
 rw[oj g,bifF,sbind,dP_t ⟨c1,om,i,om,j,om,om,l,om,om⟩];rfl
def accQ(r:Kg)(e:Rat):Prop:=(e - fv r.Bd).num.sign<=0
def underQ(r:Kg)(w:Rat):Prop:=(w - fv r.Az).num.sign<0
def cutQ(T E W:Rat):Rat:=if 0<(W - (E - T)).num.sign then E - T else W
def downQ(x:Rat)(fine:Int):Rat:=mkRat (floorQ (x*(fine:Rat))) fine.toNat
def factorQ(r:Kg)(e:Rat):Rat:=
 if e=0 then fv r.A6 else
 if (downQ (fv r.A4*fv r.Bd / e) r.A7 - fv r.Be).num.sign<0 then fv r.Be else
 if 0<(downQ (fv r.A4*fv r.Bd / e) r.A7 - fv r.A6).num.sign then fv r.A6 else downQ (fv r.A4*fv r.Bd / e) r.A7
theorem Q35{n k:Nat}{r:Kg}{e:Rat}(hn:big<=n)(a:1<=k)(hk:k<1099511627776)(hr:Fk k r.Bd)(d:qw e<=k):Qh7 n r (toF e)=some (dP (accQ r e)):=by unfold Qh7;rw[Zj hn a hk (Js d) hr,sbind,Jf,decP];rfl
theorem Q7h{n k:Nat}{r:Kg}{e:Rat}(hn:big<=n)(a:1<=k)(hk:k<1099511627776)(hr:Fk k r.Az)(d:qw e<=k):Qe8 n r (toF e)=some (dP (underQ r e)):=by unfold Qe8;rw[Zj hn a hk (Js d) hr,sbind,Jf,decP];rfl
theorem Ja6{n k:Nat}{e:Qc}{T W:Rat}(hn:big<=n)(a:1<=k)(hk:k<100000000)(f:qw T<=k)(d:Fk k e)(g:qw W<=k):Qn6 n (toF T) e (toF W)=some (toF (cutQ T (fv e) W)):=by unfold Qn6 cutQ;have i:=Qpa (qw_fv d a) f;rw[Qmg (k:=k) hn a om d (Js f),sbind,Jf,Zj (k:=k+k+1) hn om om (Js om) (Js i),sbind,Jf,Jf];by_cases h:0<(W - (fv e - T)).num.sign;rw[oi h,oo h];rfl;rw[oj h,ol h,bifF,Va hn (Fk_Fw (Js g) om),sbind,Jf]
theorem Q3l{z:Int}{k:Nat}(a:1<=k)(h:(toL z.natAbs).length<=k):qw (z:Rat)<=k:=by unfold qw;rw[show((z:Rat)).num=z from rfl,show((z:Rat)).den=1 from rfl,toL1];omega
theorem Qvn{fine:Int}(h:1<=fine/\fine<=1024):(toL fine.natAbs).length<=1:=Qcc (n:=fine.natAbs) (k:=1) (by rw[Wz,Qau];omega)
theorem Qwx(q:Rat):(floorQ q).natAbs<=q.num.natAbs:=by unfold floorQ;exact Int.natAbs_ediv_le_natAbs _ _
theorem Q82{n k:Nat}{x:Rat}{fine:Int}(hn:big<=n)(i:1<=k)(hk:k<100000000)(g:qw x<=k)(a:1<=fine/\fine<=1024):Qow n (toF x) fine=some (toF (downQ x fine)):=by
 unfold Qow downQ;have l:qw (fine:Rat)<=1:=Q3l om (Qvn a);have e:=Wa g l;rw[Qlm hn om om,sbind,Xf (k:=k) hn i om (Js g) (Js om),sbind,Jf,Jf,Q7f (k:=k+1) hn om om (Js e),sbind,Jf,Qtp hn om om,sbind];have j:(toL (floorQ (x*(fine:Rat))).natAbs).length<=k+1:=xe (W8 (Qwx _)) (xe (Qex _) e);have f:val (toW fine).A8=fine.toNat:=by
  show val (toL fine.natAbs)=_;rw[Jc];omega
 rw[Ja5 hn (w:=toW (floorQ (x*(fine:Rat)))) (d:=(toW fine).A8) ⟨Qfx _,by show(toL (floorQ (x*(fine:Rat))).natAbs).length<_;omega⟩ (Qfx _) (by show(toL fine.natAbs).length<_;have:=Qvn a;omega) (by rw[f];omega),sbind,Qdq,f]
theorem Jln{x:Rat}{fine:Int}{k:Nat}(f:qw x<=k)(a:1<=fine/\fine<=1024):qw (downQ x fine)<=k+1:=by unfold downQ;have e:qw (fine:Rat)<=1:=Q3l om (Qvn a);have d:=Wa f e;refine Qz9 om (xe (W8 (Qwx _)) (xe (Qex _) d)) ?_;have:=Qvn a;rw[show fine.toNat=fine.natAbs by omega];omega
theorem Q5m{n k:Nat}{r:Kg}{e:Rat}(hn:big<=n)(f:1<=k)(hk:k<1000000)(hr:RulW k r)(i:1<=r.A7/\r.A7<=1024)(p:qw e<=k):Qma n r (toF e)=some (toF (factorQ r e)):=by obtain⟨w1,l,m,g,q⟩:=hr.all;have j:=Wa (qw_fv l f) (qw_fv w1 f);have hd:=Qj0 j p;have a:=Jln hd i;unfold Qma factorQ;rw[Xf (k:=k) hn f om l w1,sbind,Qg9 (k:=k+k) hn om om (Js j) (Js om),sbind,Jf,Jf];by_cases h0:e=0;rw[oo h0,oo h0];simp only[];rw[ov,bifT,Va hn (Fk_Fw g om),sbind];rw[ol h0,ol h0];simp only[];rw[ot,bifF,Q82 (k:=k+k+k) hn om om hd i,sbind,Zj (k:=k+k+k+1) hn om om (Js a) (Vm m om),sbind,Jf];generalize downQ (fv r.A4*fv r.Bd / e) r.A7=x at *;by_cases g1:(x - fv r.Be).num.sign<0;rw[oi g1,oo g1,bifT,Va hn (Fk_Fw m om),sbind];rw[oj g1,ol g1,bifF,Zj (k:=k+k+k+1) hn om om (Js a) (Vm g om),sbind,Jf];by_cases d:0<(x - fv r.A6).num.sign;rw[oi d,oo d,bifT,Va hn (Fk_Fw g om),sbind];rw[oj d,ol d,bifF]
set_option maxRecDepth 100000
theorem Jjy{x h:Rat}{fine:Int}{j:Nat}(m:1<=fine/\fine<=1024)(h0:0<downQ x fine)(i:downQ x fine<=h)(l:qw h<=j):qw (downQ x fine)<=j+1:=by
 have f:(downQ x fine).den<=1024:=by unfold downQ;rw[(Qg7 (z:=floorQ (x*(fine:Rat))) (d:=fine.toNat) om).2];exact xe (gf _ _) om
 generalize downQ x fine=y at *;have hn:0<y.num:=by have:=Qnx.2 h0;exact Int.sign_pos_iff.1 this
 rw[Rat.le_iff] at i;have e:(1:Int)<=(h.den:Int):=by have:=h.den_nz;omega
 have a1:y.num<=y.num*(h.den:Int):=by have:=Int.mul_le_mul_of_nonneg_left e (Int.le_of_lt hn);rwa [Int.mul_one] at this
 have a:0<=h.num:=by rcases Int.lt_or_le h.num 0 with g | g;have:=Int.mul_neg_of_neg_of_pos g (show(0:Int)<(y.den:Int) by have:=y.den_nz;omega);omega;exact g
 have a2:h.num*(y.den:Int)<=h.num*1024:=Int.mul_le_mul_of_nonneg_left om a;have a3:y.num.natAbs<=h.num.natAbs*1024:=om
 have p:(toL y.num.natAbs).length<=j+1:=by refine xe (W8 a3) (xe Qb6 ?_);have:=xe (Qex h) l;have:(toL 1024).length<=1:=Qcc (n:=1024) (k:=1) (by rw[Wz,Qau];omega);omega
 have q:(toL y.den).length<=1:=Qcc (n:=y.den) (k:=1) (by rw[Wz,Qau];omega);unfold qw;omega
theorem Q0l{r:Kg}(hr:RulR r){j:Nat}(g:qw (fv r.Be)<=j)(d:qw (fv r.A6)<=j)(e:Rat):qw (factorQ r e)<=j+1:=by have f:=Qnx.1 hr.low;unfold factorQ;split;omega;split;omega;rename_i g1;split;omega;rename_i a;have g3:=Rat.not_lt.1 (λh=>g1 (sg_lt.2 h));exact Jjy hr.fine (by grind) (Rat.not_lt.1 λh=>a (sg_gt.2 h)) d
def toTryA(t:TryA):Q6:=⟨toF t.T,toF t.Ax,toF t.H,toF t.A5,toR t.Y,t.Ok⟩
theorem Jlo{T E W:Rat}{a b:Nat}(d:qw T<=a)(e:qw E<=2)(f:qw W<=b):qw (cutQ T E W)<=max (a+3) b/\qw (T+cutQ T E W)<=max 2 (a+b+1):=by unfold cutQ;split;have:=Qpa e d;refine⟨om,?_⟩;rw[show T+(E - T)=E by grind];omega;have:=Zn d f;exact⟨om,om⟩
set_option maxRecDepth 100000
structure TskW(k:J1):Prop where
 p:PrbW 4000 k.Au
 r:RulW 2 k.Ar
 s:Fk 2 k.A0
 e:Fk 2 k.Bf
 f:Fk 2 k.A1
 y:FR 2 k.Y
def TskR(k:J1):Prop:=prbR k.Au/\RulR k.Ar/\(k.Y.length:Int)=k.Au.Tape.A3/\fv k.A0<=fv k.Bf/\0<fv k.A1
theorem Q5n{n:Nat}{k:J1}(hn:big<=n)(a:TskW k):Qfl n k=some (dP (TskR k)):=by
 unfold Qfl TskR;simp only[jn_eq];rw[Q0c hn oz oz a.p,sbind,bifP];by_cases c1:prbR k.Au
 case neg=>rw[ol c1,dP_f λh=>c1 h.1]
 rw[oo c1,Q7g hn oz oz a.r,sbind,bifP];by_cases d:RulR k.Ar
 case neg=>rw[ol d,dP_f λh=>d h.2.1]
 rw[oo d];by_cases e:(k.Y.length:Int)=k.Au.Tape.A3
 case neg=>rw[oj e,bifF,dP_f λh=>e h.2.2.1]
 rw[oi e,bifT,Zj (k:=2) hn oz oz a.e a.s,sbind];by_cases f:0<=(fv k.Bf - fv k.A0).num.sign
 case neg=>rw[oj f,bifF,dP_f λh=>f (sg_ge.2 h.2.2.2.1)]
 rw[oi f,bifT,Qdc (k:=2) hn oz oz a.f,sbind];by_cases g:0<(fv k.A1).num.sign
 . rw[oi g,dP_t ⟨c1,d,e,sg_ge.1 f,Qnx.1 g⟩]
 . rw[oj g,dP_f λh=>g (Qnx.2 h.2.2.2.2)]
set_option maxRecDepth 100000
structure TA(K d:Nat)(x:TryA):Prop where
 t:qw x.T<=K
 w:qw x.Ax<=K
 h:qw x.H<=K
 e:qw x.A5<=K
 y:QR K x.Y
 l:x.Y.length=d
def mA(tr:List TryA)(T:Rat)(Y:List Rat):Qs:=⟨tr.map toTryA,toF T,toR Y⟩
theorem Jjz{k m:Nat}{t:TryA}(h:TA k m t):QR k [t.T,t.Ax,t.H,t.A5]:=λq a=>by rcases xg.1 a with rfl | a;exact h.t;rcases xg.1 a with rfl | a;exact h.w;rcases xg.1 a with rfl | a;exact h.h;rw[xx.1 a];exact h.e
theorem getTA{tr:List TryA}{i:Nat}{x:Q6}(h:(tr.map toTryA)[i]?=some x):∃ t,tr[i]?=some t/\x=toTryA t:=by
 rw[yr] at h;cases a:tr[i]? with
 | none=>rw[a] at h;cases h
 | some t=>rw[a] at h;cases h;exact⟨t,rfl,rfl⟩
def tR(r:K7):Kg:=⟨tF r.Bd,tF r.A4,tF r.Be,tF r.A6,tF r.Az,r.A7,r.Ba⟩
def tK(k:Jb):J1:=⟨tP k.Au,tR k.Ar,tF k.A0,tF k.Bf,tF k.A1,k.Y.map tF⟩
def F2(f:Qa):Prop:=f.N.length<=2/\f.D.length<=2
structure TskL(k:Jb):Prop where
 p:(k.Au.Tape.Code.length<=10/\k.Au.Tape.Av.length<=10/\∀ c∈k.Au.Tape.Code,c.N.N.length<=2/\c.N.D.length<=2)/\(k.Au.Ap.Bh.length<=50/\k.Au.Ap.A.length<=4/\FL 4 4 k.Au.Ap.B/\FL 4 4 k.Au.Ap.C/\FL 4 4 k.Au.Ap.E/\∀ r∈k.Au.Ap.A,FL 4 4 r)/\FL 6 2 k.Au.P
 r:F2 k.Ar.Bd/\F2 k.Ar.A4/\F2 k.Ar.Be/\F2 k.Ar.A6/\F2 k.Ar.Az
 m:k.Ar.Ba<=12\/200<k.Ar.Ba
 s:F2 k.A0
 e:F2 k.Bf
 f:F2 k.A1
 y:FL 4 2 k.Y
theorem Q7i{r:K7}:∃ v,Qd4 r 2=some v/\(v=false->F2 r.Bd/\F2 r.A4/\F2 r.Be/\F2 r.A6/\F2 r.Az):=by
 unfold Qd4;simp only[jn_eq];have e:∀ g:Qa,J2 g 2=some (!decide (g.N.length<=2/\g.D.length<=2)):=λg=>Qfi g 2;simp only[e,sbind];by_cases a:r.Bd.N.length<=2/\r.Bd.D.length<=2
 case neg=>rw[oj a];exact⟨true,rfl,λh=>by cases h⟩
 by_cases d:r.A4.N.length<=2/\r.A4.D.length<=2
 case neg=>rw[oi a,oj d];exact⟨true,rfl,λh=>by cases h⟩
 by_cases f:r.Be.N.length<=2/\r.Be.D.length<=2
 case neg=>rw[oi a,oi d,oj f];exact⟨true,rfl,λh=>by cases h⟩
 by_cases i:r.A6.N.length<=2/\r.A6.D.length<=2
 case neg=>rw[oi a,oi d,oi f,oj i];exact⟨true,rfl,λh=>by cases h⟩
 by_cases j:r.Az.N.length<=2/\r.Az.D.length<=2
 case neg=>rw[oi a,oi d,oi f,oi i,oj j];exact⟨true,rfl,λh=>by cases h⟩
 rw[oi a,oi d,oi f,oi i,oi j];exact⟨false,rfl,λ_=>⟨a,d,f,i,j⟩⟩
theorem Q7j{n:Nat}{k:Jb}(hn:big<=n):∃ v,Qd5 n k=some v/\(v=false->TskL k):=by
 unfold Qd5;simp only[jn_eq];have e:∀ g:Qa,J2 g 2=some (!decide (g.N.length<=2/\g.D.length<=2)):=λg=>Qfi g 2;obtain⟨v,q,t⟩:=Qrp (p:=k.Au) (a:=10) (b:=4) (k:=2) hn oz oz;rw[show((10:Nat):Int)=10 from rfl,show((4:Nat):Int)=4 from rfl,show((2:Nat):Int)=2 from rfl] at q;obtain⟨w,x,y⟩:=Q7i (r:=k.Ar);obtain⟨u,s,A⟩:=Yb (l:=k.Y) (many:=4) (k:=2) hn oz;rw[show((4:Nat):Int)=4 from rfl,show((2:Nat):Int)=2 from rfl] at s;simp only[q,x,s,e,sbind];cases v
 case true=>exact⟨true,rfl,λh=>by cases h⟩
 rw[bifF];by_cases c1:(300:Int)<k.Au.Aw
 . rw[oi c1];exact⟨true,rfl,λh=>by cases h⟩
 rw[oj c1,bifF];cases w
 case true=>exact⟨true,rfl,λh=>by cases h⟩
 rw[bifF]
 have fin:(k.Ar.Ba<=12\/200<k.Ar.Ba)->∃ v,(bif !decide (k.A0.N.length<=2/\k.A0.D.length<=2) then some true else bif !decide (k.Bf.N.length<=2/\k.Bf.D.length<=2) then some true else bif !decide (k.A1.N.length<=2/\k.A1.D.length<=2) then some true else some u)=some v/\(v=false->TskL k):=λB=>by
  by_cases d:k.A0.N.length<=2/\k.A0.D.length<=2
  case neg=>rw[oj d];exact⟨true,rfl,λh=>by cases h⟩
  by_cases f:k.Bf.N.length<=2/\k.Bf.D.length<=2
  case neg=>rw[oi d,oj f];exact⟨true,rfl,λh=>by cases h⟩
  by_cases i:k.A1.N.length<=2/\k.A1.D.length<=2
  case neg=>rw[oi d,oi f,oj i];exact⟨true,rfl,λh=>by cases h⟩
  rw[oi d,oi f,oi i];exact⟨u,rfl,λh=>⟨t rfl,y rfl,B,d,f,i,A h⟩⟩
 by_cases j:(12:Int)<k.Ar.Ba
 . rw[oi j,bifT]
   by_cases m:k.Ar.Ba<=200
   . rw[oi m];exact⟨true,rfl,λh=>by cases h⟩
   rw[oj m,bifF];exact fin (.inr om)
 . rw[oj j,bifF]
   exact fin (.inl om)
theorem Jlp{k:Jb}(l:Qj6 k)(h:TskL k):TskW (tK k):=by obtain⟨d,e,f,g,i,j,_⟩:=l;obtain⟨t,u,v,w,y,_⟩:=e;obtain⟨m,p,q,r,s⟩:=h.r;refine⟨(Q8v (bits:=k.Au.Aw) d oz h.p).mono oz,λx a=>?_,Fk_tF f h.s,Fk_tF g h.e,Fk_tF i h.f,FR_tF j h.y⟩;rcases xg.1 a with rfl | a;exact Fk_tF t m;rcases xg.1 a with rfl | a;exact Fk_tF u p;rcases xg.1 a with rfl | a;exact Fk_tF v q;rcases xg.1 a with rfl | a;exact Fk_tF w r;rw[xx.1 a];exact Fk_tF y s
theorem Ja7{n:Nat}{k:Jb}(hn:big<=n)(h:TskL k):Qfa n k=some (tK k):=by obtain⟨⟨j,l,t3⟩,⟨s1,i,d,e,f,g⟩,a⟩:=h.p;have m:=h.y.1;unfold Qfa Qhn Kb;rw[Qts hn om om om (by have:=d.1;omega) (by have:=e.1;omega) (by have:=f.1;omega) (λr hr=>by have:=(g r hr).1;omega) (by have:=a.1;omega),sbind];simp only[sbind];rw[Qa2 hn om,sbind];rfl
set_option maxRecDepth 100000
theorem FT_A{d:Nat}{t:TryA}(h:TA 4000 d t)(hd:d<=1000):FT 4000 (toTryA t):=⟨X8 (Jjz h),X8 h.y,by show(toR t.Y).length<=_;rw[Kr,h.l];omega⟩
set_option maxRecDepth 100000
theorem Q83{n k:Nat}{f:Qa}(hn:big<=n)(hk:k<274877906944)(d:1<=k)(e:Fk k (tF f)):Xv n f=some (!dP (numR (tF f))):=by unfold Xv;simp only[jn_eq];rw[Q48 _ hn hk d e,bifnP];unfold numR;by_cases c:tF f=toF (fv (tF f));rw[oo c];have hr:rF (fr f)=f:=Qc0.2 c;have i:=Qgx (q:=fr f) hn hk (qw_fr (Fk_wd e) d);rw[hr] at i;rw[i,sbind,fr_tF];by_cases a:qz (fr f)<=190;rw[oj om,dP_t ⟨c,a⟩];rfl;rw[oi om,dP_f λg=>a g.2];rfl;rw[ol c,dP_f λg=>c g.1];rfl
theorem Q5o{n:Nat}{r:K7}(hn:big<=n)(y:RulW 2 (tR r)):∃ w,Qdm n r=some w/\decide (w=0)=dP (RulR (tR r)):=by
 obtain⟨w1,J,K,L,w5⟩:=y.all;unfold Qdm;simp only[jn_eq];rw[Qrs hn,sbind];have e:∀ {f:Qa},Fk 2 (tF f)->Xv n f=some (!dP (numR (tF f))):=λh=>Q83 hn oz oz h;have d:¬ RulR (tR r)->∀ w:Int,w≠0->∃ v,some w=some v/\decide (v=0)=dP (RulR (tR r)):=λh w y=>⟨w,rfl,by rw[dP_f h,oj y]⟩
 rw[e (f:=r.Bd) w1,sbind];by_cases s:numR (tF r.Bd)
 case neg=>rw[dP_f s];exact d (λh=>s (h.f _ (by show tF r.Bd∈[tF r.Bd,tF r.A4,tF r.Be,tF r.A6,tF r.Az];simp))) 1 oz
 rw[dP_t s,ot,bifF,e (f:=r.A4) J,sbind];by_cases g:numR (tF r.A4)
 case neg=>rw[dP_f g];exact d (λh=>g (h.f _ (by show tF r.A4∈[tF r.Bd,tF r.A4,tF r.Be,tF r.A6,tF r.Az];simp))) 1 oz
 rw[dP_t g,ot,bifF,e (f:=r.Be) K,sbind];by_cases i:numR (tF r.Be)
 case neg=>rw[dP_f i];exact d (λh=>i (h.f _ (by show tF r.Be∈[tF r.Bd,tF r.A4,tF r.Be,tF r.A6,tF r.Az];simp))) 1 oz
 rw[dP_t i,ot,bifF,e (f:=r.A6) L,sbind];by_cases t:numR (tF r.A6)
 case neg=>rw[dP_f t];exact d (λh=>t (h.f _ (by show tF r.A6∈[tF r.Bd,tF r.A4,tF r.Be,tF r.A6,tF r.Az];simp))) 1 oz
 rw[dP_t t,ot,bifF,e (f:=r.Az) w5,sbind];by_cases u:numR (tF r.Az)
 case neg=>rw[dP_f u];exact d (λh=>u (h.f _ (by show tF r.Az∈[tF r.Bd,tF r.A4,tF r.Be,tF r.A6,tF r.Az];simp))) 1 oz
 rw[dP_t u,ot,bifF]
 have V:fracsR (tR r):=λx hx=>by
  have a:x∈[tF r.Bd,tF r.A4,tF r.Be,tF r.A6,tF r.Az]:=hx;rcases xg.1 a with rfl | a
  . exact s
  rcases xg.1 a with rfl | a
  . exact g
  rcases xg.1 a with rfl | a
  . exact i
  rcases xg.1 a with rfl | a
  . exact t
  rw[xx.1 a];exact u
 have q2:=qw_fr (Fk_wd J) (show 1<=2 by decide);have q3:=qw_fr (Fk_wd K) (show 1<=2 by decide);have q4:=qw_fr (Fk_wd L) (show 1<=2 by decide);have g1:Kj r.Bd=some (fr r.Bd).num.sign:=by have:=Qce (fr r.Bd);rwa [Qco s] at this
 have W:Kj r.A4=some (fr r.A4).num.sign:=by have:=Qce (fr r.A4);rwa [Qco g] at this
 have g3:Kj r.Be=some (fr r.Be).num.sign:=by have:=Qce (fr r.Be);rwa [Qco i] at this
 have X:Kj r.Az=some (fr r.Az).num.sign:=by have:=Qce (fr r.Az);rwa [Qco u] at this
 have k1:qw (1:Rat)<=2:=by rw[Qvd];decide
 have Y:J0 n r.A4 (rF 1)=some (fr r.A4 - 1).num.sign:=by have:=Ze (p:=fr r.A4) (q:=1) (k:=2) hn oz q2 k1;rwa [Qco g] at this
 have Z:J0 n r.Be (rF 1)=some (fr r.Be - 1).num.sign:=by have:=Ze (p:=fr r.Be) (q:=1) (k:=2) hn oz q3 k1;rwa [Qco i] at this
 have h4:J0 n r.A6 (rF 1)=some (fr r.A6 - 1).num.sign:=by have:=Ze (p:=fr r.A6) (q:=1) (k:=2) hn oz q4 k1;rwa [Qco t] at this
 rw[g1,sbind];by_cases A:(fr r.Bd).num.sign<0
 . rw[oi A];exact d (λh=>by have:0<=(fr r.Bd).num.sign:=h.tol;omega) 2 oz
 rw[oj A,bifF,W,sbind];by_cases B:(fr r.A4).num.sign<=0
 . rw[oi B];exact d (λh=>by have:0<(fr r.A4).num.sign:=h.safe;omega) 3 oz
 rw[oj B,bifF,Y,sbind];by_cases C:0<(fr r.A4 - 1).num.sign
 . rw[oi C];exact d (λh=>by have:(fr r.A4 - 1).num.sign<=0:=h.safe1;omega) 3 oz
 rw[oj C,bifF,g3,sbind];by_cases E:(fr r.Be).num.sign<=0
 . rw[oi E];exact d (λh=>by have:0<(fr r.Be).num.sign:=h.low;omega) 4 oz
 rw[oj E,bifF,Z,sbind];by_cases F:0<=(fr r.Be - 1).num.sign
 . rw[oi F];exact d (λh=>by have:(fr r.Be - 1).num.sign<0:=h.low1;omega) 4 oz
 rw[oj F,bifF,h4,sbind];by_cases G:(fr r.A6 - 1).num.sign<0
 . rw[oi G];exact d (λh=>by have:0<=(fr r.A6 - 1).num.sign:=h.high;omega) 5 oz
 rw[oj G,bifF,X,sbind];by_cases H:(fr r.Az).num.sign<=0
 . rw[oi H];exact d (λh=>by have:0<(fr r.Az).num.sign:=h.least;omega) 6 oz
 rw[oj H,bifF];by_cases I:r.A7<1
 . rw[oi I];exact d (λh=>by have:1<=r.A7:=h.fine.1;omega) 7 oz
 rw[oj I,bifF];by_cases j:1024<r.A7
 . rw[oi j];exact d (λh=>by have:r.A7<=1024:=h.fine.2;omega) 7 oz
 rw[oj j,bifF];by_cases l:r.Ba<1
 . rw[oi l];exact d (λh=>by have:1<=r.Ba:=h.most.1;omega) 8 oz
 rw[oj l,bifF];by_cases m:200<r.Ba
 . rw[oi m];exact d (λh=>by have:r.Ba<=200:=h.most.2;omega) 8 oz
 rw[oj m,bifF];have N:0<(fr r.A4).num.sign:=om
 have M:0<=(fr r.Bd).num.sign:=om
 have O:(fr r.A4 - 1).num.sign<=0:=om
 have P:0<(fr r.Be).num.sign:=om
 have Q:(fr r.Be - 1).num.sign<0:=om
 have R:0<=(fr r.A6 - 1).num.sign:=om
 have S:0<(fr r.Az).num.sign:=om
 have T:1<=r.A7/\r.A7<=1024:=om
 have U:1<=r.Ba/\r.Ba<=200:=om
 exact⟨0,rfl,by rw[dP_t (show RulR (tR r) from⟨V,M,N,O,P,Q,R,S,T,U⟩)];rfl⟩
theorem Q84{n k:Nat}{T E W:Rat}(hn:big<=n)(hk:k<100000000)(a:qw T<=k)(f:qw E<=k)(d:qw W<=k):Qes n (rF T) (rF E) (rF W)=some (rF (cutQ T E W)):=by unfold Qes cutQ;have e:=Zn a d;rw[V7 (k:=k) hn om a d,sbind,Ze (k:=k+k+1) hn om e om,sbind,show T+W - E=W - (E - T) by grind];by_cases h:0<(W - (E - T)).num.sign;rw[oi h,oo h,bifT,Qh9 (k:=k) hn om f a,sbind];rw[oj h,ol h];rfl
theorem Q5p{n k:Nat}{x:Rat}(hn:big<=n)(hk:k<1000000000)(l:qw x<=k)(h0:0<=x.num):Qdo n (rF x)=some (rW (floorQ x)):=by
 have a1:=Qex x;have a2:=Qhe x;have hd:=x.den_nz;unfold Qdo Qho Qfp Qgr Qgs;simp only[jn_eq];unfold rF;rw[sbind];simp only[];have e:(toL (x.num.natAbs / x.den)).length<=k:=xe (W8 (gf _ _)) om;rw[Qy3 hn om om (Jq _) (Jq _) (by rw[Jc];exact hd),sbind,Jc,Jc,oj (show ¬ x.num<0 by omega),show((false:Bool) != false)=false from rfl,bifF];simp only[bifF];rw[Qfj hn (Jq _) (by simp only[];omega),sbind];have a:wy ⟨false,toL (x.num.natAbs / x.den)⟩=floorQ x:=by
  unfold wy floorQ;simp only[Jc,vg,yd];rw[Int.natCast_ediv];congr 1;omega
 rw[a];have d:(toL (floorQ x).natAbs).length<=k:=xe (W8 (Qwx _)) om;unfold rW;simp only[];have m:=@Qb6 (floorQ x).natAbs x.den;rw[Qdb hn om om (Jq _) (Jq _),sbind,Jc,Jc,Qfj hn (Jq _) (by simp only[];omega),sbind];generalize i:wy ⟨decide (floorQ x<0) != false,toL ((floorQ x).natAbs*x.den)⟩=z;have j:(toL z.natAbs).length<=2*k:=by
  have:z.natAbs=(floorQ x).natAbs*x.den:=by rw[<-i];unfold wy;simp only[Jc];split<;>omega
  rw[this];omega
 rw[sbind];unfold rW;simp only[];rw[Qfj hn (Jq _) (by simp only[];omega),sbind,sbind];generalize f:wy ⟨!decide (z<0),toL z.natAbs⟩=y;have g:(toL y.natAbs).length<=2*k:=by
  have:y.natAbs=z.natAbs:=by rw[<-f];unfold wy;simp only[Jc];split<;>omega
  rw[this];omega
 unfold rW;rw[Qy6 hn (Jq _) (Jq _) (by simp only[];omega) (by simp only[];omega),sbind,sbind]
set_option maxRecDepth 100000
theorem Jj0{q:Rat}(h:0<=q):0<=floorQ q:=by unfold floorQ;exact Int.ediv_nonneg (Rat.num_nonneg.2 h) (gg _)
theorem Jik{z:Int}{d:Nat}(hd:d≠0):mkRat z d=(z:Rat) / ((d:Int):Rat):=by
 have a:((z:Rat))=mkRat z 1:=by rw[<-ve (z:Rat)];rfl
 have e:(((d:Int):Rat))=mkRat (d:Int) 1:=by rw[<-ve ((d:Int):Rat)];rfl
 rw[wh,a,e,Q2i om oz,vt om,gq];simp
theorem Jlq{x:Rat}{fine:Int}(a:1<=fine/\fine<=1024):downQ x fine=(floorQ (x*(fine:Rat)):Rat) / (fine:Rat):=by unfold downQ;rw[Jik om,show((fine.toNat:Nat):Int)=fine by omega]
theorem Jnr{z:Int}(a:0<=z):fr ⟨false,toL z.natAbs,[1]⟩=(z:Rat):=by unfold fr;simp only[Jc,vg,yd];rw[show val [1]=1 from rfl,show((z.natAbs:Nat):Int)=z by omega];rw[<-ve (z:Rat)];rfl
theorem Q36{n k:Nat}{r:K7}{e:Rat}(hn:big<=n)(P:2<=k)(hk:k<1000000)(A:RulW 2 (tR r))(hr:RulR (tR r))(y:qw e<=k)(g:0<=e):Qa8 n r (rF e)=some (rF (factorQ (tR r) e)):=by
 obtain⟨w1,K,L,M,S⟩:=A.all;have m:=qw_fr (Fk_wd w1) (show 1<=2 by decide);have s:=qw_fr (Fk_wd K) (show 1<=2 by decide);have H:=qw_fr (Fk_wd L) (show 1<=2 by decide);have I:=qw_fr (Fk_wd M) (show 1<=2 by decide);have F:rF (fr r.Bd)=r.Bd:=Qco (hr.f _ (by show tF r.Bd∈[tF r.Bd,tF r.A4,tF r.Be,tF r.A6,tF r.Az];simp));have G:rF (fr r.A4)=r.A4:=Qco (hr.f _ (by show tF r.A4∈[tF r.Bd,tF r.A4,tF r.Be,tF r.A6,tF r.Az];simp));have i:rF (fr r.Be)=r.Be:=Qco (hr.f _ (by show tF r.Be∈[tF r.Bd,tF r.A4,tF r.Be,tF r.A6,tF r.Az];simp));have f:rF (fr r.A6)=r.A6:=Qco (hr.f _ (by show tF r.A6∈[tF r.Bd,tF r.A4,tF r.Be,tF r.A6,tF r.Az];simp));have j:1<=r.A7/\r.A7<=1024:=hr.fine;have s1:0<=fr r.Bd:=Q2s.1 hr.tol;have J:0<fr r.A4:=Qnx.1 hr.safe;have Q:fr r.Be<1:=sg_lt.1 hr.low1;have R:1<=fr r.A6:=sg_ge.1 hr.high;have fF:factorQ (tR r) e=if e=0 then fr r.A6 else if (downQ (fr r.A4*fr r.Bd / e) r.A7 - fr r.Be).num.sign<0 then fr r.Be else if 0<(downQ (fr r.A4*fr r.Bd / e) r.A7 - fr r.A6).num.sign then fr r.A6 else downQ (fr r.A4*fr r.Bd / e) r.A7:=rfl
 unfold Qa8;simp only[jn_eq];rw[Qgw,sbind,fF];by_cases h0:e=0;rw[oi h0,oo h0,bifT,f];rw[oj h0,ol h0,bifF];have a:qw (r.A7:Rat)<=1:=Q3l om (Qvn j);have l:=Wa s m;have C:=Wa l a;have E:=Qj0 C y;have eM:Q3 n r.A4 r.Bd=some (rF (fr r.A4*fr r.Bd)):=by have:=V8 (p:=fr r.A4) (q:=fr r.Bd) (k:=2) hn oz s m;rwa [F,G] at this
 rw[Qm2 hn om om,sbind,eM,sbind,V8 (k:=4) hn oz l om,sbind,Qf6 (k:=k+5) hn om om om,sbind];have w:fr r.A4*fr r.Bd*(r.A7:Rat) / e=fr r.A4*fr r.Bd / e*(r.A7:Rat):=by rw[wh,wh];grind
 rw[w] at E |-;have epos:0<e:=Rat.lt_iff_le_and_ne.2 ⟨g,λh=>h0 h.symm⟩;have t:0<=fr r.A4*fr r.Bd / e*(r.A7:Rat):=by
  have a1:0<=fr r.A4*fr r.Bd:=Rat.mul_nonneg (Rat.le_of_lt J) s1;have a2:0<=e⁻¹:=Rat.le_of_lt (Rat.inv_pos.2 epos);have a3:(0:Rat)<=(r.A7:Rat):=by exact_mod_cast (show(0:Int)<=r.A7 by omega)
  rw[wh];exact Rat.mul_nonneg (Rat.mul_nonneg a1 a2) a3
 rw[Q5p (k:=k+5) hn om om (Rat.num_nonneg.2 t),sbind];have z0:=Jj0 t;have N:(toL (floorQ (fr r.A4*fr r.Bd / e*(r.A7:Rat))).natAbs).length<=k+5:=xe (W8 (Qwx _)) (xe (Qex _) om);rw[Jlq j];generalize floorQ (fr r.A4*fr r.Bd / e*(r.A7:Rat))=z at *;rw[Qfj hn (Jq _) (by unfold rW;simp only[];omega),sbind,wy_rW];unfold rW;simp only[];rw[Xb hn (Jq _) (λx B=>by rw[xx.1 B];decide) (by simp only[];omega) oc,sbind,Jnr z0];have zq:qw (z:Rat)<=k+5:=Q3l om N;have O:=Qj0 zq a;have c1:J0 n (rF ((z:Rat) / (r.A7:Rat))) r.Be=some ((z:Rat) / (r.A7:Rat) - fr r.Be).num.sign:=by
  have:=Ze (p:=(z:Rat) / (r.A7:Rat)) (q:=fr r.Be) (k:=k+6) hn om om om;rwa [i] at this
 have u:J0 n (rF ((z:Rat) / (r.A7:Rat))) r.A6=some ((z:Rat) / (r.A7:Rat) - fr r.A6).num.sign:=by have:=Ze (p:=(z:Rat) / (r.A7:Rat)) (q:=fr r.A6) (k:=k+6) hn om om om;rwa [f] at this
 have v:J0 n r.Be r.A6=some (fr r.Be - fr r.A6).num.sign:=by have:=Ze (p:=fr r.Be) (q:=fr r.A6) (k:=2) hn om H I;rwa [i,f] at this
 rw[Qf6 (k:=k+5) hn om zq om,sbind,c1,sbind];by_cases g1:((z:Rat) / (r.A7:Rat) - fr r.Be).num.sign<0;have g3:¬ 0<(fr r.Be - fr r.A6).num.sign:=λh=>by have:=sg_gt.1 h;grind
 rw[oi g1,oo g1,bifT,v,sbind,oj g3,bifF,i];rw[oj g1,ol g1,bifF,u,sbind];by_cases d:0<((z:Rat) / (r.A7:Rat) - fr r.A6).num.sign;rw[oi d,oo d,bifT,f];rw[oj d,ol d,bifF]
set_option maxRecDepth 100000
theorem is_A{n d:Nat}{tr:List TryA}{T:Rat}{Y:List Rat}(hn:big<=n)(f:∀ t∈tr,TA 4000 d t)(hd:d<=1000)(m:tr.length<=1000)(i:qw T<=4000)(j:QR 4000 Y)(l:Y.length<=1000):
 Yj n (mA tr T Y) ⟨tr.map toTryAr,rF T,rR Y⟩=some true:=by
 refine Qww hn (by show(tr.map toTryA).length<=_;rw[ou];omega) (by show(toR Y).length<=_;rw[Kr];omega) (λt a=>?_) ?_ ?_;obtain⟨u,e,rfl⟩:=xd.1 a;show(toR u.Y).length<=_;rw[Kr,(f u e).l];omega;unfold mA;simp only[Jih,Q2o,vo];congr 1;refine wj λt _=>?_;show oTry (toTryA t)=toTryAr t;unfold oTry toTryA toTryAr;simp only[Jih,Q2o];refine⟨Qzd i oz,Jij j oz om,by show(tr.map toTryAr).length<=_;rw[ou];omega,λt a=>?_⟩;obtain⟨u,e,rfl⟩:=xd.1 a;have g:=f u e;exact⟨Qzd g.t oz,Qzd g.w oz,Qzd g.h oz,Qzd g.e oz,Jij g.y oz (by have:=g.l;omega)⟩
set_option maxRecDepth 100000
def backA(t:Q6):TryA:=⟨fv t.T,fv t.Ax,fv t.H,fv t.A5,rv t.Y,t.Ok⟩
theorem Jfe{l:List Qc}(h:∀ x∈l,canF x):l=toR (rv l):=by
 unfold toR rv;rw[vo]
 conv=>lhs;rw[<-List.map_id l]
 exact wj λx a=>h x a
theorem Jff{h:Qs}(hp:Qgm h):h=mA (h.Aq.map backA) (fv h.T) (rv h.Y):=by
 obtain⟨tr,T,Y⟩:=h;unfold mA;simp only[vo];have c1:=hp.c.1;have a:=hp.c.2;simp only[] at c1 a;have eT:T=toF (fv T):=a [T] oc T oc;have eY:Y=toR (rv Y):=Jfe (a Y oc);have eTr:tr=tr.map (toTryA ∘ backA):=by
  conv=>lhs;rw[<-List.map_id tr]
  refine wj λt d=>?_;have g:=c1 t d;have e:t.T=toF (fv t.T):=g [t.T,t.Ax,t.H,t.A5] oc t.T oc;have f:t.Ax=toF (fv t.Ax):=g [t.T,t.Ax,t.H,t.A5] oc t.Ax oc;have i:t.H=toF (fv t.H):=g [t.T,t.Ax,t.H,t.A5] oc t.H oc;have j:t.A5=toF (fv t.A5):=g [t.T,t.Ax,t.H,t.A5] oc t.A5 oc;have l:t.Y=toR (rv t.Y):=Jfe (g t.Y oc);show t=toTryA (backA t);unfold toTryA backA;simp only[];rw[<-e,<-f,<-i,<-j,<-l]
 rw[<-eT,<-eY,<-eTr]
def nxT(tr:List TryA)(T:Rat)(i:Nat):Rat:=match tr[i]? with | some u=>u.T | none=>T
def nxY(tr:List TryA)(Y:List Rat)(i:Nat):List Rat:=match tr[i]? with | some u=>u.Y | none=>Y
def wantA(r:Kg)(F:Rat)(tr:List TryA)(i:Nat):Rat:=match i with | 0=>F | j+1=>match tr[j]? with | some u=>u.H*factorQ r u.A5 | none=>F
theorem Jfg{k:J1}{tr:List TryA}{T:Rat}{Y:List Rat}{i:Nat}:Qck ⟨k,mA tr T Y⟩ (i:Int)=some (toF (nxT tr T i),toR (nxY tr Y i)):=by unfold Qck nxT nxY mA;simp only[ou];by_cases h:i<tr.length;have hp:tr[i]?=some tr[i]:=oq h;generalize tr[i]=t at hp;rw[oi (show(i:Int)<(tr.length:Int) by omega),bifT,Je (show(tr.map toTryA)[i]?=some (toTryA t) by rw[yr,hp];rfl),sbind,sbind,hp];rfl;have hp:tr[i]?=none:=xa om;rw[oj (show ¬(i:Int)<(tr.length:Int) by omega),bifF,hp]
set_option maxRecDepth 100000
theorem getA{tr:List TryA}{i:Nat}{t:TryA}(h:tr[i]?=some t):(tr.map toTryA)[i]?=some (toTryA t):=by rw[yr,h];rfl
theorem Jds{r:Kg}{F:Rat}{tr:List TryA}{d i:Nat}(hr:RulR r)(f:qw (fv r.Be)<=2)(a:qw (fv r.A6)<=2)(l:qw F<=2)(g:∀ t∈tr,TA 4000 d t):qw (wantA r F tr i)<=4003:=by
 unfold wantA;cases i with
 | zero=>show qw F<=4003;omega
 | succ j=>
   show qw (match tr[j]? with | some u=>u.H*factorQ r u.A5 | none=>F)<=4003;cases e:tr[j]? with
   | none=>show qw F<=4003;omega
   | some u=>
     have:=Wa (g u (Jr e)).h (Q0l hr f a u.A5);show qw (u.H*factorQ r u.A5)<=4003;omega
theorem Jil{n d i:Nat}{k:J1}{tr:List TryA}{T:Rat}{Y:List Rat}{t:TryA}(hn:big<=n)(a:TskW k)(hr:RulR k.Ar)(q:∀ t∈tr,TA 4000 d t)(G:tr.length<=1000000)(hi:tr[i]?=some t):
 Qdl n ⟨k,mA tr T Y⟩ (i:Int)=some (dP (t.Ax=wantA k.Ar (fv k.A1) tr i/\¬ underQ k.Ar (wantA k.Ar (fv k.A1) tr i))):=by
 obtain⟨H,I,v3,v4,v5⟩:=a.r.all;have A:=K1 hi;have qF:qw (fv k.A1)<=2:=qw_fv a.f oz;have E:=Jds (i:=i) hr (qw_fv v3 oz) (qw_fv v4 oz) qF q;have h0:=q t (Jr hi)
 have fin:∀(w:Qc),Fk 4003 w->fv w=wantA k.Ar (fv k.A1) tr i->(w=toF (fv w)\/i=0)->Qe8 n k.Ar w=some (dP (underQ k.Ar (fv w))) ->
  ((getI (mA tr T Y).Aq (i:Int)).bind λv=>(Xl n v.Ax w).bind λr=>bif r then (Qe8 n k.Ar w).bind λs=>some (!s) else some false)=some (dP (t.Ax=wantA k.Ar (fv k.A1) tr i/\¬ underQ k.Ar (wantA k.Ar (fv k.A1) tr i))):=λw hk e _ C=>by
  rw[show(mA tr T Y).Aq=tr.map toTryA from rfl,Je (getA hi),sbind,show(toTryA t).Ax=toF t.Ax from rfl,Qb7 (k:=4003) hn oz oz (Js (by have:=h0.w;omega)) hk,sbind,Jf,e,C,sbind,e];by_cases c1:t.Ax=wantA k.Ar (fv k.A1) tr i;rw[oi c1,bifT];by_cases f:underQ k.Ar (wantA k.Ar (fv k.A1) tr i);rw[dP_t f,dP_f λg=>g.2 f];rfl;rw[dP_f f,dP_t ⟨c1,f⟩];rfl;rw[oj c1,bifF,dP_f λg=>c1 g.1]
 unfold Qdl;simp only[jn_eq];cases i with
 | zero=>
   rw[show decide ((0:Int)<((0:Nat):Int))=false from rfl,bifF];refine fin k.A1 (Vm a.f oz) rfl (.inr rfl) ?_;unfold Qe8;rw[Zj (k:=2) hn oz oz a.f v5,sbind,decP];rfl
 | succ j=>
   have p:tr[j]?=some tr[j]:=oq om;have l:=q tr[j] (xb om);have y:wantA k.Ar (fv k.A1) tr (j+1)=tr[j].H*factorQ k.Ar tr[j].A5:=by show(match tr[j]? with | some u=>u.H*factorQ k.Ar u.A5 | none=>fv k.A1)=_;rw[p]
   generalize tr[j]=u at p l y;have m:=Q0l hr (qw_fv v3 (show 1<=2 by decide)) (qw_fv v4 (show 1<=2 by decide)) u.A5;have B:=Wa l.h m;rw[oi (show(0:Int)<((j+1:Nat):Int) by omega),bifT,w64 om om,show(((j+1:Nat):Int) - 1)=(j:Int) by omega,show(mA tr T Y).Aq=tr.map toTryA from rfl,Je (getA p),sbind];unfold Qox;rw[show(toTryA u).A5=toF u.A5 from rfl,show(toTryA u).H=toF u.H from rfl,Q5m (k:=4000) hn oz oz (λx F=>Vm (a.r x F) oz) hr.fine l.e,sbind,Xf (k:=4000) hn oz oz (Js l.h) (Js om),sbind,sbind,Jf,Jf];exact fin (toF (u.H*factorQ k.Ar u.A5)) (Js om) (by rw[Jf,y]) (.inl (by rw[Jf])) (by rw[Q7h (k:=4003) hn oz oz (Vm v5 oz) om,Jf])
set_option maxRecDepth 100000
theorem Q3m{v:Qv}(h:v.What≠0):Wj v ⟨0,0⟩=false:=by obtain⟨a,b⟩:=v;unfold Wj;rw[show(a == 0)=false by simpa using h];rfl
theorem Qwy(v:Qv):Wj v v=true:=by simp[Wj]
set_option maxRecDepth 100000
theorem Jns{n k0:Nat}{k:J1}{h:Qs}(hn:big<=n)(d:1<=k0)(hk:k0<100000000)(g:h.Aq.length<=1000000)(i:∀ t∈h.Aq,FT k0 t)(e:Fk k0 h.T)(f:FR k0 h.Y)(a:h.Y.length<=1000000)(hp:¬ Qgm h):W6 n ⟨k,h⟩=some ⟨1,0⟩:=by unfold W6;simp only[jn_eq];rw[Qrv hn d hk g i e f a,sbind,dP_f hp];rfl
set_option maxRecDepth 100000
theorem w40:Qbn big=some true:=ox
set_option maxRecDepth 100000
open Classical in
noncomputable def tryV(k:J1)(tr:List TryA)(Y:List Rat)(i:Nat)(t:TryA):Int:=
 if t.Ax=wantA k.Ar (fv k.A1) tr i/\¬ underQ k.Ar (wantA k.Ar (fv k.A1) tr i) then
  if t.H=cutQ t.T (fv k.Bf) t.Ax then
   match stepQ k.Au t.T t.H t.Y with
   | .inl _=>6
   | .inr z=>if t.A5=normQ z.err then (if t.Ok=dP (accQ k.Ar t.A5) then (if t.Ok=true/\¬ nxY tr Y (i+1)=z.next then 9 else 0) else 8) else 7
  else 5
 else 4
theorem try_V{n d i:Nat}{k:J1}{tr:List TryA}{T:Rat}{Y:List Rat}{t:TryA}(hn:big<=n)(a:TskW k)(hr:RulR k.Ar)(q:∀ t∈tr,TA 4000 d t)(G:tr.length<=1000000)(C:QR 4000 Y)(hi:tr[i]?=some t):
 Qc8 n ⟨k,mA tr T Y⟩ (i:Int)=some (tryV k tr Y i t):=by
 obtain⟨L,O,v3,v4,v5⟩:=a.r.all;have H:=K1 hi;have h0:=q t (Jr hi);have B:qw (fv k.Bf)<=2:=qw_fv a.e oz;have r:=h0.t;have x:=h0.w;have J:=h0.h;unfold Qc8 tryV;simp only[jn_eq];rw[show(mA tr T Y).Aq=tr.map toTryA from rfl,Je (getA hi),sbind,Jil hn a hr q G hi,sbind,bifnP];by_cases c1:t.Ax=wantA k.Ar (fv k.A1) tr i/\¬ underQ k.Ar (wantA k.Ar (fv k.A1) tr i)
 case neg=>rw[ol c1,ol c1]
 obtain⟨cb,_⟩:=Jlo (E:=fv k.Bf) r B x;rw[oo c1,oo c1,show(toTryA t).T=toF t.T from rfl,show(toTryA t).Ax=toF t.Ax from rfl,show(toTryA t).H=toF t.H from rfl,show(toTryA t).A5=toF t.A5 from rfl,show(toTryA t).Y=toR t.Y from rfl,show(toTryA t).Ok=t.Ok from rfl,Ja6 (k:=4000) hn oz oz r (Vm a.e oz) x,sbind,Qb7 (k:=4003) hn oz oz (Js om) (Js om),sbind,Jf,Jf];by_cases e:t.H=cutQ t.T (fv k.Bf) t.Ax
 case neg=>rw[oj e,ol e];rfl
 rw[oi e,ot,bifF,oo e];obtain⟨s,v⟩:=Qrq (k:=4000) (p:=k.Au) (t:=toF t.T) (h:=toF t.H) (y:=toR t.Y) hn oz oz a.p (Js r) (Js J) (X8 h0.y);rw[Jf,Jf,Zo] at s v;rw[s,sbind,w1 om,Jfg,sbind];cases w:stepQ k.Au t.T t.H t.Y with
 | inl f=>
   have hk:=v f w;simp only[];rw[oj hk];rfl
 | inr z=>
   obtain⟨_,_,M,P,z3⟩:=Qnt w;have I:=Jaa (k:=129) (l:=z.err) oz z3;have A:=h0.e;simp only[];rw[oi trivial,ot,bifF,show(toM z).A5=toR z.err from rfl,show(toM z).Next=toR z.next from rfl,Ja3 (k:=129) hn oz oz (X8 z3),sbind,Zo,Qb7 (k:=4000) hn oz oz (Js A) (Js om),sbind,Jf,Jf];by_cases g:t.A5=normQ z.err
   case neg=>rw[oj g,ol g];rfl
   rw[oi g,ot,bifF,oo g,Q35 (k:=4000) hn oz oz (Vm L oz) A,sbind];by_cases j:t.Ok=dP (accQ k.Ar t.A5)
   case neg=>rw[show(t.Ok != dP (accQ k.Ar t.A5))=true by simpa using j,bifT,ol j]
   rw[show(t.Ok != dP (accQ k.Ar t.A5))=false by simpa using j,bifF,oo j];have K:QR 4000 (nxY tr Y (i+1)):=by
    unfold nxY;cases F:tr[i+1]? with
    | none=>exact C
    | some u=>exact(q u (Jr F)).y
   cases N:t.Ok with
   | false=>rw[bifF,bifF,ol (λh=>by cases h.1)]
   | true=>
     rw[bifT,Qtq (k:=4000) hn oz oz (X8 K) (X8 (Jx M oz)),sbind,Zo,Zo];by_cases m:nxY tr Y (i+1)=z.next
     . rw[oi m,ot,bifF,ol (λh=>h.2 m)]
     . rw[oj m,ov,bifT,oo ⟨rfl,m⟩]
noncomputable def firstV(k:J1)(tr:List TryA)(Y:List Rat):List TryA->Nat->Int×Nat
 | [],_=>(0,0)
 | t::l,i=>bif dP (tryV k tr Y i t=0) then firstV k tr Y l (i+1) else (tryV k tr Y i t,i)
noncomputable def allV(k:J1)(tr:List TryA)(T:Rat)(Y:List Rat):Int×Nat:=
 bif !dP (Qgm (mA tr T Y)) then (1,0) else bif !dP (Y.length=k.Y.length) then (1,0) else
 bif !dP (nxT tr T 0=fv k.A0/\nxY tr Y 0=rv k.Y) then (2,0) else
 bif !dP ((∀ t∈tr,t.T<fv k.Bf)/\(tr.length:Int)<=k.Ar.Ba) then (3,0) else firstV k tr Y tr 0
theorem Q4o{k:J1}{tr:List TryA}{Y:List Rat}:∀ {l:List TryA}{i:Nat},(firstV k tr Y l i).1=0->firstV k tr Y l i=(0,0)
 | [],i,_=>rfl
 | t::l,i,h=>by simp only[firstV] at h |-;by_cases c:tryV k tr Y i t=0;rw[dP_t c,bifT] at h |-;exact Q4o h;rw[dP_f c,bifF] at h;exact absurd h c
theorem Jim{k:J1}{tr:List TryA}{T:Rat}{Y:List Rat}(h:(allV k tr T Y).1=0):allV k tr T Y=(0,0)/\Qgm (mA tr T Y)/\Y.length=k.Y.length:=by
 unfold allV at h |-;by_cases c1:Qgm (mA tr T Y)
 case neg=>rw[dP_f c1] at h;cases h
 by_cases a:Y.length=k.Y.length
 case neg=>rw[dP_t c1,dP_f a] at h;cases h
 rw[dP_t c1,dP_t a] at h |-;refine⟨?_,c1,a⟩;simp only[ot,bifF] at h |-;by_cases d:nxT tr T 0=fv k.A0/\nxY tr Y 0=rv k.Y
 case neg=>rw[dP_f d] at h;cases h
 rw[dP_t d] at h |-;simp only[ot,bifF] at h |-;by_cases e:(∀ t∈tr,t.T<fv k.Bf)/\(tr.length:Int)<=k.Ar.Ba
 case neg=>rw[dP_f e] at h;cases h
 rw[dP_t e] at h |-;simp only[ot,bifF] at h |-;exact Q4o h
theorem all_V{n d:Nat}{k:J1}{tr:List TryA}{T:Rat}{Y:List Rat}(hn:big<=n)(A:TskW k)(hr:RulR k.Ar)(p:∀ t∈tr,TA 4000 d t)(hd:d<=1000)(N:tr.length<=1000)(J:qw T<=4000)(B:QR 4000 Y)(K:Y.length<=1000):
 W6 n ⟨k,mA tr T Y⟩=some ⟨(allV k tr T Y).1,((allV k tr T Y).2:Int)⟩:=by
 have v:qw (nxT tr T 0)<=4000/\QR 4000 (nxY tr Y 0):=by
  unfold nxT nxY;cases C:tr[0]? with
  | none=>exact⟨J,B⟩
  | some u=>exact⟨(p u (Jr C)).t,(p u (Jr C)).y⟩
 unfold W6 allV;simp only[jn_eq]
 rw[Qrv (k:=4000) (h:=mA tr T Y) hn oz oz (by show(tr.map toTryA).length<=_;rw[ou];omega) (λx q=>by
  obtain⟨t,m,rfl⟩:=xd.1 q
  exact FT_A (p t m) hd) (Js J) (X8 B) (by show(toR Y).length<=_;rw[Kr];omega),sbind]
 by_cases c1:Qgm (mA tr T Y)
 case neg=>rw[dP_f c1];rfl
 rw[dP_t c1,ot,bifF,bifF,show(mA tr T Y).Y=toR Y from rfl,Kr];by_cases F:Y.length=k.Y.length
 case neg=>rw[oj om,dP_f F];rfl
 rw[oi (show(Y.length:Int)=(k.Y.length:Int) by omega),dP_t F,ot,bifF,bifF];have eB:Qdk n ⟨k,mA tr T Y⟩=some (dP (nxT tr T 0=fv k.A0/\nxY tr Y 0=rv k.Y)):=by
  unfold Qdk;simp only[jn_eq];have I:=Jfg (k:=k) (tr:=tr) (T:=T) (Y:=Y) (i:=0);rw[show((0:Nat):Int)=0 from rfl] at I;rw[I,sbind];simp only[];rw[Qb7 (k:=4000) hn oz oz (Js v.1) (Vm A.s oz),sbind,Jf];by_cases g:nxT tr T 0=fv k.A0
  . rw[oi g,bifT,Qtq (k:=4000) hn oz oz (X8 v.2) (W3 A.y oz),sbind,Zo]
    exact Qei ⟨λa=>⟨g,a⟩,λa=>a.2⟩
  . rw[oj g,bifF,dP_f λa=>g a.1]
 rw[eB,sbind];by_cases G:nxT tr T 0=fv k.A0/\nxY tr Y 0=rv k.Y
 case neg=>rw[dP_f G];rfl
 have eM:Qeo n ⟨k,mA tr T Y⟩=some (dP ((∀ t∈tr,t.T<fv k.Bf)/\(tr.length:Int)<=k.Ar.Ba)):=by
  unfold Qeo;rw[show(mA tr T Y).Aq=tr.map toTryA from rfl,Qb8 (λ_ (x:Q6)=>fv x.T<fv k.Bf) (r:=false),Qil,ou]
  . have e:(∀ a∈tr.map toTryA,fv a.T<fv k.Bf)↔∀ t∈tr,t.T<fv k.Bf:=by
     constructor
     . intro g t m
       have:=g _ (ua m);rwa [show(toTryA t).T=toF t.T from rfl,Jf] at this
     . intro g x q
       obtain⟨t,m,rfl⟩:=xd.1 q;rw[show(toTryA t).T=toF t.T from rfl,Jf];exact g t m
    by_cases g:∀ a∈tr.map toTryA,fv a.T<fv k.Bf
    . rw[oo g];exact Qei ⟨λa=>⟨e.1 g,a⟩,λa=>a.2⟩
    . rw[ol g,dP_f λa=>g (e.2 a.1)]
  . intro i x q
    obtain⟨t,y,rfl⟩:=getTA q;have h0:=p t (Jr y);rw[show(toTryA t).T=toF t.T from rfl,Zj (k:=4000) hn oz oz (Js h0.t) (Vm A.e oz),sbind,Jf];exact⟨λg=>by rw[oj (by have:=sg_lt.2 g;omega)];rfl,λg=>by rw[oi (sg_ge.2 (Rat.not_lt.1 g))];rfl⟩
 rw[dP_t G,ot,bifF,bifF,eM,sbind];by_cases H:(∀ t∈tr,t.T<fv k.Bf)/\(tr.length:Int)<=k.Ar.Ba
 case neg=>rw[dP_f H];rfl
 rw[dP_t H,ot,bifF,bifF,show(mA tr T Y).Aq=tr.map toTryA from rfl]
 have E:∀(l:List TryA) (i:Nat),(∀(j:Nat) t,l[j]?=some t->tr[i+j]?=some t)->(rangeL (λ(s:Nat) (_:Q6) (_:Unit)=>
  (Qc8 n ⟨k,mA tr T Y⟩ (s:Int)).bind λw=>
  bif !decide (w=(0:Int)) then (
   some (Lp.out ((⟨w,(s:Int)⟩:Qv))))
  else (
   some (Lp.go ()))) (l.map toTryA) i ()).bind (lpK λ(_:Unit)=>some (⟨0,0⟩:Qv))=some ⟨(firstV k tr Y l i).1,((firstV k tr Y l i).2:Int)⟩:=by
  intro l
  induction l with
  | nil=>intro i _;rfl
  | cons t l M=>
    intro i f;have y:=f 0 t rfl;rw[xq] at y;simp only[yv,rangeL,firstV];rw[try_V hn A hr p om B y,sbind];by_cases c:tryV k tr Y i t=0
    . rw[oi c,dP_t c,bifT,ot,bifF,sbind]
      exact M (i+1) λj u L=>by have:=f (j+1) u (by simpa using L);rwa [show i+(j+1)=i+1+j by omega] at this
    . rw[oj c,dP_f c,bifF,ov,bifT];rfl
 exact E tr 0 λj t C=>by rwa [xj]
set_option maxRecDepth 100000
theorem jn_at{σ ρ:Type}{A:(σ->Option ρ)->Option ρ}{k:σ->Option ρ}{b:σ}(d:∀ a,A a=a b):jn A k=k b:=by rw[jn_eq,d]
def nK(k:Jb):Jb:=⟨k.Au,k.Ar,rF (fr k.A0),rF (fr k.Bf),rF (fr k.A1),rR (rvr k.Y)⟩
def mArQ(tr:List TryA)(T:Rat)(Y:List Rat):Qh:=⟨tr.map toTryAr,rF T,rR Y⟩
theorem tF_rR(l:List Rat):(rR l).map tF=toR l:=by unfold rR toR;rw[vo];exact wj λq _=>Qpc q
theorem Jnt(t:TryA):tTry (toTryAr t)=toTryA t:=by unfold tTry toTryAr toTryA;simp only[Qpc,tF_rR]
theorem Q7k(tr:List TryA)(T:Rat)(Y:List Rat):tHis (mArQ tr T Y)=mA tr T Y:=by unfold tHis mArQ mA;simp only[Qpc,tF_rR,vo];congr 1;exact wj λt _=>Jnt t
theorem Q3n{α β:Type}{f:α->β}(d:∀ a b,f a=f b->a=b):∀ {l m:List α},l.map f=m.map f->l=m
 | [],[],_=>rfl
 | [],_::_,h=>by simp at h
 | _::_,[],h=>by simp at h
 | a::l,b::m,h=>by rw[yv,yv] at h;obtain⟨e,g⟩:=List.cons.inj h;rw[d a b e,Q3n d g]
theorem Jj1{a b:Qt}(h:tTry a=tTry b):a=b:=by obtain⟨a1,a2,a3,a4,a5,a6⟩:=a;obtain⟨l,m,p,q,r,s⟩:=b;unfold tTry at h;simp only[Q6.mk.injEq] at h;obtain⟨d,e,f,g,i,j⟩:=h;rw[Qs5 d,Qs5 e,Qs5 f,Qs5 g,Q3n (λ_ _=>Qs5) i,j]
theorem Jdt{a b:Qh}(h:tHis a=tHis b):a=b:=by obtain⟨a1,a2,a3⟩:=a;obtain⟨g,i,j⟩:=b;unfold tHis at h;simp only[Qs.mk.injEq] at h;obtain⟨d,e,f⟩:=h;rw[Q3n (λ_ _=>Jj1) d,Qs5 e,Q3n (λ_ _=>Qs5) f]
structure LkOK(n:Nat)(k:Jb):Prop where
 hn:big<=n
 w:TskW (tK k)
 r:TskR (tK k)
 p:PrbWr 4000 k.Au
section
variable {n:Nat}{k:Jb}
theorem LkOK.can(h:LkOK n k):rF (fr k.Ar.Bd)=k.Ar.Bd/\rF (fr k.Ar.Az)=k.Ar.Az/\qw (fr k.Ar.Bd)<=2/\qw (fr k.Ar.Az)<=2:=by have e:=h.r.2.1.f;have f:=h.w.r.all;have g:(tK k).Ar.Bd=tF k.Ar.Bd:=rfl;have i:(tK k).Ar.Az=tF k.Ar.Az:=rfl;have a:=e (tK k).Ar.Bd oc;have d:=e (tK k).Ar.Az oc;rw[g] at a;rw[i] at d;refine⟨Qco a,Qco d,?_,?_⟩;rw[<-fr_tF];exact qw_fv f.1 oz;rw[<-fr_tF];exact qw_fv f.2.2.2.2 oz
theorem Jlr{d i:Nat}{tr:List TryA}{Y:List Rat}{t:TryA}(h:LkOK n k)(v:∀ t∈tr,TA 4000 d t)(hd:(d:Int)=k.Au.Tape.A3)(_:tr.length<=1000000)(L:QR 4000 Y)(M:Y.length<=1000)(hi:tr[i]?=some t):
 Qcl n (nK k) (toTryAr t) (rF (wantA (tK k).Ar (fv (tK k).A1) tr i)) (rR (nxY tr Y (i+1)))=some (tryV (tK k) tr Y i t):=by
 have hn:=h.hn;have h0:=v t (Jr hi);obtain⟨c1,I,Q,R⟩:=h.can;have B:=h0.t;have C:=h0.w;have E:=h0.h;have P:=h0.e;have hr:=h.r.2.1;have G:=h.w.r.all;have eE:fv (tK k).Bf=fr k.Bf:=fr_tF _;have qE:qw (fr k.Bf)<=2:=by rw[<-eE];exact qw_fv h.w.e oz
 have qW:qw (wantA (tK k).Ar (fv (tK k).A1) tr i)<=4003:=Jds hr (qw_fv G.2.2.1 oz) (qw_fv G.2.2.2.1 oz) (qw_fv h.w.f oz) v;unfold Qcl tryV;simp only[jn_eq];generalize wantA (tK k).Ar (fv (tK k).A1) tr i=W at qW |-;rw[show(toTryAr t).Ax=rF t.Ax from rfl,show(toTryAr t).T=rF t.T from rfl,show(toTryAr t).H=rF t.H from rfl,show(toTryAr t).A5=rF t.A5 from rfl,show(toTryAr t).Y=rR t.Y from rfl,show(toTryAr t).Ok=t.Ok from rfl,show(nK k).Ar=k.Ar from rfl,show(nK k).Au=k.Au from rfl,show(nK k).Bf=rF (fr k.Bf) from rfl,Qej (k:=4000) hn oz C,sbind];have K:J0 n (rF W) k.Ar.Az=some (W - fr k.Ar.Az).num.sign:=by
  have:=Ze (p:=W) (q:=fr k.Ar.Az) (k:=4003) hn oz qW om;rwa [I] at this
 have w:J0 n (rF t.A5) k.Ar.Bd=some (t.A5 - fr k.Ar.Bd).num.sign:=by have:=Ze (p:=t.A5) (q:=fr k.Ar.Bd) (k:=4003) hn oz om om;rwa [c1] at this
 have eU:underQ (tK k).Ar W↔(W - fr k.Ar.Az).num.sign<0:=by unfold underQ;rw[show fv (tK k).Ar.Az=fr k.Ar.Az from fr_tF _]
 have eA:accQ (tK k).Ar t.A5↔(t.A5 - fr k.Ar.Bd).num.sign<=0:=by unfold accQ;rw[show fv (tK k).Ar.Bd=fr k.Ar.Bd from fr_tF _]
 by_cases g1:t.Ax=W
 case neg=>rw[oj g1,ov,bifT,bifT,ol (λa=>g1 a.1)]
 rw[oi g1,ot,bifF,K,sbind];by_cases r:(W - fr k.Ar.Az).num.sign<0
 . rw[oi r,bifT,ol (λa=>a.2 (eU.2 r))]
 rw[oj r,bifF,oo ⟨g1,λa=>r (eU.1 a)⟩,<-g1,eE,Q84 (k:=4000) hn oz B om C,sbind,Qej (k:=4000) hn oz E,sbind];by_cases g3:t.H=cutQ t.T (fr k.Bf) t.Ax
 case neg=>rw[oj g3,ol g3];rfl
 have g:(t.Y.length:Int)=k.Au.Tape.A3:=by rw[h0.l];exact hd
 have j:prbR (tP k.Au):=h.r.1;rw[oi g3,ot,bifF,oo g3,Qpn (k:=4000) hn oz oz h.p j B E h0.y g,sbind,show(tK k).Au=tP k.Au from rfl];have y:=Q0d (T:=t.T) (H:=t.H) j g;rw[<-y];cases x:stepQ (tP k.Au) t.T t.H t.Y with
 | inl f=>
   have hk:f.Ay≠0:=Q62 x;simp only[];rw[oj hk];rfl
 | inr z=>
   obtain⟨_,_,U,V,z3⟩:=Qnt x;have O:=Jaa (k:=129) (l:=z.err) oz z3;have z4:=Jii x;simp only[];rw[oi trivial,ot,bifF,show(toMr z).A5=rR z.err from rfl,show(toMr z).Next=rR z.next from rfl,Q81 (k:=129) hn oz oz z3 om,sbind,Qej (k:=4000) hn oz P,sbind];by_cases g4:t.A5=normQ z.err
   case neg=>rw[oj g4,ol g4];rfl
   have J:decide ((t.A5 - fr k.Ar.Bd).num.sign<=0)=dP (accQ (tK k).Ar t.A5):=by rw[decP,dP_c eA.symm]
   rw[oi g4,ot,bifF,oo g4,w,sbind,J];by_cases s:t.Ok=dP (accQ (tK k).Ar t.A5)
   case neg=>rw[show(t.Ok != dP (accQ (tK k).Ar t.A5))=true by simpa using s,bifT,ol s]
   rw[show(t.Ok != dP (accQ (tK k).Ar t.A5))=false by simpa using s,bifF,oo s];have F:QR 4000 (nxY tr Y (i+1))/\(nxY tr Y (i+1)).length<=1000000:=by
    have N:d<=6:=by have:=h.r.1.1.1.1.2;have e:(tK k).Au.Tape.A3=k.Au.Tape.A3:=rfl;rw[e] at this;omega
    unfold nxY;cases A:tr[i+1]? with
    | none=>exact⟨L,by simp only[];omega⟩
    | some u=>exact⟨(v u (Jr A)).y,by have:=(v u (Jr A)).l;simp only[];omega⟩
   cases S:t.Ok with
   | false=>rw[bifF,bifF,ol (λh=>by cases h.1)]
   | true=>
     rw[bifT,Qf7 (k:=4000) hn F.2 oz F.1,sbind];by_cases m:nxY tr Y (i+1)=z.next
     . rw[oi m,ot,bifF,ol (λh=>h.2 m)]
     . rw[oj m,ov,bifT,oo ⟨rfl,m⟩]
def jlBody(n:Nat)(l:Jb)(d:Qh):Qa×Int->Option (Lp (Qa×Int) (Lp Unit Xe)):=λ(a:Qa×Int)=>
             bif decide (a.2<(d.Aq.length:Int)) then (
              jn (λ(e:((List Qa))->Option _)=>
               bif decide ((wrap64 (a.2+(1:Int)))<(d.Aq.length:Int)) then (
                (getI d.Aq (wrap64 (a.2+(1:Int)))).bind λi=>
                e i.Y)
               else (
                e d.Y)) (λ(g:(List Qa))=>
               (getI d.Aq a.2).bind λj=>
               (Qcl n l j a.1 g).bind λf=>
               bif !decide (f=(0:Int)) then (
                some (Lp.out (Lp.out ((⟨f,a.2⟩:Xe)))))
               else (
                (getI d.Aq a.2).bind λy101=>
                (getI d.Aq a.2).bind λy103=>
                (Qa8 n l.Ar y103.A5).bind λr105=>
                (Q3 n y101.H r105).bind λr107=>
                some (Lp.go (r107,wrap64 (a.2+(1:Int)))))))
             else (
              some (Lp.out (Lp.go ())))
theorem Jin{d:Jb}{a:Qh}:Xw n d a=jn (λ(t:(Bool)->Option _)=>
 (Z5 n a).bind λu=>
 bif !decide (u=(0:Int)) then (
  t true)
 else (
  t (!decide ((a.Y.length:Int)=(d.Y.length:Int))))) (λ(v:Bool)=>
 bif v then (
  some (⟨(1:Int),(0:Int)⟩:Xe))
 else (
  jn (λ(f:(Qa×(List Qa))->Option _)=>
   bif decide ((0:Int)<(a.Aq.length:Int)) then (
    (getI a.Aq (0:Int)).bind λq=>
    (getI a.Aq (0:Int)).bind λr=>
    f (q.T,r.Y))
   else (
    f (a.T,a.Y))) (λ(i:Qa×(List Qa))=>
   jn (λ(g:(Bool)->Option _)=>
    (Jt n i.1 d.A0).bind λj=>
    bif !j then (
     g true)
    else (
     (Kz n i.2 d.Y).bind λl=>
     g (!l))) (λ(p:Bool)=>
    bif p then (
     some (⟨(2:Int),(0:Int)⟩:Xe))
    else (
     bif decide (d.Ar.Ba<(a.Aq.length:Int)) then (
      some (⟨(3:Int),(0:Int)⟩:Xe))
     else (
      (loopM (λ(e:Int)=>
       bif decide (e<(a.Aq.length:Int)) then (
        (getI a.Aq e).bind λs=>
        (J0 n s.T d.Bf).bind λm=>
        bif decide ((0:Int)<=m) then (
         some (Lp.out (Lp.out ((⟨(3:Int),(0:Int)⟩:Xe)))))
        else (
         some (Lp.go (wrap64 (e+(1:Int))))))
       else (
        some (Lp.out (Lp.go ())))) n (0:Int)).bind (lpK λ(_:Unit)=>
      (loopM (jlBody n d a) n (d.A1,(0:Int))).bind (lpK λ(_:Unit)=>
      some (⟨0,0⟩:Xe))))))))):=ut (ut rfl)
theorem FTr_A{d:Nat}{t:TryA}(h:TA 4000 d t)(hd:d<=1000):FTr 4000 (toTryAr t):=by
 have w:=fun {q:Rat}(g:qw q<=4000)=>Fk_wd (k:=4000) (f:=rF q) (by rw[Qpc];exact Js g);refine⟨λf a=>?_,λf a=>?_,by show(rR t.Y).length<=_;rw[J7,h.l];omega⟩;have:f=rF t.T\/f=rF t.Ax\/f=rF t.H\/f=rF t.A5:=by have e:[(toTryAr t).T,(toTryAr t).Ax,(toTryAr t).H,(toTryAr t).A5]=[rF t.T,rF t.Ax,rF t.H,rF t.A5]:=rfl;rw[e] at a;simpa using a
 rcases this with rfl | rfl | rfl | rfl;exact w h.t;exact w h.w;exact w h.h;exact w h.e;obtain⟨q,g,rfl⟩:=xd.1 a;exact w (h.y q g)
theorem Q85{l:List Rat}(h:QR 4000 l):FRr 4000 (rR l):=λf a=>by obtain⟨q,d,rfl⟩:=xd.1 a;exact Fk_wd (by rw[Qpc];exact Js (h q d))
theorem getAr{tr:List TryA}{i:Nat}{t:TryA}(h:tr[i]?=some t):(tr.map toTryAr)[i]?=some (toTryAr t):=Qav toTryAr h
theorem Jls{d:Nat}{tr:List TryA}{T:Rat}{Y:List Rat}(h:LkOK n k)(w:∀ t∈tr,TA 4000 d t)(hd:d<=1000)(hdY:d=Y.length)(hl:tr.length<=1000)(V:qw T<=4000)(L:QR 4000 Y)(M:Y.length<=1000):
 Xw n (nK k) (mArQ tr T Y)=some ⟨(allV (tK k) tr T Y).1,((allV (tK k) tr T Y).2:Int)⟩:=by
 have hn:=h.hn;have eT:(mArQ tr T Y).Aq=tr.map toTryAr:=rfl;have hr:=h.r.2.1;have X:=h.w.r.all
 obtain⟨v,J,H⟩:=Qpt (k:=4000) (h:=mArQ tr T Y) hn oz oz (by rw[eT,ou];omega) (λx hx=>by
  obtain⟨t,s,rfl⟩:=xd.1 hx
  exact FTr_A (w t s) hd) (λf hf=>by rw[xx.1 hf];exact Fk_wd (by show Fk 4000 (tF (rF T));rw[Qpc];exact Js V)) (Q85 L) (by show(rR Y).length<=_;rw[J7];omega)
 rw[Q7k] at H;have q:(tK k).Y.length=k.Y.length:=ou _;have E:(nK k).Y.length=k.Y.length:=by show(rR (rvr k.Y)).length=_;rw[J7,Wr]
 have eYl:(mArQ tr T Y).Y.length=Y.length:=J7 Y;rw[Jin];unfold allV;by_cases c1:Qgm (mA tr T Y)
 case neg=>
  refine(jn_at (b:=true) (λA=>?_)).trans ?_
  . rw[J,sbind,oj (λg=>c1 (H.1 g)),ov,bifT]
  . rw[dP_f c1];rfl
 by_cases S:Y.length=k.Y.length
 case neg=>
  refine(jn_at (b:=true) (λA=>?_)).trans ?_
  . rw[J,sbind,oi (H.2 c1),ot,bifF,eYl,E,oj om,ov]
  . rw[dP_t c1,dP_f (by rw[q];exact S)];rfl
 refine(jn_at (b:=false) (λA=>?_)).trans ?_
 . rw[J,sbind,oi (H.2 c1),ot,bifF,eYl,E,oi om,ot]
 rw[dP_t c1,dP_t (by rw[q];exact S),ot,bifF,bifF,bifF];have N:(d:Int)=k.Au.Tape.A3:=by have:=h.r.2.2.1;rw[q] at this;have e:(tK k).Au.Tape.A3=k.Au.Tape.A3:=rfl;rw[e] at this;omega
 have y:qw (nxT tr T 0)<=4000/\QR 4000 (nxY tr Y 0)/\(nxY tr Y 0).length<=1000000:=by
  unfold nxT nxY;cases p:tr[0]? with
  | none=>exact⟨V,L,by simp only[];omega⟩
  | some u=>exact⟨(w u (Jr p)).t,(w u (Jr p)).y,by have:=(w u (Jr p)).l;simp only[];omega⟩
 refine(jn_at (b:=(rF (nxT tr T 0),rR (nxY tr Y 0))) (λA=>?_)).trans ?_
 . rw[eT,ou]
   unfold nxT nxY;cases p:tr[0]? with
   | none=>
     have:=List.getElem?_eq_none_iff.1 p;rw[oj om,bifF];rfl
   | some u=>
     have:=K1 p;have j:getI (tr.map toTryAr) 0=some (toTryAr u):=Je (i:=0) (getAr p);rw[oi om,bifT,j,sbind,sbind];rfl
 have eS:fv (tK k).A0=fr k.A0:=fr_tF _;have eYv:rv (tK k).Y=rvr k.Y:=Qaj _;refine(jn_at (b:=!dP (nxT tr T 0=fv (tK k).A0/\nxY tr Y 0=rv (tK k).Y)) (λA=>?_)).trans ?_
 . simp only[]
   rw[show(nK k).A0=rF (fr k.A0) from rfl,show(nK k).Y=rR (rvr k.Y) from rfl,Qej (k:=4000) hn oz y.1,sbind,eS,eYv];by_cases c3a:nxT tr T 0=fr k.A0
   case neg=>rw[oj c3a,dP_f λg=>c3a g.1,ov,bifT]
   rw[oi c3a,ot,bifF,Qf7 (k:=4000) hn y.2.2 oz y.2.1,sbind];by_cases c3b:nxY tr Y 0=rvr k.Y
   . rw[oi c3b,dP_t ⟨c3a,c3b⟩]
   . rw[oj c3b,dP_f λg=>c3b g.2]
 by_cases U:nxT tr T 0=fv (tK k).A0/\nxY tr Y 0=rv (tK k).Y
 case neg=>rw[dP_f U];rfl
 rw[dP_t U,ot,bifF,bifF,eT,ou,show(nK k).Ar.Ba=(tK k).Ar.Ba from rfl,show fv (tK k).Bf=fr k.Bf from fr_tF _];by_cases c4a:(tr.length:Int)<=(tK k).Ar.Ba
 case neg=>rw[oi om,bifT,dP_f λg=>c4a g.2];rfl
 rw[oj om,bifF];have qE:qw (fr k.Bf)<=2:=by rw[<-fr_tF];exact qw_fv h.w.e oz
 rw[Qkg (λi=>∀ t,tr[i]?=some t->t.T<fr k.Bf) tr.length (r:=(⟨3,0⟩:Xe))]
 rotate_left
 . intro i hi
   have j:tr[i]?=some tr[i]:=oq hi;have h0:=w tr[i] (xb hi);generalize tr[i]=t at j h0;rw[oi (show(i:Int)<(tr.length:Int) by omega),bifT,Je (getAr j),sbind,show(toTryAr t).T=rF t.T from rfl,show(nK k).Bf=rF (fr k.Bf) from rfl,Ze (k:=4000) hn oz h0.t om,sbind];refine⟨λg=>?_,λg=>?_⟩
   . rw[oj (by have:=sg_lt.2 (g t j);omega),bifF,w1 om]
   . have Z:¬ t.T<fr k.Bf:=λa=>g λu W=>by rw[j] at W;cases W;exact a
     rw[oi (sg_ge.2 (Rat.not_lt.1 Z)),bifT]
 . rw[oj om,bifF]
 . unfold big at hn;omega
 by_cases G:∀ i,i<tr.length->∀ t,tr[i]?=some t->t.T<fr k.Bf
 case neg=>
  rw[ol G,dP_f λg=>G λi _ t hi=>g.1 t (Jr hi)];rfl
 have I:∀ t∈tr,t.T<fr k.Bf:=λt s=>by obtain⟨i,hi,rfl⟩:=List.getElem_of_mem s;exact G i hi _ (oq hi)
 rw[oo G,dP_t ⟨I,c4a⟩,ot,bifF];have Q:∀(m i B:Nat),i+m=tr.length->m<B->(loopM (jlBody n (nK k) (mArQ tr T Y)) B (rF (wantA (tK k).Ar (fv (tK k).A1) tr i),(i:Int))).bind (lpK λ(_:Unit)=>some (⟨0,0⟩:Xe))=some ⟨(firstV (tK k) tr Y (tr.drop i) i).1,((firstV (tK k) tr Y (tr.drop i) i).2:Int)⟩:=by
  intro m
  induction m with
  | zero=>
    intro i B hi O;rw[Vs (t:=Lp.go ()) (by unfold jlBody;simp only[jn_eq];rw[eT,ou,oj om,bifF]) om,xy,Xi,xf om];rfl
  | succ m ih=>
    intro i B hi O;obtain⟨n'',rfl⟩:∃ n'',B=n''+1:=⟨B - 1,om⟩
    have j:tr[i]?=some (tr[i]' om):=oq om;have s:=xb (l:=tr) (n:=i) om;generalize tr[i]' om=t at j s;have h0:=w t s;have q3:=h0.h;have q4:=h0.e;have F:0<=t.A5:=by have:=(c1.s (toTryA t) (ua s)).2.2.2;rwa [show(toTryA t).A5=toF t.A5 from rfl,Jf] at this
    have P:∀ {β:Type}(K:List Qa->Option β),(bif decide (wrap64 ((i:Int)+1)<(tr.length:Int)) then (getI (tr.map toTryAr) (wrap64 ((i:Int)+1))).bind λR=>K R.Y else K (rR Y))=K (rR (nxY tr Y (i+1))):=λK=>by
     rw[w1 om];unfold nxY;cases p:tr[i+1]? with
     | none=>
       have:=List.getElem?_eq_none_iff.1 p;rw[oj om,bifF]
     | some u=>
       have:=K1 p;rw[oi om,bifT,Je (getAr p),sbind];rfl
    have C:=Jlr h w N om L M j;have hstep:jlBody n (nK k) (mArQ tr T Y) (rF (wantA (tK k).Ar (fv (tK k).A1) tr i),(i:Int))=(bif dP (tryV (tK k) tr Y i t=0) then some (.go (rF (wantA (tK k).Ar (fv (tK k).A1) tr (i+1)),((i+1:Nat):Int))) else some (.out (.out ⟨tryV (tK k) tr Y i t,(i:Int)⟩))):=by
     unfold jlBody;simp only[];rw[eT,ou,oi (show(i:Int)<(tr.length:Int) by omega),bifT,show(mArQ tr T Y).Y=rR Y from rfl];refine(jn_at (b:=rR (nxY tr Y (i+1))) (λA=>P A)).trans ?_;rw[Je (getAr j),sbind,C,sbind];by_cases c:tryV (tK k) tr Y i t=0
     . have hfb:=Q0l hr (qw_fv X.2.2.1 oz) (qw_fv X.2.2.2.1 oz) t.A5
       rw[oi c,dP_t c,bifT,ot,bifF,sbind,sbind,show(toTryAr t).A5=rF t.A5 from rfl,show(toTryAr t).H=rF t.H from rfl,show(nK k).Ar=k.Ar from rfl,Q36 (k:=4000) hn oz oz h.w.r hr q4 F,sbind,V8 (k:=4000) hn oz q3 (by have e:tR k.Ar=(tK k).Ar:=rfl;rw[e];omega),sbind,w1 om];have e:wantA (tK k).Ar (fv (tK k).A1) tr (i+1)=t.H*factorQ (tK k).Ar t.A5:=by
        show(match tr[i]? with | some u=>u.H*factorQ (tK k).Ar u.A5 | none=>fv (tK k).A1)=_;rw[j]
       rw[e];rfl
     . rw[oj c,dP_f c,bifF,ov,bifT]
    rw[Qnw j];simp only[firstV];by_cases c:tryV (tK k) tr Y i t=0
    . rw[dP_t c,bifT] at hstep |-
      rw[Qb5 hstep];exact ih (i+1) n'' om om
    . rw[dP_f c,bifF] at hstep |-
      rw[Vs hstep om,xy,Z0]
 have:=Q tr.length 0 n om (by unfold big at hn;omega);rw[gy] at this;exact this
theorem Jdu{x:Qh}(h:LkOK n k)(O:x.Aq.length<=1000)(B:∀ t∈x.Aq,FTr 4000 t)(s:FRr 4000 [x.T])(w:FRr 4000 x.Y)(K:x.Y.length<=1000):
 ∃ v:Int×Nat,W6 n ⟨tK k,tHis x⟩=some ⟨v.1,(v.2:Int)⟩/\Xw n (nK k) x=some ⟨v.1,(v.2:Int)⟩/\(v.1=0->v.2=0/\Qgm (tHis x)/\x.Y.length=k.Y.length):=by
 have hn:=h.hn;have m:∀ {f:Qa},Wd f.N/\Wd f.D/\f.N.length<=4000/\f.D.length<=4000->Fk 4000 (tF f):=fun {f} g=>⟨g.1,g.2.2.1,g.2.1,g.2.2.2⟩
 have d:∀ t∈(tHis x).Aq,FT 4000 t:=λy M=>by
  obtain⟨t,p,rfl⟩:=xd.1 M;obtain⟨G,H,f3⟩:=B t p;refine⟨λz a=>?_,λz a=>?_,by show(t.Y.map tF).length<=_;rw[ou];exact f3⟩
  . have e:[(tTry t).T,(tTry t).Ax,(tTry t).H,(tTry t).A5]=[t.T,t.Ax,t.H,t.A5].map tF:=rfl
    rw[e] at a;obtain⟨f,l,rfl⟩:=xd.1 a;exact m (G f l)
  . obtain⟨f,l,rfl⟩:=xd.1 a
    exact m (H f l)
 have i:Fk 4000 (tHis x).T:=m (s x.T oc)
 have j:FR 4000 (tHis x).Y:=λz a=>by obtain⟨f,l,rfl⟩:=xd.1 a;exact m (w f l)
 have eTl:(tHis x).Aq.length=x.Aq.length:=ou _;have eYl:(tHis x).Y.length=x.Y.length:=ou _;by_cases hp:Qgm (tHis x)
 case neg=>
  refine⟨(1,0),Jns (k0:=4000) hn oz oz om d i j om hp,?_,λg=>by cases g⟩;obtain⟨v,E,F⟩:=Qpt (k:=4000) (h:=x) hn oz oz om B s w om;rw[Jin];simp only[jn_eq];rw[E,sbind,oj (λg=>hp (F.1 g))];rfl
 have A:=Jff hp;have L:x=mArQ ((tHis x).Aq.map backA) (fv (tHis x).T) (rv (tHis x).Y):=Jdt (by rw[Q7k];exact A)
 have c1:∀ t∈(tHis x).Aq.map backA,TA 4000 (tHis x).Y.length t:=λt p=>by obtain⟨u,C,rfl⟩:=xd.1 p;obtain⟨g1,I,g3⟩:=d u C;exact⟨qw_fv (g1 u.T oc) oz,qw_fv (g1 u.Ax oc) oz,qw_fv (g1 u.H oc) oz,qw_fv (g1 u.A5 oc) oz,QR_rv I oz,by show(rv u.Y).length=_;rw[J5];exact hp.l.1 u C⟩
 have q:qw (fv (tHis x).T)<=4000:=qw_fv i oz;have r:QR 4000 (rv (tHis x).Y):=QR_rv j oz;have a1:=all_V (n:=n) (k:=tK k) (T:=fv (tHis x).T) hn h.w h.r.2.1 c1 om (by rw[ou];omega) q r (by rw[J5];omega);have a2:=Jls (T:=fv (tHis x).T) (Y:=rv (tHis x).Y) h c1 om (J5 _).symm (by rw[ou];omega) q r (by rw[J5];omega);rw[<-A] at a1;rw[<-L] at a2;refine⟨_,a1,a2,λg=>?_⟩;obtain⟨N,P,z3⟩:=Jim g;rw[J5] at z3;have J:(tK k).Y.length=k.Y.length:=ou _;exact⟨by rw[N],hp,om⟩
end
set_option maxRecDepth 100000
def rtPick(n:Nat)(a:Jb)(d:Qh)(s212:Int){β:Type}:(Qa×(List Qa)×Bool->Option β)->Option β:=λj264=>
 bif decide ((0:Int)<s212) then (
  (getI d.Aq (wrap64 (s212 - (1:Int)))).bind λy267=>
  jn (λ(j286:(Qa×(List Qa)×Bool)->Option _)=>
   jn (λ(j289:(Bool)->Option _)=>
    bif y267.Ok then (
     j289 (decide ((y267.Y.length:Int)=(a.Y.length:Int))))
    else (
     j289 false)) (λ(s291:Bool)=>
    bif s291 then (
     (Jl n y267.T).bind λr292=>
     (Jl n y267.H).bind λr294=>
     (K8 n y267.Y).bind λr296=>
     (Xr n a.Au r292 r294 r296).bind λr298=>
     (Jl n y267.T).bind λr300=>
     (Jl n y267.H).bind λr302=>
     (Qy n r300 r302).bind λr304=>
     j286 (r304,r298.1.Next,decide (r298.2.a0=(0:Int))))
    else (
     j286 (y267.T,y267.Y,true)))) (λ(s288:Qa×(List Qa)×Bool)=>
   bif s288.2.2 then (
    j264 (s288.1,s288.2.1,decide ((y267.Y.length:Int)=(a.Y.length:Int))))
   else (
    j264 (s288.1,s288.2.1,false))))
 else (
  j264 (a.A0,a.Y,true))
def rtBody(n:Nat)(a:Jb)(d:Qh):Int->Option (Lp Int (Lp Unit (Qh×Bool))):=λ(s212:Int)=>
    bif decide ((0:Int)<=s212) then (
     (loopM (λ(s220:(List Qt)×Int)=>
      bif decide (s220.2<s212) then (
       (getI d.Aq s220.2).bind λy221=>
       (appM 256 s220.1 ([y221]:List Qt)).bind λy223=>
       some (Lp.go (y223,wrap64 (s220.2+(1:Int)))))
      else (
       some (Lp.out s220.1))) n (([]:List Qt),(0:Int))).bind λ(t218:(List Qt))=>
     jn (rtPick n a d s212) (λ(s266:Qa×(List Qa)×Bool)=>
      jn (λ(j308:(Bool)->Option _)=>
       bif s266.2.2 then (
        (Xw n a (⟨t218,s266.1,s266.2.1⟩:Qh)).bind λr311=>
        j308 (decide (r311.a0=(0:Int))))
       else (
        j308 false)) (λ(s310:Bool)=>
       bif s310 then (
        some (Lp.out (Lp.out (((⟨t218,s266.1,s266.2.1⟩:Qh),true)))))
       else (
        some (Lp.go (wrap64 (s212 - (1:Int))))))))
    else (
     some (Lp.out (Lp.go ())))
theorem Jnu{n:Nat}{d:Jb}{a:Qh}:Qd7 n d a=(loopM (rtBody n d a) n (a.Aq.length:Int)).bind (lpK λ(_:Unit)=>some ((⟨[],(⟨false,[],[]⟩:Qa),[]⟩:Qh),false)):=ut (ut rfl)
def ptBody(n:Nat)(j:J1)(l:Qs):Int->Option (Lp Int (Lp Unit (Qs×Bool))):=λ(d:Int)=>
 bif decide ((0:Int)<=d) then (
  (Qfm n j l d).bind λa=>
  jn (λ(e:(Bool)->Option _)=>
   bif a.2 then (
    (W6 n (⟨j,a.1⟩:Qa7)).bind λf=>
    e (Wj f (⟨0,0⟩:Qv)))
   else (
    e false)) (λ(i:Bool)=>
   bif i then (
    (Qep n a.1).bind λg=>
    some (Lp.out (Lp.out ((g,true)))))
   else (
    some (Lp.go (wrap64 (d - (1:Int)))))))
 else (
  some (Lp.out (Lp.go ())))
theorem Jnv{n:Nat}{a:J1}{d:Qs}:Qie n a d=(Qfl n a).bind λe=>
 bif !e then (
  some ((⟨[],(⟨(⟨false,[]⟩:Qf),[]⟩:Qc),[]⟩:Qs),false))
 else (
  (loopM (ptBody n a d) n (d.Aq.length:Int)).bind (lpK λ(_:Unit)=>
  some ((⟨[],(⟨(⟨false,[]⟩:Qf),[]⟩:Qc),[]⟩:Qs),false))):=ut (ut rfl)
theorem Jlt{n d:Nat}{tr:List TryA}{T:Rat}{Y:List Rat}(hn:big<=n)(p:∀ t∈tr,TA 4000 d t)(hd:d<=1000)(q:tr.length<=1000)(g:qw T<=4000)(j:QR 4000 Y)(l:Y.length<=1000):Qep n (mA tr T Y)=some (mA tr T Y):=by have a:(mA tr T Y).Aq=tr.map toTryA:=rfl;unfold Qep;rw[Qi8 hn,sbind,show(mA tr T Y).T=toF T from rfl,Va hn (Fk_Fw (Js g) oz),sbind,show(mA tr T Y).Y=toR Y from rfl,Qbe (k:=4000) hn oz oz (Js (by rw[Qvd];decide)) (X8 j) (by rw[Kr];omega),sbind,Jf,Jf,Qy1,Zo,a];rw[Qjy (λi=>(tr.map toTryA).take i) (tr.map toTryA)];rw[xu];rfl;intro i x f;obtain⟨t,e,rfl⟩:=getTA f;have h0:=p t (Jr e);have hi:=K1 e;have m:=h0.l;rw[show(toTryA t).T=toF t.T from rfl,show(toTryA t).Ax=toF t.Ax from rfl,show(toTryA t).H=toF t.H from rfl,show(toTryA t).A5=toF t.A5 from rfl,show(toTryA t).Y=toR t.Y from rfl,show(toTryA t).Ok=t.Ok from rfl,Va hn (Fk_Fw (Js h0.t) oz),sbind,Va hn (Fk_Fw (Js h0.w) oz),sbind,Va hn (Fk_Fw (Js h0.h) oz),sbind,Va hn (Fk_Fw (Js h0.e) oz),sbind,Qbe (k:=4000) hn oz oz (Js (by rw[Qvd];decide)) (X8 h0.y) (by rw[Kr];omega),sbind,Jf,Jf,Jf,Jf,Jf,Qy1,Zo,Vt oh oh,sbind,Yy f];rfl;rfl
structure HisR(x:Qh):Prop where
 l:x.Aq.length<=1000
 t:∀ t∈x.Aq,FTr 1000 t/\t.Y.length<=1000
 e:FRr 4000 [x.T]
 y:FRr 4000 x.Y
 yl:x.Y.length<=1000
theorem HisR.ft{x:Qh}(h:HisR x):∀ t∈x.Aq,FTr 4000 t:=λt a=>⟨Qin (h.t t a).1.1 oz,Qin (h.t t a).1.2.1 oz,(h.t t a).1.2.2⟩
section
variable {n:Nat}{k:Jb}
theorem HisR.same{x:Qh}(hn:big<=n)(h:HisR x)(hp:Qgm (tHis x)):Qep n (tHis x)=some (tHis x)/\Yj n (tHis x) x=some true:=by
 have j:∀ {f:Qa},Wd f.N/\Wd f.D/\f.N.length<=4000/\f.D.length<=4000->Fk 4000 (tF f):=fun {f} g=>⟨g.1,g.2.2.1,g.2.1,g.2.2.2⟩
 have l:∀ t∈(tHis x).Aq,FT 4000 t:=λy E=>by obtain⟨t,q,rfl⟩:=xd.1 E;obtain⟨A,B,f3⟩:=h.ft t q;refine⟨λz a=>?_,λz a=>?_,by show(t.Y.map tF).length<=_;rw[ou];exact f3⟩;have e:[(tTry t).T,(tTry t).Ax,(tTry t).H,(tTry t).A5]=[t.T,t.Ax,t.H,t.A5].map tF:=rfl;rw[e] at a;obtain⟨f,i,rfl⟩:=xd.1 a;exact j (A f i);obtain⟨f,i,rfl⟩:=xd.1 a;exact j (B f i)
 have m:Fk 4000 (tHis x).T:=j (h.e x.T oc)
 have p:FR 4000 (tHis x).Y:=λz a=>by obtain⟨f,i,rfl⟩:=xd.1 a;exact j (h.y f i)
 have eTl:(tHis x).Aq.length=x.Aq.length:=ou _;have eYl:(tHis x).Y.length=x.Y.length:=ou _;have F:=h.l;have G:=h.yl;have v:=Jff hp;have C:x=mArQ ((tHis x).Aq.map backA) (fv (tHis x).T) (rv (tHis x).Y):=Jdt (by rw[Q7k];exact v)
 have c1:∀ t∈(tHis x).Aq.map backA,TA 4000 (tHis x).Y.length t:=λt q=>by obtain⟨u,w,rfl⟩:=xd.1 q;obtain⟨g1,d,g3⟩:=l u w;exact⟨qw_fv (g1 u.T oc) oz,qw_fv (g1 u.Ax oc) oz,qw_fv (g1 u.H oc) oz,qw_fv (g1 u.A5 oc) oz,QR_rv d oz,by show(rv u.Y).length=_;rw[J5];exact hp.l.1 u w⟩
 have r:qw (fv (tHis x).T)<=4000:=qw_fv m oz;have s:QR 4000 (rv (tHis x).Y):=QR_rv p oz;have g1:=Jlt (n:=n) (T:=fv (tHis x).T) (Y:=rv (tHis x).Y) hn c1 om (by rw[ou];omega) r s (by rw[J5];omega);have d:=is_A (n:=n) (T:=fv (tHis x).T) (Y:=rv (tHis x).Y) hn c1 om (by rw[ou];omega) r s (by rw[J5];omega);rw[<-v] at g1 d;refine⟨g1,?_⟩;have e:(⟨((tHis x).Aq.map backA).map toTryAr,rF (fv (tHis x).T),rR (rv (tHis x).Y)⟩:Qh)=x:=C.symm;rw[e] at d;exact d
theorem Jio{x:Qh}(h:LkOK n k)(hx:HisR x){m:Nat}(hm:m<=x.Aq.length):
 ∃(N:Qs) (B:Bool) (i:Qh) (R b:Bool),Qfm n (tK k) (tHis x) (m:Int)=some (N,B)/\i.Aq=x.Aq.take m/\(∀ {β:Type}(K:Qa×(List Qa)×Bool->Option β),rtPick n (nK k) x (m:Int) K=K (i.T,i.Y,R)) /\
  (∀ {β:Type}(K:Bool->Option β),(bif B then (W6 n ⟨tK k,N⟩).bind λL=>K (Wj L ⟨0,0⟩) else K false)=K b) /\
  (∀ {β:Type}(K:Bool->Option β),(bif R then (Xw n (nK k) i).bind λr311=>K (decide (r311.a0=0)) else K false)=K b) /\
  (b=true->N=tHis i/\Qgm (tHis i)/\HisR i):=by
 have hn:=h.hn;have X:(tK k).Y.length=k.Y.length:=ou _;have w:(nK k).Y.length=k.Y.length:=by show(rR (rvr k.Y)).length=_;rw[J7,Wr]
 have hdim:(k.Y.length:Int)=k.Au.Tape.A3:=by have:=h.r.2.2.1;rw[X] at this;exact this
 have hd6:k.Au.Tape.A3<=6:=h.r.1.1.1.1.2;have lx:=hx.l;have eTr:(tHis x).Aq=x.Aq.map tTry:=rfl;have eS:fv (tK k).A0=fr k.A0:=fr_tF _;have eY:rv (tK k).Y=rvr k.Y:=Qaj _;have qS:qw (fr k.A0)<=2:=by rw[<-fr_tF];exact qw_fv h.w.s oz
 have qY:QR 2 (rvr k.Y):=by rw[<-eY];exact QR_rv h.w.y oz
 have good:∀(i:Qh),HisR i->∃ b:Bool,(∀ {β:Type}(K:Bool->Option β),((W6 n ⟨tK k,tHis i⟩).bind λL=>K (Wj L ⟨0,0⟩))=K b)/\(∀ {β:Type}(K:Bool->Option β),((Xw n (nK k) i).bind λr311=>K (decide (r311.a0=0)))=K b)/\(b=true->Qgm (tHis i)/\i.Y.length=k.Y.length):=λi hr=>by
  obtain⟨v,g1,C,g3⟩:=Jdu (x:=i) h hr.l hr.ft hr.e hr.y hr.yl;by_cases c:v.1=0
  . obtain⟨c1,c2,c3⟩:=g3 c
    refine⟨true,λK=>?_,λK=>?_,λ_=>⟨c2,c3⟩⟩
    . rw[g1,sbind,c,c1];rfl
    . rw[C,sbind,c];rfl
  . refine⟨false,λK=>?_,λK=>?_,λg=>by cases g⟩
    . rw[g1,sbind,Q3m (show(⟨v.1,(v.2:Int)⟩:Qv).What≠0 from c)]
    . rw[C,sbind,oj c]
 have I:sub (tHis x).Aq 0 (m:Int)=some ((x.Aq.take m).map tTry):=by rw[eTr,Jcp (by rw[ou];omega),<-dt]
 have hfirst0:∀ {β:Type}(K:Qc->List Qc->Option β),((K3 n (tK k).A0).bind λr11=>(Kt n 1).bind λr13=>(Ye n r13 (tK k).Y).bind λr15=>K r11 r15)=K (toF (fr k.A0)) (toR (rvr k.Y)):=λK=>by rw[Va hn (Fk_Fw h.w.s oz),sbind,Qi8 hn,sbind,Qbe (k:=2) hn oz oz (Js (by rw[Qvd];decide)) h.w.y om,sbind,Jf,Qy1,eS,eY]
 cases m with
 | zero=>
   have hr:HisR ⟨[],rF (fr k.A0),rR (rvr k.Y)⟩:=⟨oc,λ_ h=>(by cases h),λf F=>by rw[xx.1 F];exact Fk_wd (by show Fk 4000 (tF (rF _));rw[Qpc];exact Js om),Q85 (Jx qY oz),by show(rR (rvr k.Y)).length<=_;rw[J7,Wr];omega⟩
   have eH:tHis ⟨[],rF (fr k.A0),rR (rvr k.Y)⟩=⟨[],toF (fr k.A0),toR (rvr k.Y)⟩:=Q7k [] _ _;obtain⟨b,g1,C,g3⟩:=good _ hr;rw[eH] at g1;refine⟨⟨[],toF (fr k.A0),toR (rvr k.Y)⟩,true,⟨[],rF (fr k.A0),rR (rvr k.Y)⟩,true,b,?_,oc,λK=>?_,λK=>?_,λK=>?_,λE=>⟨eH.symm,(g3 E).1,hr⟩⟩
   . unfold Qfm
     rw[I,sbind];refine(hfirst0 _).trans ?_;rw[oi (show((0:Nat):Int)=0 from rfl),bifT];rfl
   . unfold rtPick
     rw[oj om,bifF];rfl
   . rw[bifT];exact g1 K
   . rw[bifT];exact C K
 | succ j=>
   have Z:x.Aq[j]?=some (x.Aq[j]' om):=oq om;have G:=xb (l:=x.Aq) (n:=j) om;generalize x.Aq[j]' om=t at Z G;obtain⟨⟨V,U,t3⟩,t4⟩:=hx.t t G;have wT:=V t.T oc;have wH:=V t.H oc;have qT:qw (fr t.T)<=1000:=qw_fr wT oz;have qH:qw (fr t.H)<=1000:=qw_fr wH oz;have qYt:QR 1000 (rvr t.Y):=Qfy U oz;have kT:Fk 1000 (tF t.T):=⟨wT.1,wT.2.2.1,wT.2.1,wT.2.2.2⟩
   have kH:Fk 1000 (tF t.H):=⟨wH.1,wH.2.2.1,wH.2.1,wH.2.2.2⟩
   have kY:FR 1000 (t.Y.map tF):=λz hz=>by obtain⟨f,F,rfl⟩:=xd.1 hz;have:=U f F;exact⟨this.1,this.2.2.1,this.2.1,this.2.2.2⟩
   have hgp:getI (tHis x).Aq (wrap64 (((j+1:Nat):Int) - 1))=some (tTry t):=by rw[w64 om om,show((j+1:Nat):Int) - 1=(j:Int) by omega,eTr];exact Je (Qav tTry Z)
   have J:getI x.Aq (wrap64 (((j+1:Nat):Int) - 1))=some t:=by rw[w64 om om,show((j+1:Nat):Int) - 1=(j:Int) by omega];exact Je Z
   have htake:∀ u∈x.Aq.take (j+1),FTr 1000 u/\u.Y.length<=1000:=λu hu=>hx.t u (yx hu);have A:(x.Aq.take (j+1)).length<=1000:=by rw[xk];omega
   obtain⟨s,W⟩:=Qrq (k:=4000) (p:=(tK k).Au) (t:=tF t.T) (h:=tF t.H) (y:=t.Y.map tF) hn oz oz h.w.p (Vm kT oz) (Vm kH oz) (W3 kY oz);rw[fr_tF,fr_tF,Qaj] at s W;have Q:prbR (tP k.Au):=h.r.1
   have r:∀ {N:Qs}{B:Bool},(bif t.Ok then (Qgj n (tK k).Au (tF t.T) (tF t.H) (t.Y.map tF)).bind λS=>(Xd n (tF t.T) (tF t.H)).bind λr21=>some ((⟨(x.Aq.take (j+1)).map tTry,r21,S.1.Next⟩:Qs),decide (S.2.Ay=0)) else some ((⟨(x.Aq.take (j+1)).map tTry,tF t.T,t.Y.map tF⟩:Qs),true))=some (N,B)->Qfm n (tK k) (tHis x) ((j+1:Nat):Int)=some (N,B):=λe=>by unfold Qfm;rw[I,sbind];refine(hfirst0 _).trans ?_;rw[oj (show ¬((j+1:Nat):Int)=0 by omega),bifF,hgp,sbind];exact e
   have hadd:=Zn qT qH;by_cases P:t.Y.length=k.Y.length
   . have O:((rvr t.Y).length:Int)=k.Au.Tape.A3:=by rw[Wr];omega
     cases d:t.Ok with
     | true=>
       rw[d] at r;simp only[bifT] at r;have a:=Qpn (k:=4000) (p:=k.Au) (T:=fr t.T) (H:=fr t.H) (Y:=rvr t.Y) hn oz oz h.p Q om om (Jx qYt oz) O;have hsQ:=Q0d (T:=fr t.T) (H:=fr t.H) Q O;rw[<-hsQ] at a
       have hpick:∀ {β:Type}(K:Qa×(List Qa)×Bool->Option β) (q:Kc×Jj),Xr n k.Au (rF (fr t.T)) (rF (fr t.H)) (rR (rvr t.Y))=some q->rtPick n (nK k) x ((j+1:Nat):Int) K=K (rF (fr t.T+fr t.H),q.1.Next,decide (q.2.a0=0)):=λK q hq=>by
        unfold rtPick;rw[oi (show(0:Int)<((j+1:Nat):Int) by omega),bifT,J,sbind];refine(jn_at (b:=(rF (fr t.T+fr t.H),q.1.Next,decide (q.2.a0=0))) (λk'=>?_)).trans ?_
        . refine(jn_at (b:=true) (λk''=>?_)).trans ?_
          . rw[d,bifT,w,oi om]
          . rw[bifT,Xb hn wT.1 wT.2.1 om om,sbind,Xb hn wH.1 wH.2.1 om om,sbind,Qaq hn (show 1000<1099511627776 by decide) U om,sbind,show(nK k).Au=k.Au from rfl,hq,sbind,sbind,sbind,V7 (k:=1000) hn oz qT qH,sbind]
        . simp only[]
          rw[w,oi (show(t.Y.length:Int)=(k.Y.length:Int) by omega)];cases decide (q.2.a0=0)<;>rfl
       have hA:Xd n (tF t.T) (tF t.H)=some (toF (fr t.T+fr t.H)):=by rw[Xt (k:=1000) hn oz oz kT kH,fr_tF,fr_tF]
       rw[show(tK k).Au=tP k.Au from rfl] at s W r;cases M:stepQ (tP k.Au) (fr t.T) (fr t.H) (rvr t.Y) with
       | inl f=>
         have hk:=W f M;rw[M] at s a;simp only[] at s a;refine⟨⟨(x.Aq.take (j+1)).map tTry,toF (fr t.T+fr t.H),[]⟩,false,⟨x.Aq.take (j+1),rF (fr t.T+fr t.H),[]⟩,false,false,?_,rfl,λK=>?_,λK=>rfl,λK=>rfl,λg=>by cases g⟩
         . apply r
           rw[s,sbind,hA,sbind];simp only[];rw[oj hk];rfl
         . rw[hpick K _ a]
           simp only[];rw[oj hk];rfl
       | inr z=>
         obtain⟨_,_,z1,z2,z3⟩:=Qnt M;rw[M] at s a;simp only[] at s a;rw[Wr] at z2;have hr:HisR ⟨x.Aq.take (j+1),rF (fr t.T+fr t.H),rR z.next⟩:=⟨A,htake,λf F=>by rw[xx.1 F];exact Fk_wd (by show Fk 4000 (tF (rF _));rw[Qpc];exact Js om),Q85 (Jx z1 oz),by show(rR z.next).length<=_;rw[J7];omega⟩
         have eH:tHis ⟨x.Aq.take (j+1),rF (fr t.T+fr t.H),rR z.next⟩=⟨(x.Aq.take (j+1)).map tTry,toF (fr t.T+fr t.H),toR z.next⟩:=by unfold tHis;simp only[Qpc,tF_rR]
         obtain⟨b,g1,C,g3⟩:=good _ hr;rw[eH] at g1;refine⟨_,true,⟨x.Aq.take (j+1),rF (fr t.T+fr t.H),rR z.next⟩,true,b,?_,rfl,λK=>?_,λK=>?_,λK=>?_,λE=>⟨eH.symm,(g3 E).1,hr⟩⟩
         . apply r
           rw[s,sbind,hA,sbind];simp only[];rw[oi trivial];rfl
         . rw[hpick K _ a]
           simp only[];rw[oi trivial];rfl
         . rw[bifT];exact g1 K
         . rw[bifT];exact C K
     | false=>
       rw[d] at r;simp only[bifF] at r;have hr:HisR ⟨x.Aq.take (j+1),t.T,t.Y⟩:=⟨A,htake,λf F=>by rw[xx.1 F];exact Qin V oz t.T oc,Qin U oz,t4⟩
       obtain⟨b,g1,C,g3⟩:=good _ hr;refine⟨_,true,⟨x.Aq.take (j+1),t.T,t.Y⟩,true,b,r rfl,rfl,λK=>?_,λK=>?_,λK=>?_,λE=>⟨rfl,(g3 E).1,hr⟩⟩
       . unfold rtPick
         rw[oi (show(0:Int)<((j+1:Nat):Int) by omega),bifT,J,sbind];refine(jn_at (b:=(t.T,t.Y,true)) (λk'=>?_)).trans ?_
         . refine(jn_at (b:=false) (λk''=>?_)).trans ?_
           . rw[d,bifF]
           . rw[bifF]
         . simp only[]
           rw[bifT,w,oi om]
       . rw[bifT];exact g1 K
       . rw[bifT];exact C K
   . have hpick:∀ {β:Type}(K:Qa×(List Qa)×Bool->Option β),rtPick n (nK k) x ((j+1:Nat):Int) K=K (t.T,t.Y,false):=λK=>by
      unfold rtPick;rw[oi (show(0:Int)<((j+1:Nat):Int) by omega),bifT,J,sbind];refine(jn_at (b:=(t.T,t.Y,true)) (λk'=>?_)).trans ?_
      . refine(jn_at (b:=false) (λk''=>?_)).trans ?_
        . rw[w,oj om]
          cases t.Ok<;>rfl
        . rw[bifF]
      . simp only[]
        rw[bifT,w,oj om]
     cases d:t.Ok with
     | true=>
       rw[d] at r;simp only[bifT] at r;have M:stepQ (tK k).Au (fr t.T) (fr t.H) (rvr t.Y)=.inl ⟨2,0,0,0⟩:=by
        unfold stepQ
        rw[ol (λg=>P (by
         have:=g.2;rw[Wr] at this;have e:(tK k).Au.Tape.A3=k.Au.Tape.A3:=rfl
         omega))]
       rw[M] at s;simp only[] at s;refine⟨⟨(x.Aq.take (j+1)).map tTry,toF (fr t.T+fr t.H),[]⟩,false,⟨x.Aq.take (j+1),t.T,t.Y⟩,false,false,?_,rfl,λK=>hpick K,λK=>rfl,λK=>rfl,λg=>by cases g⟩;apply r;rw[s,sbind,Xt (k:=1000) hn oz oz kT kH,sbind,fr_tF,fr_tF];rfl
     | false=>
       rw[d] at r;simp only[bifF] at r;have hr:HisR ⟨x.Aq.take (j+1),t.T,t.Y⟩:=⟨A,htake,λf F=>by rw[xx.1 F];exact Qin V oz t.T oc,Qin U oz,t4⟩
       obtain⟨b,g1,C,g3⟩:=good _ hr;have E:b=false:=by
        cases E:b with
        | false=>rfl
        | true=>exact absurd (g3 E).2 P
       subst E;refine⟨_,true,⟨x.Aq.take (j+1),t.T,t.Y⟩,false,false,r rfl,rfl,λK=>hpick K,λK=>?_,λK=>rfl,λg=>by cases g⟩;rw[bifT];exact g1 K
def noHr':Qh:=⟨[],⟨false,[],[]⟩,[]⟩
theorem Jip{x:Qh}(h:LkOK n k)(r:HisR x):∀(m d:Nat),m<=x.Aq.length+1->m<d->∃(y:Qs) (a:Qh) (b:Bool),
 (loopM (ptBody n (tK k) (tHis x)) d ((m:Int) - 1)).bind (lpK λ(_:Unit)=>some ((⟨[],(⟨(⟨false,[]⟩:Qf),[]⟩:Qc),[]⟩:Qs),false))=some (y,b) /\
 (loopM (rtBody n (nK k) x) d ((m:Int) - 1)).bind (lpK λ(_:Unit)=>some ((⟨[],(⟨false,[],[]⟩:Qa),[]⟩:Qh),false))=some (a,b)/\Yj n y a=some true:=by
 have hn:=h.hn;have L:=r.l;intro m
 induction m with
 | zero=>
   intro d _ j;refine⟨noH,noHr',false,?_,?_,Jfd hn⟩;rw[Vs (t:=Lp.go ()) (by unfold ptBody;rw[oj om,bifF]) om,xy,Xi];rfl;rw[Vs (t:=Lp.go ()) (by unfold rtBody;rw[oj om,bifF]) om,xy,Xi];rfl
 | succ m G=>
   intro d J j;obtain⟨n'',rfl⟩:∃ n'',d=n''+1:=⟨d - 1,om⟩
   obtain⟨I,H,a,l,b,B,C,f3,f4,f5,E⟩:=Jio h r (m:=m) om;rw[show((m+1:Nat):Int) - 1=(m:Int) by omega];have hp:ptBody n (tK k) (tHis x) (m:Int)=(bif b then (Qep n I).bind λp=>some (Lp.out (Lp.out (p,true))) else some (Lp.go ((m:Int) - 1))):=by unfold ptBody;rw[oi (show(0:Int)<=(m:Int) by omega),bifT,B,sbind];refine(jn_at (b:=b) (λf=>f4 f)).trans ?_;rw[w64 om om]
   have hinner:∀ {β:Type}(K:List Qt->Option β),(loopM (λ(s220:(List Qt)×Int)=>
    bif decide (s220.2<(m:Int)) then (
     (getI x.Aq s220.2).bind λy221=>
     (appM 256 s220.1 ([y221]:List Qt)).bind λy223=>
     some (Lp.go (y223,wrap64 (s220.2+(1:Int)))))
    else (
     some (Lp.out s220.1))) n (([]:List Qt),(0:Int))).bind K=K (x.Aq.take m):=λK=>by
    rw[W1 (λi=>(x.Aq.take i,(i:Int))) m (x.Aq.take m)];intro i hi;have g:x.Aq[i]?=some (x.Aq[i]' om):=oq om;generalize x.Aq[i]' om=t at g;simp only[];rw[oi (show(i:Int)<(m:Int) by omega),bifT,Je g,sbind,Vt oh oh,sbind,w1 om,Yy g];simp only[];rw[oj om,bifF];unfold big at hn;omega;rfl
   have hr:rtBody n (nK k) x (m:Int)=(bif b then some (Lp.out (Lp.out (a,true))) else some (Lp.go ((m:Int) - 1))):=by
    unfold rtBody;rw[oi (show(0:Int)<=(m:Int) by omega),bifT,hinner];refine(jn_at (b:=(a.T,a.Y,l)) (λf=>f3 f)).trans ?_;have e:(⟨x.Aq.take m,a.T,a.Y⟩:Qh)=a:=by rw[<-C]
    simp only[e];refine(jn_at (b:=b) (λf=>f5 f)).trans ?_;rw[w64 om om]
   cases b with
   | true=>
     obtain⟨g1,F,g3⟩:=E rfl;obtain⟨c1,u⟩:=g3.same hn F;rw[bifT,g1,c1,sbind] at hp;rw[bifT] at hr;refine⟨tHis a,a,true,?_,?_,u⟩;rw[Vs hp om,xy,Z0];rw[Vs hr om,xy,Z0]
   | false=>
     rw[bifF] at hp hr;obtain⟨y,q,s,v,w,A⟩:=G n'' om om;exact⟨y,q,s,by rw[Qb5 hp];exact v,by rw[Qb5 hr];exact w,A⟩
end
theorem Q86(k:Jb)(h:Qh)(R:Qj6 k)(hH:Qey h):∃ n,Qa9 n k h=some true:=by
 refine⟨big,?_⟩;have hn:big<=big:=xn _;unfold Qa9;simp only[jn_eq];obtain⟨v,W,X⟩:=Q7j (k:=k) hn;rw[W,sbind];cases v
 case true=>rw[bifT,bifT,w40];rfl
 have B:=X rfl;obtain⟨v,Q,Y⟩:=Qvh (a:=6) (k:=8) (h:=h) hn oz oz;rw[show((6:Nat):Int)=6 from rfl,show((8:Nat):Int)=8 from rfl] at Q;rw[bifF,Q,sbind];cases v
 case true=>rw[bifT,w40];rfl
 obtain⟨f1,J,f3,f4⟩:=Y rfl;have Z:=f3.1;obtain⟨U,I,V,_⟩:=hH;have i:∀ t∈h.Aq,FT 8 (tTry t):=λt d=>Jda (U.2 t d) (f4 t d);have E:∀ t∈h.Aq,t.Y.length<=1000000:=λt d=>by have:=(i t d).2.2;rwa [show(tTry t).Y.length=t.Y.length from ou _] at this
 have l:=Jlp R B;obtain⟨bp,br,bs,be,bf,by_,_⟩:=R;have hy1:=B.y.1;have P:=Fk_wd l.s;have O:=Fk_wd l.e;have wf:=Fk_wd l.f;have N:FRr 2 k.Y:=Qve by_ B.y;have F:=(Q5d bp oz oz oz B.p).mono (k:=4000) oz;have eN:Qd6 big k=some (nK k):=by unfold Qd6;rw[Xb hn P.1 P.2.1 om om,sbind,Xb hn O.1 O.2.1 om om,sbind,Xb hn wf.1 wf.2.1 om om,sbind,Qaq hn (show 2<1099511627776 by decide) N om,sbind];rfl
 have qS:qw (fr k.A0)<=2:=qw_fr P oz;have qE:qw (fr k.Bf)<=2:=qw_fr O oz;have qF:qw (fr k.A1)<=2:=qw_fr wf oz;have hrv:rv (tK k).Y=rvr k.Y:=Qaj k.Y;have eR:Qdn big (nK k)=some (dP (TskR (tK k))):=by
  unfold Qdn TskR nK;simp only[jn_eq];rw[Qps (k:=4000) hn oz oz F,sbind,bifP];by_cases c1:prbR (tP k.Au)
  case neg=>rw[ol c1,dP_f λh=>c1 h.1]
  obtain⟨w,g1,g2⟩:=Q5o (r:=k.Ar) hn l.r;rw[oo c1,g1,sbind,g2,bifP];by_cases m:RulR (tR k.Ar)
  case neg=>rw[ol m,dP_f λh=>m h.2.1]
  rw[oo m,J7,Wr];have C:(tK k).Y.length=k.Y.length:=ou _;by_cases e:(k.Y.length:Int)=k.Au.Tape.A3
  case neg=>rw[oj e,bifF,dP_f λh=>e (by have:=h.2.2.1;rw[C] at this;exact this)]
  rw[oi e,bifT,Ze (k:=2) hn oz qE qS,sbind];by_cases G:0<=(fr k.Bf - fr k.A0).num.sign
  case neg=>rw[oj G,bifF,dP_f λh=>G (sg_ge.2 h.2.2.2.1)]
  rw[oi G,bifT,Qce,sbind];by_cases H:0<(fr k.A1).num.sign
  . rw[oi H,dP_t ⟨c1,m,by rw[C];exact e,sg_ge.1 G,Qnx.1 H⟩]
  . rw[oj H,dP_f λh=>H (Qnx.2 h.2.2.2.2)]
 have s:=Q5n (n:=big) hn l;have A:HisR h:=by
  have K:∀ {f:Qa},Fk 8 (tF f)->Wd f.N/\Wd f.D/\f.N.length<=8/\f.D.length<=8:=λg=>Fk_wd g;refine⟨om,λt d=>⟨⟨λf j=>?_,λf j=>?_,E t d⟩,?_⟩,λf j=>?_,λf j=>?_,om⟩
  . have:=K ((i t d).1 (tF f) (by show tF f∈[t.T,t.Ax,t.H,t.A5].map tF;exact ua j))
    exact⟨this.1,this.2.1,om,om⟩
  . have:=K ((i t d).2.1 (tF f) (ua j))
    exact⟨this.1,this.2.1,om,om⟩
  . have:=(f4 t d).2.1;omega
  . rw[xx.1 j]
    have:=K (Fk_tF I J);exact⟨this.1,this.2.1,om,om⟩
  . have:=Qve V f3 f j
    exact⟨this.1,this.2.1,om,om⟩
 rw[bifF,Ja7 hn B,sbind,Q01 hn om om E,sbind];unfold Qk8;by_cases M:TskR (tK k)
 case neg=>
  rw[dP_f M] at s eR;have hO:Qhm big (tK k) (tHis h)=some ⟨-1,0⟩:=by unfold Qhm;rw[s,sbind,ov,bifT]
  have hT:Qie big (tK k) (tHis h)=some (noH,false):=by unfold Qie;rw[s,sbind,ov,bifT];rfl
  rw[hO,sbind,hT,sbind,eN,sbind,eR,sbind,ov,bifT,Qwy,bifT,sbind,sbind,Q3m (show(-1:Int)≠0 by decide),ov,bifT];simp only[];rw[Jfd hn,sbind,bifT,bifT,w40];rfl
 rw[dP_t M] at s eR;have lk:LkOK big k:=⟨hn,l,M,F⟩
 obtain⟨w,a1,a2,a3⟩:=Jdu (x:=h) lk A.l A.ft A.e A.y A.yl;obtain⟨y,xr,b,S,T,t3⟩:=Jip lk A (h.Aq.length+1) big (xn _) (by unfold big;omega);rw[show((h.Aq.length+1:Nat):Int) - 1=(h.Aq.length:Int) by omega] at S T;have eTl:(tHis h).Aq.length=h.Aq.length:=ou _;have hTold:Qie big (tK k) (tHis h)=some (y,b):=by rw[Jnv,s,sbind,ot,bifF,eTl];exact S
 have hToldr:Qd7 big (nK k) h=some (xr,b):=by rw[Jnu];exact T
 have L:∃ u:Int×Nat,Qhm big (tK k) (tHis h)=some ⟨u.1,(u.2:Int)⟩/\Qfb big (nK k) h=some ⟨u.1,(u.2:Int)⟩/\(u.1=0->u.2=0):=by
  unfold Qhm Qfb;simp only[jn_eq];rw[s,sbind,ot,bifF,a1,sbind,a2,sbind];by_cases c:w.1=0
  . obtain⟨c1,m,_⟩:=a3 c
    have fE:Xl big (tHis h).T (tK k).Bf=some (decide (fr h.T=fr k.Bf)):=by have kT:Fk 8 (tHis h).T:=Fk_tF I J;rw[Qb7 (k:=8) hn oz oz kT (Vm l.e oz),show fv (tHis h).T=fr h.T from fr_tF _,show fv (tK k).Bf=fr k.Bf from fr_tF _]
    have canT:rF (fr h.T)=h.T:=Qc0.2 ((Q0e.1 m).1.2 h.T oc);have rE:Jt big h.T (nK k).Bf=some (decide (fr h.T=fr k.Bf)):=by have:=Qej (p:=fr h.T) (q:=fr k.Bf) (k:=8) hn oz (by rw[<-fr_tF];exact qw_fv (Fk_tF I J) oz);rw[canT] at this;exact this
    rw[c,c1,show Wj (⟨0,((0:Nat):Int)⟩:Qv) ⟨0,0⟩=true from Qwy _,bifT,fE,sbind];simp only[];rw[oi trivial,bifT,rE,sbind];by_cases e:fr h.T=fr k.Bf
    . rw[oi e,ot,bifF,bifF];exact⟨(0,0),rfl,rfl,λ_=>rfl⟩
    . rw[oj e,ov,bifT,bifT];exact⟨(10,0),rfl,rfl,λg=>by cases g⟩
  . rw[Q3m (show(⟨w.1,(w.2:Int)⟩:Qv).What≠0 from c),bifF,bifF]
    simp only[];rw[oj c,bifF,bifF];exact⟨w,rfl,rfl,λg=>absurd g c⟩
 obtain⟨u,u1,u2,u3⟩:=L;rw[u1,sbind,hTold,sbind,eN,sbind,eR,sbind,ot,bifF,u2,sbind,hToldr,sbind];simp only[];have eF:Wj (⟨u.1,(u.2:Int)⟩:Qv) ⟨0,0⟩=decide (u.1=0):=by
  by_cases c:u.1=0
  . rw[oi c,c,u3 c];exact Qwy _
  . rw[oj c];exact Q3m c
 rw[Qwy,bifT,sbind,sbind,eF,show(decide (u.1=0) == decide (u.1=0))=true by simp,bifT,t3,sbind,bifT,show(b == b)=true by simp,bifT,w40];rfl
end Go.Proofs.YtbdgngdpkdagoabGreatDoor
