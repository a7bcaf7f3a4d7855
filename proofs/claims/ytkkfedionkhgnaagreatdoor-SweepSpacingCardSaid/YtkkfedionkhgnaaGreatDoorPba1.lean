import Derived.Test.YtkkfedionkhgnaaGreatDoorModba
import Derived.Test.YtkkfedionkhgnaaGreatDoorPb1
namespace Go.Proofs.YtkkfedionkhgnaaGreatDoor
open Go Go.RowKit
def fr(f:Qe):Rat:=mkRat (if f.Neg then -(val f.N:Int) else (val f.N:Int)) (val f.D)
def rvr(l:List Qe):List Rat:=l.map fr
theorem Q6f(l:List Qe):(rvr l).length=l.length:=by unfold rvr;simp
theorem fr_tF(f:Qe):fv (tF f)=fr f:=rfl
theorem Jab(l:List Qe):rv (l.map tF)=rvr l:=by unfold rv rvr;rw[List.map_map];rfl
theorem qw_fr{f:Qe}{k:Nat}(h:Wd f.N∧Wd f.D∧f.N.length≤k∧f.D.length≤k)(h1:1≤k):qw (fr f)≤k:=by rw[←fr_tF];exact qw_fv ⟨h.1,h.2.2.1,h.2.1,h.2.2.2⟩ h1
theorem Jac{k:Nat}{l:List Qe}(h:FRr k l)(h1:1≤k):QR k (rvr l):=λq hq=>by obtain⟨f,hf,rfl⟩:=List.mem_map.1 hq;exact qw_fr (h f hf) h1
theorem Jad{N c:Nat}(hc:1≤c)(hc2:c≤200)(hN:N≤200){K:Kd×Int->Option Kd}(hK:∀ s,∃ r,K s=some r∧r.Kept=s.1.Kept∧r.A2=s.1.A2):∀(q i:Nat) (kp:Int) (ag:Nat) (mo lo:Int),q≤cnt N c->ag+min (q*c) N≤1000->∃ r,
 (rangeL (λ(_:Nat) (x20:Qu) (s18:Kd×Int)=>
 (some (wrap64 (s18.1.A2+(wrap64 ((wrap64 (x20.To - x20.From)) - (1:Int)))))).bind λz22=>
 some (Lp.go ((⟨s18.1.Kept,z22,s18.1.Most⟩:Kd),max s18.2 (wrap64 ((wrap64 (x20.To - x20.From)) - (1:Int)))))) (((mrk N c).take q).reverse.map (sgm N c)) i ((⟨kp,(ag:Int),mo⟩:Kd),lo)).bind (lpK K)=some r∧r.Kept=kp∧r.A2=((ag+(min (q*c) N - q):Nat):Int):=by
 intro q
 induction q with
 | zero=>
   intro i kp ag mo lo _ _;obtain⟨r,h1,h2,h3⟩:=hK (⟨kp,(ag:Int),mo⟩,lo);refine⟨r,h1,h2,?_⟩;rw[h3];simp
 | succ q ih=>
   intro i kp ag mo lo hq hag;have hm:=(Qec hc).1 (show q<cnt N c by omega);have hle:q*1≤q*c:=Nat.mul_le_mul_left _ hc;rw[Nat.succ_mul] at hag;rw[Qj4 (Qrd (show q<cnt N c by omega)),List.reverse_append];simp only[List.reverse_cons,List.reverse_nil,List.nil_append,List.singleton_append,List.map_cons,rangeL];have e1:wrap64 ((sgm N c (q*c)).To - (sgm N c (q*c)).From)=((min (q*c+c) N - q*c:Nat):Int):=by
    show wrap64 (((min (q*c+c) N:Nat):Int) - ((q*c:Nat):Int))=_;rw[w64 (by omega) (by omega)];omega
   rw[e1,w64 (x:=((min (q*c+c) N - q*c:Nat):Int) - 1) (by omega) (by omega),sbind,sbind];have e2:wrap64 ((ag:Int)+(((min (q*c+c) N - q*c:Nat):Int) - 1))=((ag+(min (q*c+c) N - q*c - 1):Nat):Int):=by rw[w64 (by omega) (by omega)];omega
   simp only[];rw[e2];obtain⟨r,r1,r2,r3⟩:=ih (i+1) kp (ag+(min (q*c+c) N - q*c - 1)) mo (max lo (((min (q*c+c) N - q*c:Nat):Int) - 1)) (by omega) (by rw[Nat.min_eq_left (show q*c≤N by omega)];omega);refine⟨r,r1,r2,?_⟩;rw[r3,Nat.succ_mul,Nat.min_eq_left (show q*c≤N by omega)];congr 1;omega
theorem Qy4{n k:Nat}{h:Qs}{x:Int}(hn:big≤n)(h1:1≤k)(hk:k<1099511627776)(hl:h.Ao.length≤200)(ht:∀ t∈h.Ao,FT k t):
 ∃ r,Qbz n h x=some r∧r.Kept=((cnt (tri h).length (cutI x):Nat):Int)∧r.A2=(((tri h).length - cnt (tri h).length (cutI x):Nat):Int):=by
 obtain⟨c1,c2⟩:=cut_b x;have hN:(tri h).length≤200:=by have:=Qlc h.Ao;rw[Qre];omega
 have e1:((toR (szs h)).length:Int)=(((tri h).length:Nat):Int):=by rw[Q2,Q0i];simp
 unfold Qbz;rw[Qpq hn h1 hk (by omega) ht,sbind,e1,Qnr hn hN,sbind,Qna hn hN,sbind];obtain⟨r,r1,r2,r3⟩:=Jad (N:=(tri h).length) c1 c2 hN (K:=λs23=>some (⟨s23.1.Kept,s23.1.A2,wrap64 (s23.1.Kept+s23.2)⟩:Kd)) (λs=>⟨_,rfl,rfl,rfl⟩) (cnt (tri h).length (cutI x)) 0 ((iL (mrk (tri h).length (cutI x))).length:Int) 0 0 0 (Nat.le_refl _) (by omega);rw[show cnt (tri h).length (cutI x)=(mrk (tri h).length (cutI x)).length from(Qma _ _).symm,List.take_length] at r1;refine⟨r,r1,?_,?_⟩;rw[r2,Q4t,Qu5];rw[r3];have hge:¬ cnt (tri h).length (cutI x)*cutI x<(tri h).length:=λh=>by have:=(Qec c1).2 h;omega
 rw[Nat.min_eq_right (by omega),Nat.zero_add]
theorem Jb0{N c d:Nat}(hc:1≤c)(h:c≤d):cnt N d≤cnt N c:=by rcases Nat.eq_zero_or_pos (cnt N d) with g | g;omega;have h1:=(Qec (n:=N) (j:=cnt N d - 1) (show 1≤d by omega)).1 (by omega);have h2:(cnt N d - 1)*c≤(cnt N d - 1)*d:=Nat.mul_le_mul_left _ h;have:=(Qec (n:=N) (j:=cnt N d - 1) hc).2 (by omega);omega
theorem Q4y{p:Qf}{h:Qs}{w:List Rat}{c c':Nat}{T E:Rat}{Y Z:List Rat}(hm:MCh p T Y (tri h) E Z)(hc:1≤c)(hc':1≤c'):sweepQ p h w c=sweepQ p h w c':=by unfold sweepQ;rw[Qns hm hc,Qns hm hc']
theorem Qxb(x:Ke)(kk more:Int)(hB0:Y9 x):∃ n,W9 n x kk more=some true:=by
 refine⟨big,?_⟩;have hn:big≤big:=Nat.le_refl _;obtain⟨p,f,sizes,w⟩:=x;obtain⟨hB,hF,hS,hwB,_⟩:=hB0;simp only[] at hB hF hS hwB;unfold W9 Wn;simp only[jn_eq];obtain⟨v,e1,e2⟩:=Qd9 (p:=p) (a:=10) (b:=4) (k:=2) hn (by decide) (by decide);rw[show((10:Nat):Int)=10 from rfl,show((4:Nat):Int)=4 from rfl,show((2:Nat):Int)=2 from rfl] at e1;rw[e1,sbind];cases v
 case true=>rw[bifT,sbind,bifT,bifT,w44];rfl
 obtain⟨⟨t1,t2,t3⟩,⟨s1,s2,s3,s4,s5,s6⟩,p1⟩:=e2 rfl;rw[bifF];by_cases c0:(3:Int)<(p.An.B.length:Int)
 . rw[decide_eq_true c0,bifT,sbind,bifT,bifT,w44];rfl
 rw[decide_eq_false c0,bifF];obtain⟨v,e3,e4⟩:=Qg4 (f:=f) hn;rw[e3,sbind];cases v
 case true=>rw[bifT,sbind,bifT,bifT,w44];rfl
 obtain⟨f1,f2,f3⟩:=e4 rfl;obtain⟨v,e5,e6⟩:=K6 (l:=sizes) (many:=3) (k:=2) hn (by decide);rw[show((3:Nat):Int)=3 from rfl,show((2:Nat):Int)=2 from rfl] at e5;rw[bifF,e5,sbind];cases v
 case true=>rw[bifT,sbind,bifT,bifT,w44];rfl
 have z1:=e6 rfl;obtain⟨v,e7,e8⟩:=K6 (l:=w) (many:=6) (k:=2) hn (by decide);rw[show((6:Nat):Int)=6 from rfl,show((2:Nat):Int)=2 from rfl] at e7;rw[bifF,e7,sbind,sbind];cases v
 case true=>rw[bifT,bifT,w44];rfl
 have u1:=e8 rfl;rw[bifF];by_cases k1:kk<1
 . rw[decide_eq_true k1,bifT,bifT,w44];rfl
 rw[decide_eq_false k1,bifF];by_cases k2:more<0
 . rw[decide_eq_true k2,bifT,bifT,w44];rfl
 rw[decide_eq_false k2,bifF];by_cases k3:10<kk
 . rw[decide_eq_true k3,bifT,bifT,w44];rfl
 rw[decide_eq_false k3,bifF];by_cases k4:10<more
 . rw[decide_eq_true k4,bifT,bifT,w44];rfl
 rw[decide_eq_false k4,bifF];by_cases k5:(2000:Int)<p.Ap
 . rw[decide_eq_true k5,bifT,w44];rfl
 rw[decide_eq_false k5,bifF];have hw:=(Qra (bits:=p.Ap) hB (by decide) (e2 rfl)).mono (k:=2000) (by decide);have hT:Fk 129 (tF f.T):=Vq (Fk_tF hF.1 f1) (by decide);have hY:FR 129 (f.Y.map tF):=Js (FR_tF hF.2.2.1 f3) (by decide);have hZ:FR 2 (sizes.map tF):=FR_tF hS z1;have hU:FR 2000 (w.map tF):=Js (FR_tF hwB u1) (by decide);have hYr:FRr 129 f.Y:=Qw4 (Qrb hF.2.2.1 f3) (by decide);have hZr:FRr 2 sizes:=Qrb hS z1;have hTr:=Fk_wd hT;have f4:=f3.1;have u4:=u1.1;have z2:=z1.1;have hyl:(f.Y.map tF).length≤1000:=by simp;omega
 rw[Qgk hn (by omega) (by omega) (by omega) (by have:=s3.1;omega) (by have:=s4.1;omega) (by have:=s5.1;omega) (λr hr=>by have:=(s6 r hr).1;omega) (by have:=p1.1;omega),sbind];unfold Jt;rw[sbind,Kx hn (by omega),sbind,Kx hn (by omega),sbind];have ht:(⟨⟨f.T.Neg,f.T.N⟩,f.T.D⟩:Qa)=tF f.T:=rfl;rw[ht];obtain⟨a1,a2⟩:=Qjt (p:=tP p) (a:=129) (j:=2) (k:=2000) (t:=tF f.T) (y:=f.Y.map tF) (hs:=sizes.map tF) hn (by decide) (by decide) (by decide) (by decide) hw hT hY hyl hZ;rw[Jab,Jab,fr_tF] at a1 a2;rw[a1,sbind,Kx hn (by omega),sbind];have lU:(w.map tF).length≤6:=by rw[List.length_map];omega
 have back:=λ(h:Qs) (c:Int) (hl:h.Ao.length≤200) (ht:∀ t∈h.Ao,FT 2000 t) (hT:Fk 2000 h.T) (hY:FR 2000 h.Y) (hYl:h.Y.length≤1000000)=>Qed (n:=big) (k:=2000) (p:=tP p) (h:=h) (w:=w.map tF) (x:=c) hn (by decide) (by decide) hw hl ht hT hY hYl hU (by omega);have none:=λc=>back noH c (Nat.zero_le _) (by intro t h;cases h) Quq (by intro t h;cases h) (Nat.zero_le _);have qT:=qw_fr hTr (by decide);have qY:=Jac hYr (by decide);have qZ:=Jac hZr (by decide);by_cases hm:mayQ (tP p) (rvr f.Y) (rvr sizes)
 case neg=>
  rw[if_neg hm];simp only[];rw[(none kk).1,sbind,(none _).1,sbind,show Qo ⟨2,0,0,0⟩ ⟨0,0,0,0⟩=false from Jw (by decide),Bool.not_false,bifT,w44];rfl
 rw[if_pos hm];cases hM:marchQ (tP p) (rvr sizes) 0 (fr f.T) (rvr f.Y) [] with
 | inl g=>
   have hk:=a2 hm g hM;simp only[];rw[(none kk).1,sbind,(none _).1,sbind,show Qo g ⟨0,0,0,0⟩=false by obtain⟨g1,g2,g3,g4⟩:=g;exact Jw hk,Bool.not_false,bifT,w44];rfl
 | inr z=>
   obtain⟨q1,q2,q3,q4⟩:=Qr6 (a:=129) (j:=2) (by omega) qZ (Q8 qY (by decide)) hm.2.1 hM;have hts:=Qmi (K:=2000) (m:=(rvr f.Y).length) (a:=129) (j:=2) (by decide) (by rw[Q6f];omega) (by decide) (by omega) qZ (Q8 qY (by decide)) rfl (λ_ h=>by cases h) hM;obtain⟨l,l1,l2,l3⟩:=Qmj hM;rw[List.nil_append] at l1;rw[Q6f] at q1 q4 hts
   have hH:∀ t∈(⟨z.1.map toTry,toF z.2.1,toR z.2.2⟩:Qs).Ao,FT 2000 t:=λt ht=>by obtain⟨u,hu,rfl⟩:=List.mem_map.1 ht;exact FT_TQ (hts u hu) (by omega)
   have hHl:(⟨z.1.map toTry,toF z.2.1,toR z.2.2⟩:Qs).Ao.length≤200:=by show(z.1.map toTry).length≤200;rw[List.length_map,q4];simp;omega
   have hd6:(tP p).Tape.Au≤6:=by obtain⟨⟨⟨_,d2⟩,_⟩,_⟩:=hm.1.1;exact d2
   have hb:=λc=>back ⟨z.1.map toTry,toF z.2.1,toR z.2.2⟩ c hHl hH (Q6 (by omega)) (J6 (Q8 q2 (by decide))) (by show(toR z.2.2).length≤_;rw[Q2];omega);have ew:wrap64 (kk+more)=kk+more:=w64 (by omega) (by omega);have hsame:sweepQ (tP p) ⟨z.1.map toTry,toF z.2.1,toR z.2.2⟩ (rv (w.map tF)) (cutI kk)=sweepQ (tP p) ⟨z.1.map toTry,toF z.2.1,toR z.2.2⟩ (rv (w.map tF)) (cutI (kk+more)):=by rw[←l1] at l3;exact Q4y (by rw[Qup];exact l3) (cut_b kk).1 (cut_b (kk+more)).1
   obtain⟨r1,c1,c2,c3⟩:=Qy4 (n:=big) (k:=2000) (x:=kk) hn (by decide) (by decide) hHl hH;obtain⟨r2,d1,d2,d3⟩:=Qy4 (n:=big) (k:=2000) (x:=kk+more) hn (by decide) (by decide) hHl hH;have hcm:cutI kk≤cutI (kk+more):=by unfold cutI;omega
   have hmono:=Jb0 (N:=(tri ⟨z.1.map toTry,toF z.2.1,toR z.2.2⟩).length) (cut_b kk).1 hcm;simp only[];rw[ew,(hb kk).1,sbind,(hb (kk+more)).1,sbind,←hsame,J2,Bool.not_true,bifF,c1,sbind,d1,sbind,J2,bifT];have hz3:=(hb kk).2.2;cases hs:sweepQ (tP p) ⟨z.1.map toTry,toF z.2.1,toR z.2.2⟩ (rv (w.map tF)) (cutI kk) with
   | inl g=>
     simp only[];rw[Qb4 (k:=1) hn (by decide) (by decide) (λ_ h=>by cases h) (λ_ h=>by cases h),sbind,decide_eq_true rfl,bifT,sbind,bifT,decide_eq_true (show r2.Kept≤r1.Kept by rw[c2,d2];omega),bifT,decide_eq_true (show r1.A2≤r2.A2 by rw[c3,d3];omega),bifT,w44];rfl
   | inr y=>
     obtain⟨y1,y2,_,_⟩:=hz3 y hs;simp only[];rw[Qb4 (k:=2000) hn (by decide) (by decide) (J6 y1) (J6 y1),sbind,decide_eq_true rfl,bifT,Qb4 (k:=129) hn (by decide) (by decide) (J6 y2) (J6 y2),sbind,decide_eq_true rfl,bifT,decide_eq_true (show r2.Kept≤r1.Kept by rw[c2,d2];omega),bifT,decide_eq_true (show r1.A2≤r2.A2 by rw[c3,d3];omega),bifT,w44];rfl
end Go.Proofs.YtkkfedionkhgnaaGreatDoor
