import Derived.Test.YtlfphifbmoccgaaGreatDoorMod
import Derived.Test.YtlfphifbmoccgaaGreatDoorP1
import Derived.Test.YtlfphifbmoccgaaGreatDoorP2
namespace Go.Proofs.YtlfphifbmoccgaaGreatDoor
open Go Go.RowKit
set_option maxRecDepth 100000
theorem Q4d(l:List Qa)(i:Nat)(x:Qa):rv (l.set i x)=(rv l).set i (fv x):=by unfold rv;rw[List.map_set]
theorem Q51(l:List Rat)(i:Nat)(x:Rat):(toR l).set i (toF x)=toR (l.set i x):=by unfold toR;rw[List.map_set]
theorem Q4e{k:Nat}{l:List Qa}{i:Nat}{x:Qa}(h:FR k l)(hx:Fk k x):FR k (l.set i x):=λy hy=>by rcases List.mem_or_eq_of_mem_set hy with hy | rfl;exact h y hy;exact hx
theorem Jea{k:Nat}{l:List Rat}{i:Nat}{x:Rat}(h:QR k l)(hx:qw x≤k):QR k (l.set i x):=λy hy=>by rcases List.mem_or_eq_of_mem_set hy with hy | rfl;exact h y hy;exact hx
theorem Q0f{α:Type}{l:List α}{a:Int}(h0:0≤a)(h1:a<(l.length:Int)):∃ x,l[a.toNat]?=some x∧getI l a=some x:=by
 obtain⟨i,rfl⟩:∃ i:Nat,a=(i:Int):=⟨a.toNat,by omega⟩
 have hi:i<l.length:=by omega
 exact⟨l[i],by rw[Int.toNat_natCast];exact List.getElem?_eq_getElem hi,Qau hi⟩
theorem Qql{n b kc:Nat}{t:Qm}{done co gY gP:List Qa}{gT cF:Qa}{a:Int}(hn:big≤n)(h1:1≤kc)(hb:b+kc<1000000000)(hco:FR b co)(hc:Fk kc cF)(h0:0≤a)(ha:a<(co.length:Int)):
 ∃ co',Ji n t done co gT gY gP a cF=some (t,done,gT,co')∧rv co'=addAt (rv co) a (fv cF)∧FR (b+kc+1) co'∧co'.length=co.length:=by
 obtain⟨x,g1,g2⟩:=Q0f h0 ha;have hx:=hco x (List.mem_of_getElem? g1);have hq:=Qae (qw_fv (Vg hx (show b≤b+kc by omega)) (by omega)) (qw_fv hc h1);have hq2:qw (fv x+fv cF)≤b+kc+1:=by
  by_cases hb1:1≤b
  . exact Qae (qw_fv hx hb1) (qw_fv hc h1)
  . have hb0:b=0:=by omega
    subst hb0;have e:fv x=0:=by obtain⟨_,x2,_,x4⟩:=hx;obtain⟨⟨ng,ab⟩,dn⟩:=x;have e1:ab=[]:=List.eq_nil_of_length_eq_zero (by simpa using x2);have e2:dn=[]:=List.eq_nil_of_length_eq_zero (by simpa using x4);subst e1;subst e2;cases ng<;>decide +kernel
    rw[e,Rat.zero_add];have:=qw_fv hc h1;omega
 unfold Ji;rw[g2,sbind,Vw (k:=b+kc) hn (by omega) (by omega) (Vg hx (by omega)) (Vg hc (by omega)),sbind,sbind];refine⟨_,rfl,?_,Q4e (J6 hco (by omega)) (Jp hq2),List.length_set⟩;rw[Q4d,Q5];unfold addAt;rw[Qgi g1]
theorem Q4f{b kc:Nat}{l:List Rat}{a:Int}{c:Rat}(hb:1≤b)(h:QR b l)(hc:qw c≤kc):QR (b+kc+1) (addAt l a c):=
 Jea (Jo h (by omega)) (Qae (Wc h hb) hc)
theorem Q4g{n b:Nat}{t:Qm}{x:Qs}{i:Nat}{vs:List Rat}{co:List Qa}{s:BkS}(hn:big≤n)(hb1:129≤b)(hb:b<100000000)(hw:BkW b co s)(hx:t.Code[i]?=some x)(hm:mayR t i x)
 (hv:QR 129 vs) (hvl:i<vs.length) (hcl:co.length=vs.length) (hc:qw (s.co.getD i 0)≤129) (hy:(s.Y.length:Int)=t.Dim) (hp:(s.P.length:Int)=t.Par) :
 ∃ co',X7 n t (toR vs) co (toF s.T) (toR s.Y) (toR s.P) (i:Int)=some (t,toR vs,toF (Qca x (s.co.getD i 0) (vs.getD i 0) vs s).T,co',toR (Qca x (s.co.getD i 0) (vs.getD i 0) vs s).Y,toR (Qca x (s.co.getD i 0) (vs.getD i 0) vs s).P)∧BkW (b+3000) co' (Qca x (s.co.getD i 0) (vs.getD i 0) vs s)∧co'.length=co.length:=by
 obtain⟨w1,w2,w3,w4,w5⟩:=hw;have rd:=Qrw hm;have hrow:vs[i]?=some vs[i]:=List.getElem?_eq_getElem hvl;obtain⟨cF,hcF⟩:∃ cF,co[i]?=some cF:=⟨co[i]'(by omega),List.getElem?_eq_getElem _⟩
 have ec:s.co.getD i 0=fv cF:=by rw[←w1];exact Qgi hcF
 rw[ec] at hc ⊢;have kcF:Fk b cF:=w2 cF (List.mem_of_getElem? hcF);have dA:x.Op=6∨x.Op=11∨x.Op=7∨x.Op=8∨x.Op=9∨x.Op=10->0≤x.A∧x.A<(i:Int):=λh=>rd _ (rdT_A h);have dB:x.Op=7∨x.Op=8∨x.Op=9∨x.Op=10->0≤x.B∧x.B<(i:Int):=λh=>rd _ (rdT_B h);have gA:x.Op=6∨x.Op=11∨x.Op=7∨x.Op=8∨x.Op=9∨x.Op=10->getI (toR vs) x.A=some (toF (vs.getD x.A.toNat 0)):=λh=>Qfk (dA h).1 (by have:=(dA h).2;omega);have gB:x.Op=7∨x.Op=8∨x.Op=9∨x.Op=10->getI (toR vs) x.B=some (toF (vs.getD x.B.toNat 0)):=λh=>Qfk (dB h).1 (by have:=(dB h).2;omega);have gI:getI (toR vs) (i:Int)=some (toF (vs.getD i 0)):=by
  have:=Qfk (l:=vs) (r:=(i:Int)) (by omega) (by omega);rwa [Int.toNat_natCast] at this
 have qA:qw (vs.getD x.A.toNat 0)≤129:=Wc hv (by decide);have qB:qw (vs.getD x.B.toNat 0)≤129:=Wc hv (by decide);have qI:qw (vs.getD i 0)≤129:=Wc hv (by decide);unfold X7 Qca;rw[Kq hx,sbind,Kq hcF,sbind,Qcg (k:=b) hn (by omega) (by omega) kcF,sbind];simp only[bifd];have sg:(fv cF).num.sign=0↔fv cF=0:=by rw[Int.sign_eq_zero_iff_zero,Rat.num_eq_zero]
 by_cases c0:fv cF=0
 . rw[if_pos (sg.2 c0),if_pos c0]
   exact⟨co,rfl,⟨w1,J6 w2 (by omega),by omega,Jo w4 (by omega),Jo w5 (by omega)⟩,rfl⟩
 rw[if_neg λg=>c0 (sg.1 g),if_neg c0];generalize vs.getD x.A.toNat 0=va at gA qA ⊢;generalize vs.getD x.B.toNat 0=vb at gB qB ⊢;generalize vs.getD i 0=vi at gI qI ⊢;have kc2:Fk 129 (toF (fv cF)):=Jp hc;have kmono:FR (b+3000) co:=J6 w2 (by omega);by_cases o2:x.Op=2
 . simp only[if_pos o2]
   have hq:=Qae w3 hc;rw[Vw (k:=b) hn (by omega) (by omega) (Jp w3) kcF,sbind,Q5];exact⟨co,rfl,⟨w1,kmono,by show qw (s.T+fv cF)≤_;omega,Jo w4 (by omega),Jo w5 (by omega)⟩,rfl⟩
 simp only[if_neg o2];by_cases o3:x.Op=3
 . simp only[if_pos o3]
   obtain⟨a1,a2⟩:=Qyl hm o3;have q0:=Wc (i:=x.A.toNat) w4 (by omega);rw[Qfk a1 (by omega),sbind,Vw (k:=b) hn (by omega) (by omega) (Jp q0) kcF,sbind,sbind,Q5,Q51];exact⟨co,rfl,⟨w1,kmono,by show qw s.T≤_;omega,Jo (Q4f (by omega) w4 hc) (by omega),Jo w5 (by omega)⟩,rfl⟩
 simp only[if_neg o3];by_cases o4:x.Op=4
 . simp only[if_pos o4]
   obtain⟨a1,a2⟩:=Qym hm o4;have q0:=Wc (i:=x.A.toNat) w5 (by omega);rw[Qfk a1 (by omega),sbind,Vw (k:=b) hn (by omega) (by omega) (Jp q0) kcF,sbind,sbind,Q5,Q51];exact⟨co,rfl,⟨w1,kmono,by show qw s.T≤_;omega,Jo w4 (by omega),Jo (Q4f (by omega) w5 hc) (by omega)⟩,rfl⟩
 simp only[if_neg o4];have wrap:∀ {co':List Qa}{l:List Rat}{k:Nat},rv co'=l->FR k co'->k≤b+3000->BkW (b+3000) co' ⟨l,s.T,s.Y,s.P⟩:=λe hk hle=>⟨e,J6 hk hle,by show qw s.T≤_;omega,Jo w4 (by omega),Jo w5 (by omega)⟩
 have one:∀(a:Int) (q:Rat) (kq:Nat),0≤a->a<(i:Int)->qw q≤kq->1≤kq->kq≤1300->∃ co',Ji n t (toR vs) co (toF s.T) (toR s.Y) (toR s.P) a (toF q)=some (t,toR vs,toF s.T,co')∧rv co'=addAt s.co a q∧FR (b+kq+1) co'∧co'.length=co.length:=λa q kq h0 h1 hq hk1 hk2=>by obtain⟨co',e1,e2,e3,e4⟩:=Qql (n:=n) (t:=t) (done:=toR vs) (gT:=toF s.T) (gY:=toR s.Y) (gP:=toR s.P) hn hk1 (by omega) w2 (Jp hq) h0 (by omega);rw[Q5,w1] at e2;exact⟨co',e1,e2,e3,e4⟩
 have two:∀(a a':Int) (q q':Rat) (kq kq':Nat),0≤a->a<(i:Int)->qw q≤kq->1≤kq->kq≤1300->0≤a'->a'<(i:Int)->qw q'≤kq'->1≤kq'->kq'≤1300->∃ co1 co',Ji n t (toR vs) co (toF s.T) (toR s.Y) (toR s.P) a (toF q)=some (t,toR vs,toF s.T,co1)∧Ji n t (toR vs) co1 (toF s.T) (toR s.Y) (toR s.P) a' (toF q')=some (t,toR vs,toF s.T,co')∧BkW (b+3000) co' ⟨addAt (addAt s.co a q) a' q',s.T,s.Y,s.P⟩∧co'.length=co.length:=λa a' q q' kq kq' h0 h1 hq hk1 hk2 h0' h1' hq' hk1' hk2'=>by
  obtain⟨co1,e1,e2,e3,e4⟩:=one a q kq h0 h1 hq hk1 hk2;obtain⟨co',f1,f2,f3,f4⟩:=Qql (n:=n) (t:=t) (done:=toR vs) (gT:=toF s.T) (gY:=toR s.Y) (gP:=toR s.P) (a:=a') hn hk1' (by omega) e3 (Jp hq') h0' (by omega);rw[Q5,e2] at f2;exact⟨co1,co',e1,f1,wrap f2 f3 (by omega),by omega⟩
 have send0:∀(a:Int),0≤a->a<(i:Int)->∃ co',Ji n t (toR vs) co (toF s.T) (toR s.Y) (toR s.P) a cF=some (t,toR vs,toF s.T,co')∧rv co'=addAt s.co a (fv cF)∧FR (b+129+1) co'∧co'.length=co.length:=λa h0 h1=>by obtain⟨y,g1,g2⟩:=Q0f (l:=co) h0 (by omega);have hy1:=w2 y (List.mem_of_getElem? g1);have hq:=Qae (qw_fv hy1 (by omega)) hc;unfold Ji;rw[g2,sbind,Vw (k:=b) hn (by omega) (by omega) hy1 kcF,sbind,sbind];refine⟨_,rfl,?_,Q4e (J6 w2 (by omega)) (Jp hq),List.length_set⟩;rw[Q4d,Q5,←w1];unfold addAt;rw[Qgi g1]
 have send1:∀ {co1:List Qa}{b1:Nat}(a:Int),b≤b1->b1<200000000->FR b1 co1->co1.length=co.length->0≤a->a<(i:Int)->∃ co',Ji n t (toR vs) co1 (toF s.T) (toR s.Y) (toR s.P) a cF=some (t,toR vs,toF s.T,co')∧rv co'=addAt (rv co1) a (fv cF)∧FR (b1+129+1) co'∧co'.length=co.length:=fun {co1 b1} a hb0 hb2 hk hl h0 h1=>by obtain⟨y,g1,g2⟩:=Q0f (l:=co1) h0 (by omega);have hy1:=hk y (List.mem_of_getElem? g1);have hq:=Qae (qw_fv hy1 (by omega)) hc;unfold Ji;rw[g2,sbind,Vw (k:=b1) hn (by omega) (by omega) hy1 (Vg kcF hb0),sbind,sbind];refine⟨_,rfl,?_,Q4e (J6 hk (by omega)) (Jp hq),by rw[List.length_set];exact hl⟩;rw[Q4d,Q5];unfold addAt;rw[Qgi g1]
 by_cases o6:x.Op=6
 . simp only[if_pos o6]
   obtain⟨co',e1,e2,e3,e4⟩:=one x.A (-fv cF) 129 (dA (by omega)).1 (dA (by omega)).2 (by rw[Qnd];exact hc) (by decide) (by decide);rw[Qd6 hn (Fk_Fw kcF (by omega)),sbind,e1,sbind];exact⟨co',rfl,wrap e2 e3 (by omega),e4⟩
 simp only[if_neg o6];by_cases o7:x.Op=7
 . simp only[if_pos o7]
   obtain⟨co1,e1,e2,e3,e4⟩:=send0 x.A (dA (by omega)).1 (dA (by omega)).2;obtain⟨co',f1,f2,f3,f4⟩:=send1 x.B (by omega) (by omega) e3 e4 (dB (by omega)).1 (dB (by omega)).2;rw[e2] at f2;rw[e1,sbind];simp only[];rw[f1,sbind];exact⟨co',rfl,wrap f2 f3 (by omega),f4⟩
 simp only[if_neg o7];by_cases o8:x.Op=8
 . simp only[if_pos o8]
   obtain⟨co1,e1,e2,e3,e4⟩:=send0 x.A (dA (by omega)).1 (dA (by omega)).2;obtain⟨co',f1,f2,f3,f4⟩:=Qql (n:=n) (t:=t) (done:=toR vs) (gT:=toF s.T) (gY:=toR s.Y) (gP:=toR s.P) (a:=x.B) (cF:=toF (-fv cF)) (kc:=129) hn (by decide) (by omega) e3 (Jp (by rw[Qnd];exact hc)) (dB (by omega)).1 (by have:=(dB (by omega)).2;omega);rw[e2,Q5] at f2;rw[e1,sbind,Qd6 hn (Fk_Fw kcF (by omega)),sbind];simp only[];rw[f1,sbind];exact⟨co',rfl,wrap f2 f3 (by omega),by omega⟩
 simp only[if_neg o8];by_cases o9:x.Op=9
 . simp only[if_pos o9]
   have q1:=Yx hc qB;have q2:=Yx hc qA;obtain⟨co1,co',e1,f1,f2,f3⟩:=two x.A x.B (fv cF*vb) (fv cF*va) 258 258 (dA (by omega)).1 (dA (by omega)).2 q1 (by decide) (by decide) (dB (by omega)).1 (dB (by omega)).2 q2 (by decide) (by decide);rw[gB (by omega),sbind,Wj (k:=b) hn (by omega) (by omega) kcF (Jp (by omega)),sbind,Q5,e1,sbind];simp only[];rw[gA (by omega),sbind,Wj (k:=b) hn (by omega) (by omega) kcF (Jp (by omega)),sbind,Q5,f1,sbind];exact⟨co',rfl,f2,f3⟩
 simp only[if_neg o9];by_cases o10:x.Op=10
 . simp only[if_pos o10]
   unfold Qej;have q1:=Qru hc qB;have q2:=Yx q1 qI;have q3:qw (-(fv cF / vb*vi))≤387:=by rw[Qnd];omega
   obtain⟨co1,co',e1,f1,f2,f3⟩:=two x.A x.B (fv cF / vb) (-(fv cF / vb*vi)) 258 387 (dA (by omega)).1 (dA (by omega)).2 q1 (by decide) (by decide) (dB (by omega)).1 (dB (by omega)).2 q3 (by decide) (by decide);have hquo:∃ ok,Qai n cF (toF vb)=some (toF (fv cF / vb),ok):=by
    rw[Qd8 (k:=b) hn (by omega) (by omega) kcF (Jp (by omega)),Q5];by_cases hz:vb=0
    . rw[if_pos hz,hz,show fv cF / 0=0 by rw[Rat.div_def,Rat.inv_zero,Rat.mul_zero]];exact⟨_,rfl⟩
    . rw[if_neg hz];exact⟨_,rfl⟩
   obtain⟨ok,hquo⟩:=hquo;rw[gI,sbind,gB (by omega),sbind,hquo,sbind];simp only[];rw[e1,sbind,Wj (k:=258) hn (by omega) (by omega) (Jp (by omega)) (Jp (by omega)),sbind,Q5,Q5,Qd6 hn (Fk_Fw (Jp (k:=387) (by omega)) (by omega)),sbind,Q5];simp only[];rw[f1,sbind,sbind];exact⟨co',rfl,f2,f3⟩
 simp only[if_neg o10];by_cases o11:x.Op=11
 . simp only[if_pos o11]
   unfold Qek;simp only[jn_eq,bifd];have hB8:x.B.natAbs≤8:=by unfold mayR at hm;rw[if_neg (show ¬ x.Op=1 by omega),if_neg (show ¬ x.Op=2 by omega),if_neg (show ¬ x.Op=3 by omega),if_neg (show ¬ x.Op=4 by omega),if_neg (show ¬ x.Op=6 by omega),if_pos o11] at hm;have h2:=hm.2.2;omega
   have qi:=Q33 (z:=x.B) hB8
   have key:∀ w:Rat,qw w≤1100->turnQ va vi x.B=w->∃ co',((Ju n x.B).bind λr22=>(Vj n r22 (toF w)).bind λr24=>(Vj n cF r24).bind λr26=>(Ji n t (toR vs) co (toF s.T) (toR s.Y) (toR s.P) x.A r26).bind λr28=>(some (r28.1,r28.2.1,r28.2.2.1,r28.2.2.2):Option (Qm×List Qa×Qa×List Qa)))=some (t,toR vs,toF s.T,co')∧BkW (b+3000) co' ⟨addAt s.co x.A (fv cF*((x.B:Rat)*turnQ va vi x.B)),s.T,s.Y,s.P⟩∧co'.length=co.length:=λw hw e=>by
    have q1:=Yx qi hw;have q2:=Yx hc q1;obtain⟨co',e1,e2,e3,e4⟩:=one x.A (fv cF*((x.B:Rat)*w)) 1230 (dA (by omega)).1 (dA (by omega)).2 (by omega) (by decide) (by decide);rw[Qim hn (by omega) (by omega),sbind,Wj (k:=1200) hn (by omega) (by omega) (Jp (by omega)) (Jp (by omega)),sbind,Q5,Q5,Wj (k:=b+1200) hn (by omega) (by omega) (Vg kcF (by omega)) (Jp (by omega)),sbind,Q5,e1,sbind,e];exact⟨co',rfl,wrap e2 e3 (by omega),e4⟩
   rw[gI,sbind,Wb hn,sbind];by_cases h0:0<x.B
   . have hw1:=Qvj qA (e:=x.B - 1) (by omega)
     obtain⟨co',k1,k2,k3⟩:=key (va ^ (x.B - 1)) (by omega) (by unfold turnQ;rw[if_pos h0]);rw[if_pos h0,gA (by omega),sbind,w64 (by omega) (by omega),Qj6 (k:=129) hn (by omega) (by omega) (Jp qA),sbind,Q5,if_neg (show ¬(x.B - 1 < -8∨8<x.B - 1∨(x.B - 1<0∧va=0)) by omega)];simp only[];rw[k1,sbind];exact⟨co',rfl,k2,k3⟩
   . rw[if_neg h0]
     by_cases h2:x.B<0
     . have hw1:=Qru qI qA
       have hquo:∃ ok,Qai n (toF vi) (toF va)=some (toF (vi / va),ok):=by
        rw[Qd8 (k:=129) hn (by omega) (by omega) (Jp (by omega)) (Jp (by omega)),Q5,Q5];by_cases hz:va=0
        . rw[if_pos hz,hz,show vi / 0=0 by rw[Rat.div_def,Rat.inv_zero,Rat.mul_zero]];exact⟨_,rfl⟩
        . rw[if_neg hz];exact⟨_,rfl⟩
       obtain⟨ok,hquo⟩:=hquo;obtain⟨co',k1,k2,k3⟩:=key (vi / va) (by omega) (by unfold turnQ;rw[if_neg h0,if_pos h2]);rw[if_pos h2,gA (by omega),sbind,hquo,sbind];simp only[];rw[k1,sbind];exact⟨co',rfl,k2,k3⟩
     . obtain⟨co',k1,k2,k3⟩:=key 0 (by rw[Z1];omega) (by unfold turnQ;rw[if_neg h0,if_neg h2])
       rw[if_neg h2,k1,sbind];exact⟨co',rfl,k2,k3⟩
 simp only[if_neg o11];exact⟨co,rfl,⟨w1,kmono,by omega,Jo w4 (by omega),Jo w5 (by omega)⟩,rfl⟩
set_option maxRecDepth 100000
def pullQ(lim:Int)(code:List Qs)(vs:List Rat):Nat->BkS->Nat ⊕ BkS
 | 0,s=>.inr s
 | i+1,s=>match code[i]? with
   | none=>.inr s
   | some x=>if (qz (s.co.getD i 0):Int)≤lim then pullQ lim code vs i (Qca x (s.co.getD i 0) (vs.getD i 0) vs s) else .inl i
def coQ(m:Nat)(outs:List Int)(w:List Rat):List Rat:=(List.zip outs w).foldl (λco z=>addAt co z.1 z.2) (List.replicate m 0)
def backQ(t:Qm)(lim:Int)(T:Rat)(Y P w:List Rat):(Int×Int×Nat) ⊕ (Rat×List Rat×List Rat):=
 match runQ lim T Y P t.Code 0 [] with
 | .inl e=>.inl (e.1,0,e.2)
 | .inr vs=>match pullQ lim t.Code vs vs.length ⟨coQ vs.length t.Outs w,0,List.replicate t.Dim.toNat 0,List.replicate t.Par.toNat 0⟩ with
   | .inl i=>.inl (6,2,i)
   | .inr s=>match fitQ lim (s.T::(s.Y++s.P)) 0 with
     | some j=>.inl (6,3,j)
     | none=>.inr (s.T,s.Y,s.P)
theorem Q2c{n k:Nat}{t:Qm}{p:Va}{bits:Int}(hn:big≤n)(h1:129≤k)(hk:k<1048576)(ht:Quz n k t)(hT:Fk k p.T)(hY:FR k p.Y)(hP:FR k p.P)(hy:(p.Y.length:Int)=t.Dim)(hp:(p.P.length:Int)=t.Par):
 Qgs n t p bits=some (match runQ (min (max bits 0) 4096) (fv p.T) (rv p.Y) (rv p.P) t.Code 0 [] with | .inl e=>([],⟨e.1,0,0,(e.2:Int)⟩) | .inr l=>(toR l,⟨0,0,0,0⟩)):=by
 obtain⟨r,h,w⟩:=ht;obtain⟨⟨d1,d2⟩,⟨d3,d4⟩,d5,d6⟩:=r.1;have eT:=qw_fv hT (by omega);have eY:=QR_rv hY (by omega);have eP:=QR_rv hP (by omega);unfold Qgs Qdf Xs;rw[Wa hn (Fk_Fw hT (by omega)),sbind,Qaw hn (by omega) hY (by omega),sbind,Qaw hn (by omega) hP (by omega),sbind,sbind,sbind];simp only[];obtain⟨g',e⟩:=Q32 (g:=⟨⟨0,0⟩,min (max bits 0) 4096⟩) hn h1 hk r h w eT eY eP (by rw[Jb];exact hy) (by rw[Jb];exact hp) (by simp only[];omega);rw[e,sbind];simp only[];cases runQ (min (max bits 0) 4096) (fv p.T) (rv p.Y) (rv p.P) t.Code 0 []<;>rfl
theorem Q4h(m:Nat):rv (List.replicate m (⟨⟨false,[]⟩,[]⟩:Qa))=List.replicate m 0:=by unfold rv;rw[List.map_replicate];congr 1
theorem Q4i(m k:Nat):FR k (List.replicate m (⟨⟨false,[]⟩,[]⟩:Qa)):=λx hx=>by rw[(List.mem_replicate.1 hx).2];exact⟨(λ_ h=>by cases h),Nat.zero_le _,(λ_ h=>by cases h),Nat.zero_le _⟩
theorem Qr1{n:Nat}{a b:Nat}(hn:big≤n)(ha:a≤300)(hb:b≤300):Qhi n (a:Int) (b:Int)=some (toF 0,toR (List.replicate a 0),toR (List.replicate b 0)):=by unfold Qhi;rw[Wb hn,sbind,Qd9 hn ha,sbind,Qd9 hn hb,sbind]
theorem Qyy{k m:Nat}(hk:1≤k):QR k (List.replicate m 0):=λq hq=>by rw[(List.mem_replicate.1 hq).2,Z1];exact hk
theorem Q9d{n:Nat}{t:Qm}{vs:List Rat}{F:Qa×List Qa×List Qa}(hn:big≤n)(ht:tapeR t)(hv:QR 129 vs)(hvl:vs.length=t.Code.length):∀(i:Nat) (m:Nat) (co:List Qa) (s:BkS) (g:Qj) (b:Nat),i≤vs.length->i<m->129≤b->b+i*3000<100000000->BkW b co s->co.length=vs.length->(s.Y.length:Int)=t.Dim->(s.P.length:Int)=t.Par->g.limit≤4096 →
 ∃ g' co',g'.limit=g.limit∧loopM (λ(s57:Qm×(List Qa)×(List Qa)×Qa×(List Qa)×(List Qa)×Qj×Int)=>
  bif decide ((0:Int)≤s57.2.2.2.2.2.2.2) then (
   (getI s57.2.2.1 s57.2.2.2.2.2.2.2).bind λy58=>
   (Vq n y58).bind λr60=>
   (Vd n s57.2.2.2.2.2.2.1 r60).bind λr62=>
   bif !r62.1 then (
    some (Lp.out (Lp.out (((⟨F.1,F.2.1,F.2.2⟩:Vc),(⟨(6:Int),0,(2:Int),s57.2.2.2.2.2.2.2⟩:Qd))))))
   else (
    (X7 n s57.1 s57.2.1 s57.2.2.1 s57.2.2.2.1 s57.2.2.2.2.1 s57.2.2.2.2.2.1 s57.2.2.2.2.2.2.2).bind λr64=>
    some (Lp.go (r64.1,r64.2.1,r64.2.2.2.1,r64.2.2.1,r64.2.2.2.2.1,r64.2.2.2.2.2,r62.2,wrap64 (s57.2.2.2.2.2.2.2 - (1:Int))))))
  else (
   some (Lp.out (Lp.go (s57.1,s57.2.1,s57.2.2.1,s57.2.2.2.1,s57.2.2.2.2.1,s57.2.2.2.2.2.1,s57.2.2.2.2.2.2.1))))) m (t,toR vs,co,toF s.T,toR s.Y,toR s.P,g,(i:Int) - 1) =
   some (match pullQ g.limit t.Code vs i s with | .inl j=>Lp.out (((⟨F.1,F.2.1,F.2.2⟩:Vc),(⟨6,0,2,(j:Int)⟩:Qd))) | .inr z=>Lp.go (t,toR vs,co',toF z.T,toR z.Y,toR z.P,g')) ∧
   ∀ z,pullQ g.limit t.Code vs i s=.inr z->qw z.T≤b+i*3000∧QR (b+i*3000) z.Y∧QR (b+i*3000) z.P∧z.Y.length=s.Y.length∧z.P.length=s.P.length:=by
 intro i
 induction i with
 | zero=>
   intro m co s g b _ hm hb1 _ hw _ _ _ _;refine⟨g,co,rfl,?_,?_⟩;simp only[pullQ];refine Qfg ?_ hm;rw[decide_eq_false (show ¬(0:Int)≤((0:Nat):Int) - 1 by omega),bifF];intro z hz;simp only[pullQ] at hz;cases hz;exact⟨by have:=hw.t;omega,Jo hw.y (by omega),Jo hw.p (by omega),rfl,rfl⟩
 | succ i ih=>
   intro m co s g b hi hm hb1 hb2 hw hcl hy hp hg;have hx:t.Code[i]?=some (t.Code[i]'(by omega)):=List.getElem?_eq_getElem _;generalize t.Code[i]'(by omega)=x at hx;obtain⟨cF,hcF⟩:∃ cF,co[i]?=some cF:=⟨co[i]'(by omega),List.getElem?_eq_getElem _⟩
   have ec:s.co.getD i 0=fv cF:=by rw[←hw.c];exact Qgi hcF
   have kcF:Fk b cF:=hw.k cF (List.mem_of_getElem? hcF);have hq:=qw_fv kcF (by omega);obtain⟨m,rfl⟩:∃ q,m=q+1:=⟨m - 1,by omega⟩
   simp only[pullQ,hx];by_cases hf:(qz (s.co.getD i 0):Int)≤g.limit;have hc:qw (s.co.getD i 0)≤129:=by have:=qw_qz (q:=s.co.getD i 0) (b:=4096) (by omega);omega
   obtain⟨co',e1,e2,e3⟩:=Q4g (i:=i) hn hb1 (by omega) hw hx (ht.2.1 i x hx) hv (by omega) hcl hc hy hp;obtain⟨l1,l2,l3⟩:=Ql1 (x:=x) (c:=s.co.getD i 0) (r:=vs.getD i 0) (vs:=vs) (s:=s);simp only[if_pos hf];rw[ec] at hf;obtain⟨g',co2,f1,f2,f3⟩:=ih m co' _ (noteG g (fv cF)) (b+3000) (by omega) (by omega) (by omega) (by omega) e2 (by omega) (by rw[l2];exact hy) (by rw[l3];exact hp) hg;refine⟨g',co2,f1,?_,λz hz=>?_⟩;refine(Qoj ?_).trans f2;rw[show((i+1:Nat):Int) - 1=(i:Int) by omega,decide_eq_true (show(0:Int)≤(i:Int) by omega),bifT,Kq hcF,sbind,Wa hn (Fk_Fw kcF (by omega)),sbind,Qks hn (by omega),sbind];simp only[];rw[decide_eq_true hf,Bool.not_true,bifF,e1,sbind,w64 (by omega) (by omega)];obtain⟨k1,k2,k3,k4,k5⟩:=f3 z hz;exact⟨by omega,Jo k2 (by omega),Jo k3 (by omega),by omega,by omega⟩;simp only[if_neg hf];rw[ec] at hf;refine⟨g,co,rfl,?_,λz hz=>by cases hz⟩;refine Qfg ?_ (by omega);rw[show((i+1:Nat):Int) - 1=(i:Int) by omega,decide_eq_true (show(0:Int)≤(i:Int) by omega),bifT,Kq hcF,sbind,Wa hn (Fk_Fw kcF (by omega)),sbind,Qks hn (by omega),sbind];simp only[];rw[decide_eq_false hf,Bool.not_false,bifT]
theorem Q0g{n k kw:Nat}{t:Qm}{p:Va}{w:List Qa}{bits:Int}(hn:big≤n)(h1:129≤k)(hk:k<1048576)(hkw1:1≤kw)(hkw:kw≤1000000)(ht:Quz n k t)(hT:Fk k p.T)(hY:FR k p.Y)(hP:FR k p.P)(hw:FR kw w)(hy:(p.Y.length:Int)=t.Dim)(hp:(p.P.length:Int)=t.Par)(hwl:w.length=t.Outs.length):
 Qjh n t p w bits=some (match backQ t (min (max bits 0) 4096) (fv p.T) (rv p.Y) (rv p.P) (rv w) with | .inl e=>(⟨toF 0,[],[]⟩,⟨e.1,0,e.2.1,(e.2.2:Int)⟩) | .inr z=>(⟨toF z.1,toR z.2.1,toR z.2.2⟩,⟨0,0,0,0⟩)) ∧
 (∀ e,backQ t (min (max bits 0) 4096) (fv p.T) (rv p.Y) (rv p.P) (rv w)=.inl e->e.1≠0)∧∀ z,backQ t (min (max bits 0) 4096) (fv p.T) (rv p.Y) (rv p.P) (rv w)=.inr z->QR 129 z.2.1∧QR 129 z.2.2∧(z.2.1.length:Int)=t.Dim∧(z.2.2.length:Int)=t.Par:=by
 have hd:=ht.r.1;obtain⟨⟨d1,d2⟩,⟨d3,d4⟩,d5,d6⟩:=hd;unfold Qjh backQ;have z0:=Qr1 (n:=n) (a:=0) (b:=0) hn (by decide) (by decide);rw[show((0:Nat):Int)=0 from rfl] at z0;rw[z0,sbind,decide_eq_true (show(w.length:Int)=(t.Outs.length:Int) by omega),Bool.not_true,bifF,Q2c hn h1 hk ht hT hY hP hy hp,sbind];cases hr:runQ (min (max bits 0) 4096) (fv p.T) (rv p.Y) (rv p.P) t.Code 0 [] with
 | inl e=>
   have hk:=Qqi hr;simp only[];rw[Kv (by omega),Bool.not_false,bifT];exact⟨rfl,(λg hg=>by cases hg;show e.1≠0;omega),λz hz=>by cases hz⟩
 | inr vs=>
   obtain⟨l1,l2⟩:=Qvl (by omega) (λ_ h=>by cases h) hr;have hl:vs.length=t.Code.length:=by simpa using l1
   simp only[];rw[Ku,Bool.not_true,bifF,Q7,Qdt (by omega) (by omega),sbind];have zz:=Qr1 (n:=n) (a:=t.Dim.toNat) (b:=t.Par.toNat) hn (by omega) (by omega);rw[Int.toNat_of_nonneg (by omega),Int.toNat_of_nonneg d3] at zz;rw[zz,sbind]
   have hout:∀(os:List Int) (i:Nat) (co:List Qa) (q:List Rat) (b:Nat) (K:Lp (Qm×(List Qa)×(List Qa)×Qa) (Vc×Qd)->Option (Vc×Qd)),(∀(j:Nat) o,os[j]?=some o->(0≤o∧o<(vs.length:Int))∧t.Outs[i+j]?=some o)->i+os.length=t.Outs.length->rv co=q->FR b co->co.length=vs.length->b+os.length*(kw+1)<1000000000 →
    ∃ co',(rangeL (λ(i27:Nat) (x28:Int) (s26:Qm×(List Qa)×(List Qa)×Qa)=>
      (getI w (i27:Int)).bind λy30=>
      (Ji n s26.1 s26.2.1 s26.2.2.1 s26.2.2.2 (toR (List.replicate t.Dim.toNat 0)) (toR (List.replicate t.Par.toNat 0)) x28 y30).bind λr32=>
      some (Lp.go (r32.1,r32.2.1,r32.2.2.2,r32.2.2.1))) os i (t,toR vs,co,toF 0)).bind K=K (.go (t,toR vs,co',toF 0))∧rv co'=(List.zip os ((rv w).drop i)).foldl (λco z=>addAt co z.1 z.2) q∧FR (b+os.length*(kw+1)) co'∧co'.length=vs.length:=by
    intro os
    induction os with
    | nil=>
      intro i co q b K _ _ e hb hc _;exact⟨co,rfl,by rw[List.zip_nil_left];exact e,J6 hb (by omega),hc⟩
    | cons o os ih=>
      intro i co q b K hm hi e hb hc hlt;rw[List.length_cons] at hi hlt;obtain⟨⟨o1,o2⟩,o3⟩:=hm 0 o rfl;have hil:i<w.length:=by omega
      have hwi:w[i]?=some w[i]:=List.getElem?_eq_getElem hil;have hwm:=hw w[i] (List.getElem_mem hil);have hdrop:(rv w).drop i=fv w[i]::(rv w).drop (i+1):=by
       have hil2:i<(rv w).length:=by rw[Jb];exact hil
       rw[List.drop_eq_getElem_cons hil2];congr 1;exact List.getElem_map _
      generalize w[i]=wi at hwi hwm hdrop;have hmul:(os.length+1)*(kw+1)=os.length*(kw+1)+(kw+1):=Nat.succ_mul _ _;obtain⟨co1,s1,s2,s3,s4⟩:=Qql (n:=n) (t:=t) (done:=toR vs) (gT:=toF 0) (gY:=toR (List.replicate t.Dim.toNat 0)) (gP:=toR (List.replicate t.Par.toNat 0)) (a:=o) hn hkw1 (by omega) hb hwm o1 (by omega)
      obtain⟨co',f1,f2,f3,f4⟩:=ih (i+1) co1 (addAt q o (fv wi)) (b+kw+1) K (λj o' hj=>by
       have:=hm (j+1) o' (by simpa using hj)
       rwa [show i+(j+1)=i+1+j by omega] at this) (by omega) (by rw[s2,e]) s3 (by omega) (by omega)
      refine⟨co',?_,?_,J6 f3 (by rw[List.length_cons,hmul];omega),f4⟩
      . simp only[rangeL]
        rw[Kq hwi,sbind,s1,sbind];exact f1
      . rw[hdrop,List.zip_cons_cons,List.foldl_cons]
        exact f2
   have hkm:t.Outs.length*(kw+1)≤6*(kw+1):=Nat.mul_le_mul_right _ (by omega)
   obtain⟨co',f1,f2,f3,f4⟩:=hout t.Outs 0 (List.replicate vs.length ⟨⟨false,[]⟩,[]⟩) (List.replicate vs.length 0) 129 (lpK λ(s34:Qm×(List Qa)×(List Qa)×Qa)=>
    (Xs bits).bind λr35=>
    (loopM (λ(s57:Qm×(List Qa)×(List Qa)×Qa×(List Qa)×(List Qa)×Qj×Int)=>
     bif decide ((0:Int)≤s57.2.2.2.2.2.2.2) then (
      (getI s57.2.2.1 s57.2.2.2.2.2.2.2).bind λy58=>
      (Vq n y58).bind λr60=>
      (Vd n s57.2.2.2.2.2.2.1 r60).bind λr62=>
      bif !r62.1 then (
       some (Lp.out (Lp.out (((⟨toF 0,toR (List.replicate 0 0),toR (List.replicate 0 0)⟩:Vc),(⟨(6:Int),0,(2:Int),s57.2.2.2.2.2.2.2⟩:Qd))))))
      else (
       (X7 n s57.1 s57.2.1 s57.2.2.1 s57.2.2.2.1 s57.2.2.2.2.1 s57.2.2.2.2.2.1 s57.2.2.2.2.2.2.2).bind λr64=>
       some (Lp.go (r64.1,r64.2.1,r64.2.2.2.1,r64.2.2.1,r64.2.2.2.2.1,r64.2.2.2.2.2,r62.2,wrap64 (s57.2.2.2.2.2.2.2 - (1:Int))))))
     else (
      some (Lp.out (Lp.go (s57.1,s57.2.1,s57.2.2.1,s57.2.2.2.1,s57.2.2.2.2.1,s57.2.2.2.2.2.1,s57.2.2.2.2.2.2.1))))) n (s34.1,s34.2.1,s34.2.2.1,s34.2.2.2,toR (List.replicate t.Dim.toNat 0),toR (List.replicate t.Par.toNat 0),r35,wrap64 ((vs.length:Int) - (1:Int)))).bind (lpK λ(t55:Qm×(List Qa)×(List Qa)×Qa×(List Qa)×(List Qa)×Qj)=>
    (Qlg (⟨t55.2.2.2.1,t55.2.2.2.2.1,t55.2.2.2.2.2.1⟩:Vc)).bind λr66=>
    (W7 n t55.2.2.2.2.2.2 r66).bind λr68=>
    bif !r68.2.1 then (
     some ((⟨toF 0,toR (List.replicate 0 0),toR (List.replicate 0 0)⟩:Vc),(⟨(6:Int),0,(3:Int),r68.1⟩:Qd)))
    else (
     some ((⟨t55.2.2.2.1,t55.2.2.2.2.1,t55.2.2.2.2.2.1⟩:Vc),(⟨0,0,0,0⟩:Qd))))) (λj o hj=>by rw[Nat.zero_add];exact⟨by have:=ht.r.2.2 o (Jt hj);omega,hj⟩) (by omega) (Q4h _) (Q4i _ _) (by simp) (by omega)
   rw[List.drop_zero] at f2;have hw0:BkW (129+t.Outs.length*(kw+1)) co' ⟨coQ vs.length t.Outs (rv w),0,List.replicate t.Dim.toNat 0,List.replicate t.Par.toNat 0⟩:=⟨f2,f3,by show qw 0≤_;rw[Z1];omega,Qyy (by omega),Qyy (by omega)⟩
   obtain⟨g',co2,p1,p2,p3⟩:=Q9d (F:=(toF 0,toR (List.replicate 0 0),toR (List.replicate 0 0))) hn ht.r l2 hl vs.length n co' _ ⟨⟨0,0⟩,min (max bits 0) 4096⟩ _ (Nat.le_refl _) (by unfold big at hn;omega) (by omega) (by omega) hw0 f4 (by simp;omega) (by simp;omega) (by show min (max bits 0) 4096≤4096;omega);refine⟨?_,?_,?_⟩
   . refine Eq.trans f1 ?_
     rw[Yv];unfold Xs;rw[sbind,w64 (by omega) (by omega)];simp only[] at p2 ⊢;rw[p2,sbind];cases hp:pullQ (min (max bits 0) 4096) t.Code vs vs.length ⟨coQ vs.length t.Outs (rv w),0,List.replicate t.Dim.toNat 0,List.replicate t.Par.toNat 0⟩ with
     | inl j=>rfl
     | inr z=>
       obtain⟨b1,b2,b3,b4,b5⟩:=p3 z hp;simp only[List.length_replicate] at b4 b5;simp only[];rw[Yv];unfold Qlg;simp only[];rw[Wr (by rw[Q7];simp;omega) (by rw[Q7];simp;omega),sbind,Wr (by simp only[List.length_append,Q7,List.length_cons,List.length_nil];omega) (by simp only[List.length_append,Q7,List.length_cons,List.length_nil];omega),sbind,sbind];have el:[toF z.T]++toR z.Y++toR z.P=toR (z.T::(z.Y++z.P)):=by unfold toR;simp
       obtain⟨g2,r1,r2⟩:=Qsu (g:=g') (l:=z.T::(z.Y++z.P)) hn (λx hx=>by
        rcases List.mem_cons.1 hx with rfl | hx
        . omega
        . rcases List.mem_append.1 hx with hx | hx
          . have:=b2 x hx;omega
          . have:=b3 x hx;omega)
       rw[el,r2,sbind,p1];simp only[];cases fitQ (min (max bits 0) 4096) (z.T::(z.Y++z.P)) 0<;>rfl
   . intro e he
     cases hp:pullQ (min (max bits 0) 4096) t.Code vs vs.length ⟨coQ vs.length t.Outs (rv w),0,List.replicate t.Dim.toNat 0,List.replicate t.Par.toNat 0⟩ with
     | inl j=>rw[hp] at he;cases he;show(6:Int)≠0;decide
     | inr z=>
       rw[hp] at he;simp only[] at he;cases hf:fitQ (min (max bits 0) 4096) (z.T::(z.Y++z.P)) 0 with
       | some j=>rw[hf] at he;cases he;show(6:Int)≠0;decide
       | none=>rw[hf] at he;cases he
   . intro e he
     cases hp:pullQ (min (max bits 0) 4096) t.Code vs vs.length ⟨coQ vs.length t.Outs (rv w),0,List.replicate t.Dim.toNat 0,List.replicate t.Par.toNat 0⟩ with
     | inl j=>rw[hp] at he;cases he
     | inr z=>
       obtain⟨b1,b2,b3,b4,b5⟩:=p3 z hp;simp only[List.length_replicate] at b4 b5;rw[hp] at he;simp only[] at he;cases hf:fitQ (min (max bits 0) 4096) (z.T::(z.Y++z.P)) 0 with
       | some j=>rw[hf] at he;cases he
       | none=>
         rw[hf] at he;cases he;have hq:=Qmp (by omega) hf;exact⟨λx hx=>hq x (.tail _ (List.mem_append_left _ hx)),λx hx=>hq x (.tail _ (List.mem_append_right _ hx)),by show(z.Y.length:Int)=_;omega,by show(z.P.length:Int)=_;omega⟩
set_option maxRecDepth 100000
def bslQ(As:List (List Rat))(b H:Rat)(W:List Rat)(i:Nat)(ls:List (List Rat)):List Rat:=
 scaleQ H (mixQ ((As.drop (i+1)).map λa=>a.getD i 0) ls (scaleQ b W))
def bstageQ(t:Qm)(lim:Int)(T H:Rat)(P y:List Rat)(c:Rat)(k:List Rat)(i:Nat):Qd ⊕ (List Rat×List Rat):=
 match fitQ lim k 0 with
 | some j=>.inl ⟨6,0,(i:Int),300+(j:Int)⟩
 | none=>match backQ t lim (T+H*c) y P k with
   | .inl e=>.inl ⟨e.1,0,(i:Int),(e.2.2:Int)⟩
   | .inr z=>.inr (z.2.1,z.2.2)
structure BdS where
 ls:List (List Rat)
 Y:List Rat
 P:List Rat
def bstagesQ(t:Qm)(s:Qt)(lim:Int)(T H:Rat)(P W:List Rat)(yss:List (List Rat)):Nat->BdS->Qd ⊕ BdS
 | 0,z=>.inr z
 | i+1,z=>match bstageQ t lim T H P (yss.getD i []) ((rv s.C).getD i 0) (bslQ (s.A.map rv) ((rv s.B).getD i 0) H W i z.ls) i with
   | .inl f=>.inl f
   | .inr g=>bstagesQ t s lim T H P W yss i ⟨g.1::z.ls,addQ z.Y g.1,addQ z.P g.2⟩
def bdoQ(t:Qm)(s:Qt)(lim:Int)(T H:Rat)(P W:List Rat)(yss:List (List Rat)):Qd ⊕ (List Rat×List Rat):=
 match bstagesQ t s lim T H P W yss s.B.length ⟨[],W,List.replicate P.length 0⟩ with
 | .inl f=>.inl f
 | .inr z=>match fitQ lim z.Y 0 with
   | some j=>.inl ⟨6,0,(s.B.length:Int),300+(j:Int)⟩
   | none=>match fitQ lim z.P 0 with
     | some j=>.inl ⟨6,0,(s.B.length:Int)+1,300+(j:Int)⟩
     | none=>.inr (z.Y,z.P)
theorem Jb2{out l:List Rat}{c:Rat}:addQ out (scaleQ c l)=List.zipWith (λx o=>o+c*x) l out:=by unfold addQ scaleQ;rw[List.zipWith_map_right,List.zipWith_comm]
section
variable {n k:Nat}{p:Qh}{t h:Qa}{y w:List Qa}{g:Qj}{md:Q2}{sm:Jm}
theorem Qsz{l:List Rat}{ys:List (List Qa)}{x2:Int}(hn:big≤n)(hl:QR 1099511627775 l)(hll:l.length≤1000):
 ∃ g',g'.limit=g.limit∧Wl n p t h w md ys sm g (toR l) x2=some (match fitQ g.limit l 0 with | none=>(⟨0,0,0,0⟩,g') | some j=>(⟨6,0,x2,300+(j:Int)⟩,g')):=by
 obtain⟨g',h1,h2⟩:=Qsu (g:=g) hn hl;refine⟨g',h1,?_⟩;unfold Wl;rw[h2,sbind];cases hf:fitQ g.limit l 0 with
 | none=>rfl
 | some j=>
   have:=Qvn hf;simp only[Bool.not_false,bifT];rw[w64 (by omega) (by omega)]
theorem Q4j{i:Nat}{b:Qa}{ls:List (List Rat)}{ys:List (List Qa)}(hn:big≤n)(h0:129≤k)(hk:k<8000)(ok:PrbOK n k p t h y)(hw:FR k w)(hwl:w.length=y.length)(hb:p.Scheme.B[i]?=some b)(hls:ls.length+(i+1)=p.Scheme.B.length)
 (hlq:∀ a∈ls,QR 129 a∧a.length=y.length) (hys:∀(q:Nat) a,ls[q]?=some a->ys[i+1+q]?=some (toR a)) :
 Z9 n p t h w md ys sm g (i:Int)=some (toR (bslQ (p.Scheme.A.map rv) (fv b) (fv h) (rv w) i ls))∧QR (21*k) (bslQ (p.Scheme.A.map rv) (fv b) (fv h) (rv w) i ls)∧(bslQ (p.Scheme.A.map rv) (fv b) (fv h) (rv w) i ls).length=w.length:=by
 obtain⟨⟨d1,d2⟩,⟨d3,d4⟩,d5,d6⟩:=ok.tp.r.1;obtain⟨⟨g1,g2⟩,g3,g4,g5,g6⟩:=ok.sr.2.1;have hyl:=ok.yl;have hbk:=ok.sw.b b (Jt hb);have hbq:=qw_fv hbk (by omega);have hHq:=qw_fv ok.hk (by omega);have q0:=Qgy hbq (QR_rv hw (by omega));have l0:(scaleQ (fv b) (rv w)).length=w.length:=by rw[X6,Jb]
 have loop:∀(r:List (List Qa)) (ls:List (List Rat)) (j m c:Nat) (out:List Rat),r.length=ls.length->j+r.length=p.Scheme.B.length->(∀(q:Nat) a,r[q]?=some a->p.Scheme.A[j+q]?=some a)->(∀(q:Nat) a,ls[q]?=some a->ys[j+q]?=some (toR a))->(∀ a∈ls,QR 129 a∧a.length=y.length)->i<j->QR c out->1≤c->c+r.length*(k+130)<100000000->out.length=y.length->r.length<m →
  loopM (λ(s64:(List Qa)×Int)=>
   bif decide (s64.2<(p.Scheme.B.length:Int)) then (
    (getI p.Scheme.A s64.2).bind λy65=>
    (getI y65 (i:Int)).bind λy67=>
    (getI ys s64.2).bind λy69=>
    (Ke n y67 y69).bind λr71=>
    (K8 n ([s64.1,r71]:List (List Qa))).bind λr73=>
    some (Lp.go (r73.1,wrap64 (s64.2+(1:Int)))))
   else (
    some (Lp.out s64.1))) m (toR out,(j:Int))=some (toR (mixQ (r.map λa=>(rv a).getD i 0) ls out)):=by
  intro r
  induction r with
  | nil=>
    intro ls j m c out hl hj _ _ _ _ _ _ _ _ hm;rw[List.length_nil] at hl hj hm;have:ls=[]:=List.eq_nil_of_length_eq_zero hl.symm;subst this;refine Qfg ?_ hm;rw[decide_eq_false (by omega),bifF];rfl
  | cons a r ih=>
    intro ls j m c out hl hj hA hY hq hij hqo hc1 hc2 hol hm;rw[List.length_cons] at hl hj hm hc2;obtain⟨l,ls,rfl⟩:∃ l ls',ls=l::ls':=by
     cases ls with
     | nil=>simp at hl
     | cons l ls=>exact⟨l,ls,rfl⟩
    rw[List.length_cons] at hl;obtain⟨m,rfl⟩:∃ q,m=q+1:=⟨m - 1,by omega⟩
    have eA:p.Scheme.A[j]?=some a:=hA 0 a rfl;have eY:ys[j]?=some (toR l):=hY 0 l rfl;obtain⟨lq,ll⟩:=hq l (.head _);have hal:=g6 j a eA;obtain⟨x,hx⟩:∃ x,a[i]?=some x:=⟨a[i]'(by omega),List.getElem?_eq_getElem _⟩
    have hxk:=ok.sw.a a (Jt eA) x (Jt hx);have hmul:(r.length+1)*(k+130)=r.length*(k+130)+(k+130):=Nat.succ_mul _ _;have q1:=Qgy (qw_fv hxk (by omega)) lq;have q2:=Qjw hqo q1;have e1:(addQ out (scaleQ (fv x) l)).length=y.length:=by rw[Qcy,X6];omega
    refine(Qoj ?_).trans (ih ls (j+1) m (c+(k+129)+1) (addQ out (scaleQ (fv x) l)) (by omega) (by omega) (λq a' h'=>by have:=hA (q+1) a' (by simpa using h');rwa [show j+(q+1)=j+1+q by omega] at this) (λq a' h'=>by have:=hY (q+1) a' (by simpa using h');rwa [show j+(q+1)=j+1+q by omega] at this) (λa' h'=>hq a' (.tail _ h')) (by omega) q2 (by omega) (by omega) e1 (by omega)) |>.trans ?_
    simp only[];rw[decide_eq_true (by omega),bifT,Kq eA,sbind,Kq hx,sbind,Kq eY,sbind,Qao (k:=k) hn (by omega) (by omega) hxk (J6 (Kl lq) h0) (by rw[Q7];omega),sbind,Ky,Qcq (k:=c+(k+129)) hn (by omega) (by omega) (Kl (Jo hqo (by omega))) (Kl (Jo q1 (by omega))) (by rw[Q7];omega),sbind,Q7,Q7,X6,if_pos (by omega),Ky,Ky,w1 (by omega)];simp only[List.map_cons,mixQ];rw[Jb2,Qgi hx]
 have hdl:(p.Scheme.A.drop (i+1)).length=ls.length:=by rw[List.length_drop];omega
 have hm8:ls.length*(k+130)≤8*(k+130):=Nat.mul_le_mul_right _ (by omega);have e0:=loop (p.Scheme.A.drop (i+1)) ls (i+1) n (k+k) (scaleQ (fv b) (rv w)) hdl (by omega) (λq a h'=>by rwa [List.getElem?_drop] at h') hys hlq (by omega) q0 (by omega) (by rw[hdl];omega) (by omega) (by unfold big at hn;omega);have ea:((p.Scheme.A.map rv).drop (i+1)).map (λa=>a.getD i 0)=(p.Scheme.A.drop (i+1)).map λa=>(rv a).getD i 0:=by
  rw[←List.map_drop,List.map_map];rfl
 have hcs:QR k ((p.Scheme.A.drop (i+1)).map λa=>(rv a).getD i 0):=λq hq=>by obtain⟨a,ha,rfl⟩:=List.mem_map.1 hq;exact Wc (QR_rv (ok.sw.a a (List.mem_of_mem_drop ha)) (by omega)) (by omega)
 have qm:=Qrv (k:=129) hcs (λa ha=>(hlq a ha).1) q0;have lm:=Qfj (m:=w.length) (cs:=(p.Scheme.A.drop (i+1)).map λa=>(rv a).getD i 0) (l:=ls) (λa ha=>by rw[(hlq a ha).2];omega) l0;have hm8':ls.length*(k+129+1)≤8*(k+129+1):=Nat.mul_le_mul_right _ (by omega);unfold bslQ;rw[ea];refine⟨?_,Jo (Qgy hHq qm) (by omega),by rw[X6];exact lm⟩;unfold Z9;rw[Kq hb,sbind,Qao (k:=k) hn (by omega) (by omega) hbk hw (by omega),sbind,w1 (by omega),e0,sbind,Qao (k:=21*k) hn (by omega) (by omega) (Vg ok.hk (by omega)) (Kl (Jo qm (by omega))) (by rw[Q7];omega),sbind,Ky]
theorem Q5g{i:Nat}{b c:Qa}{yi sY sP:List Rat}{ls yss:List (List Rat)}{ys ks0:List (List Qa)}{nx er:List Qa}{bb:Nat}(hn:big≤n)(h0:129≤k)(hk:k<8000)(ok:PrbOK n k p t h y)(hw:FR k w)(hwl:w.length=y.length)(hg:g.limit=limQ p.Bits)
 (hb:p.Scheme.B[i]?=some b) (hc:p.Scheme.C[i]?=some c) (hyi:yss[i]?=some yi) (hyq:QR 129 yi) (hyil:yi.length=y.length) (hls:ls.length+(i+1)=p.Scheme.B.length)
 (hlq:∀ a∈ls,QR 129 a∧a.length=y.length) (hys:∀(q:Nat) a,ls[q]?=some a->ys[i+1+q]?=some (toR a)) (hysl:i<ys.length) (hb0:129≤bb) (hb1:bb<1000000) (qY:QR bb sY) (qP:QR bb sP) (lY:sY.length=y.length) (lP:sP.length=p.P.length) :
 ∃ g',g'.limit=g.limit∧∃ r,Y4 n p t h w ⟨toRR yss,ks0,nx,er⟩ ys ⟨toR sY,toR sP⟩ g (i:Int)=some r ∧
   match bstageQ p.Tape (limQ p.Bits) (fv t) (fv h) (rv p.P) yi (fv c) (bslQ (p.Scheme.A.map rv) (fv b) (fv h) (rv w) i ls) i with
   | .inl f=>r.1=f∧f.Kind≠0
   | .inr z=>r=(⟨0,0,0,0⟩,p,t,h,w,⟨toRR yss,ks0,nx,er⟩,⟨toR (addQ sY z.1),toR (addQ sP z.2)⟩,ys.set i (toR z.1),g')∧QR 129 z.1∧QR 129 z.2∧z.1.length=y.length∧z.2.length=p.P.length:=by
 obtain⟨⟨d1,d2⟩,⟨d3,d4⟩,d5,d6⟩:=ok.tp.r.1;obtain⟨⟨g1,g2⟩,g3,g4,g5,g6⟩:=ok.sr.2.1;have hyl:=ok.yl;have hpl:=ok.pl;have hck:=ok.sw.c c (Jt hc);have hi:=Ve hb;obtain⟨s1,s2,s3⟩:=Q4j (md:=⟨toRR yss,ks0,nx,er⟩) (sm:=⟨toR sY,toR sP⟩) (g:=g) hn h0 hk ok hw hwl hb hls hlq hys;unfold Y4;rw[s1,sbind];generalize bslQ (p.Scheme.A.map rv) (fv b) (fv h) (rv w) i ls=K at s2 s3;obtain⟨g',e1,e2⟩:=Qsz (p:=p) (t:=t) (h:=h) (w:=w) (g:=g) (md:=⟨toRR yss,ks0,nx,er⟩) (sm:=⟨toR sY,toR sP⟩) (ys:=ys) (x2:=(i:Int)) hn (Jo s2 (show 21*k≤1099511627775 by omega)) (by omega);refine⟨g',e1,?_⟩;rw[e2,sbind,hg];unfold bstageQ;cases hf:fitQ (limQ p.Bits) K 0 with
 | some j=>
   simp only[];rw[Kv (by decide),Bool.not_false,bifT];exact⟨_,rfl,rfl,by decide⟩
 | none=>
   simp only[];rw[Ku,Bool.not_true,bifF];have hmul:=Yx (qw_fv ok.hk (by omega)) (qw_fv hck (by omega));have hadd:=Qae (qw_fv ok.tk (by omega)) hmul;rw[Qq7 hn h0 (by omega) ok.tk ok.hk hck hc,sbind,Kq (show(toRR yss)[i]?=some (toR yi) by unfold toRR;rw[List.getElem?_map,hyi];rfl),sbind];obtain⟨f1,f2,f3⟩:=Q0g (k:=22*k) (kw:=21*k) (t:=p.Tape) (p:=⟨toF (fv t+fv h*fv c),toR yi,p.P⟩) (w:=toR K) (bits:=p.Bits) hn (by omega) (by omega) (by omega) (by omega) ⟨ok.tp.r,ok.tp.h,λx hx=>Vg (ok.tp.w x hx) (by omega)⟩ (Jp (by omega)) (Kl (Jo hyq (by omega))) (J6 ok.pk (by omega)) (Kl s2) (by simp only[Q7];omega) ok.pl (by rw[Q7];omega);rw[f1,sbind];simp only[] at f2 f3 ⊢;rw[Q5,Ky,Ky] at f2 f3 ⊢;have hlim:limQ p.Bits=min (max p.Bits 0) 4096:=rfl;rw[hlim];cases hq:backQ p.Tape (min (max p.Bits 0) 4096) (fv t+fv h*fv c) yi (rv p.P) K with
   | inl e=>
     have hkd:=f2 e hq;simp only[];rw[Kv hkd,Bool.not_false,bifT];exact⟨_,rfl,rfl,hkd⟩
   | inr z=>
     obtain⟨q1,q2,q3,q4⟩:=f3 z hq;simp only[];rw[Ku,Bool.not_true,bifF,Qau hysl,sbind,Qj8 (k:=bb) hn (by omega) (by omega) (Kl qY) (Kl qP) (Kl (Jo q1 hb0)) (Kl (Jo q2 hb0)) (by rw[Q7];omega) (by rw[Q7];omega),sbind,Q7,Q7,Q7,Q7,if_pos ⟨by omega,by omega⟩,Ky,Ky,Ky,Ky,Int.toNat_natCast];exact⟨_,rfl,rfl,q1,q2,by omega,by omega⟩
abbrev BdSt:=Qh×Qa×Qa×(List Qa)×Q2×(List (List Qa))×Jm×Qj×Int
abbrev BdG:=Qh×Qa×Qa×(List Qa)×Q2×(List (List Qa))×Jm×Qj
abbrev BdR:=Qd×Qh×Qa×Qa×(List Qa)×Q2×Jm×(List (List Qa))×Qj
def bdBody(n:Nat)(s11:BdSt):Option (Lp BdSt (Lp BdG BdR)):=
    bif decide ((0:Int)≤s11.2.2.2.2.2.2.2.2) then (
     (Y4 n s11.1 s11.2.1 s11.2.2.1 s11.2.2.2.1 s11.2.2.2.2.1 s11.2.2.2.2.2.1 s11.2.2.2.2.2.2.1 s11.2.2.2.2.2.2.2.1 s11.2.2.2.2.2.2.2.2).bind λr12=>
     bif !(Qo r12.1 (⟨0,0,0,0⟩:Qd)) then (
      some (Lp.out (Lp.out ((r12.1,r12.2.1,r12.2.2.1,r12.2.2.2.1,r12.2.2.2.2.1,r12.2.2.2.2.2.1,r12.2.2.2.2.2.2.1,r12.2.2.2.2.2.2.2.1,r12.2.2.2.2.2.2.2.2)))))
     else (
      some (Lp.go (r12.2.1,r12.2.2.1,r12.2.2.2.1,r12.2.2.2.2.1,r12.2.2.2.2.2.1,r12.2.2.2.2.2.2.2.1,r12.2.2.2.2.2.2.1,r12.2.2.2.2.2.2.2.2,wrap64 (s11.2.2.2.2.2.2.2.2 - (1:Int))))))
    else (
     some (Lp.out (Lp.go (s11.1,s11.2.1,s11.2.2.1,s11.2.2.2.1,s11.2.2.2.2.1,s11.2.2.2.2.2.1,s11.2.2.2.2.2.2.1,s11.2.2.2.2.2.2.2.1))))
def bdEnd(n:Nat)(x0_p:Qh)(t9:BdG):Option BdR:=
 (Wl n t9.1 t9.2.1 t9.2.2.1 t9.2.2.2.1 t9.2.2.2.2.1 t9.2.2.2.2.2.1 t9.2.2.2.2.2.2.1 t9.2.2.2.2.2.2.2 t9.2.2.2.2.2.2.1.Y (x0_p.Scheme.B.length:Int)).bind λr14=>
 bif !(Qo r14.1 (⟨0,0,0,0⟩:Qd)) then (
  some (r14.1,t9.1,t9.2.1,t9.2.2.1,t9.2.2.2.1,t9.2.2.2.2.1,t9.2.2.2.2.2.2.1,t9.2.2.2.2.2.1,r14.2))
 else (
  (Wl n t9.1 t9.2.1 t9.2.2.1 t9.2.2.2.1 t9.2.2.2.2.1 t9.2.2.2.2.2.1 t9.2.2.2.2.2.2.1 r14.2 t9.2.2.2.2.2.2.1.P (wrap64 ((x0_p.Scheme.B.length:Int)+(1:Int)))).bind λr16=>
  some (r16.1,t9.1,t9.2.1,t9.2.2.1,t9.2.2.2.1,t9.2.2.2.2.1,t9.2.2.2.2.2.2.1,t9.2.2.2.2.2.1,r16.2))
theorem Q9e(ys):Qbb n p t h w md ys sm g=(loopM (bdBody n) n (p,t,h,w,md,ys,sm,g,wrap64 ((p.Scheme.B.length:Int) - (1:Int)))).bind (lpK (bdEnd n p)):=Eq.symm (Eq.symm rfl)
structure BdOK(b m mp:Nat)(z:BdS):Prop where
 y:QR b z.Y
 p:QR b z.P
 yl:z.Y.length=m
 pl:z.P.length=mp
 l:∀ a∈z.ls,QR 129 a∧a.length=m
theorem Jb3{yss:List (List Rat)}{ks0:List (List Qa)}{nx er:List Qa}(hn:big≤n)(h0:129≤k)(hk:k<8000)(ok:PrbOK n k p t h y)(hw:FR k w)(hwl:w.length=y.length)
 (hyss:∀ a∈yss,QR 129 a∧a.length=y.length) (hyssl:yss.length=p.Scheme.B.length):∀(i m:Nat) (g:Qj) (z:BdS) (ys:List (List Qa)) (b:Nat),i≤p.Scheme.B.length->i<m->z.ls.length+i=p.Scheme.B.length->ys.length=p.Scheme.B.length->(∀(q:Nat) a,z.ls[q]?=some a->ys[i+q]?=some (toR a))->129≤b->b+i*130<1000000->BdOK b y.length p.P.length z->g.limit=limQ p.Bits →
 match bstagesQ p.Tape p.Scheme (limQ p.Bits) (fv t) (fv h) (rv p.P) (rv w) yss i z with
 | .inl f=>∃ r,loopM (bdBody n) m (p,t,h,w,⟨toRR yss,ks0,nx,er⟩,ys,⟨toR z.Y,toR z.P⟩,g,(i:Int) - 1)=some (Lp.out r)∧r.1=f∧f.Kind≠0
 | .inr x=>∃ g' ys',g'.limit=limQ p.Bits∧loopM (bdBody n) m (p,t,h,w,⟨toRR yss,ks0,nx,er⟩,ys,⟨toR z.Y,toR z.P⟩,g,(i:Int) - 1)=some (Lp.go (p,t,h,w,⟨toRR yss,ks0,nx,er⟩,ys',⟨toR x.Y,toR x.P⟩,g'))∧BdOK (b+i*130) y.length p.P.length x:=by
 obtain⟨⟨g1,g2⟩,g3,g4,g5,g6⟩:=ok.sr.2.1;intro i
 induction i with
 | zero=>
   intro m g z ys b _ hm _ _ _ _ _ hz hg;simp only[bstagesQ];refine⟨g,ys,hg,Qfg ?_ hm,⟨Jo hz.y (by omega),Jo hz.p (by omega),hz.yl,hz.pl,hz.l⟩⟩;unfold bdBody;simp only[];rw[decide_eq_false (by omega),bifF]
 | succ i ih=>
   intro m g z ys b hi hm hzl hysl hys hb0 hb1 hz hg;obtain⟨m,rfl⟩:∃ q,m=q+1:=⟨m - 1,by omega⟩
   obtain⟨bi,hbi⟩:∃ x,p.Scheme.B[i]?=some x:=⟨p.Scheme.B[i]'(by omega),List.getElem?_eq_getElem _⟩
   obtain⟨ci,hci⟩:∃ x,p.Scheme.C[i]?=some x:=⟨p.Scheme.C[i]'(by omega),List.getElem?_eq_getElem _⟩
   obtain⟨yi,hyi⟩:∃ x,yss[i]?=some x:=⟨yss[i]'(by omega),List.getElem?_eq_getElem _⟩
   obtain⟨yq,yl⟩:=hyss yi (Jt hyi);obtain⟨g',e1,r,e2,e3⟩:=Q5g (g:=g) (ks0:=ks0) (nx:=nx) (er:=er) (ys:=ys) (ls:=z.ls) (sY:=z.Y) (sP:=z.P) (bb:=b) hn h0 hk ok hw hwl hg hbi hci hyi yq yl (by omega) hz.l (λq a h'=>hys q a h') (by omega) hb0 (by omega) hz.y hz.p hz.yl hz.pl;simp only[bstagesQ];have ey:yss.getD i []=yi:=by rw[List.getD_eq_getElem?_getD,hyi];rfl
   rw[ey,Qgi hci,Qgi hbi]
   have eb:bdBody n (p,t,h,w,⟨toRR yss,ks0,nx,er⟩,ys,⟨toR z.Y,toR z.P⟩,g,((i+1:Nat):Int) - 1)=(bif !(Qo r.1 (⟨0,0,0,0⟩:Qd)) then (
    some (Lp.out (Lp.out ((r.1,r.2.1,r.2.2.1,r.2.2.2.1,r.2.2.2.2.1,r.2.2.2.2.2.1,r.2.2.2.2.2.2.1,r.2.2.2.2.2.2.2.1,r.2.2.2.2.2.2.2.2)))))
    else (
     some (Lp.go (r.2.1,r.2.2.1,r.2.2.2.1,r.2.2.2.2.1,r.2.2.2.2.2.1,r.2.2.2.2.2.2.2.1,r.2.2.2.2.2.2.1,r.2.2.2.2.2.2.2.2,wrap64 (((i+1:Nat):Int) - 1 - (1:Int)))))):=by
    unfold bdBody;simp only[];rw[decide_eq_true (by omega),bifT,show((i+1:Nat):Int) - 1=(i:Int) by omega,e2,sbind]
   cases hs:bstageQ p.Tape (limQ p.Bits) (fv t) (fv h) (rv p.P) yi (fv ci) (bslQ (p.Scheme.A.map rv) (fv bi) (fv h) (rv w) i z.ls) i with
   | inl f=>
     rw[hs] at e3;obtain⟨e4,e5⟩:=e3;obtain⟨⟨f1,f2,f3,f4⟩,r⟩:=r;simp only[] at e4;subst e4;simp only[] at eb ⊢;rw[Kv e5,Bool.not_false,bifT] at eb;exact⟨_,Qfg eb (by omega),rfl,e5⟩
   | inr x=>
     rw[hs] at e3;obtain⟨e4,e5,e6,e7,e8⟩:=e3;subst e4;simp only[] at eb ⊢;rw[Ku,Bool.not_true,bifF,show((i+1:Nat):Int) - 1 - 1=(i:Int) - 1 by omega,w64 (by omega) (by omega)] at eb;rw[Qoj eb];have hmul:(i+1)*130=i*130+130:=Nat.succ_mul _ _
     have:=ih m g' ⟨x.1::z.ls,addQ z.Y x.1,addQ z.P x.2⟩ (ys.set i (toR x.1)) (b+130) (by omega) (by omega) (by show z.ls.length+1+i=_;omega) (by rw[List.length_set];exact hysl) (λq a h'=>by
      cases q with
      | zero=>
        simp only[List.getElem?_cons_zero,Option.some.injEq] at h';subst h';rw[Nat.add_zero,List.getElem?_set_self (by omega)]
      | succ q=>
        rw[List.getElem?_set_ne (by omega),show i+(q+1)=i+1+q by omega];exact hys q a (by simpa using h')) (by omega) (by omega) ⟨Jo (Qjw hz.y e5) (by omega),Jo (Qjw hz.p e6) (by omega),by show(addQ z.Y x.1).length=_;rw[Qcy,e7,hz.yl,Nat.min_self],by show(addQ z.P x.2).length=_;rw[Qcy,e8,hz.pl,Nat.min_self],λa ha=>by
        rcases List.mem_cons.1 ha with rfl | ha;exact⟨e5,e7⟩
        exact hz.l a ha⟩ (by omega)
     simp only[] at this;cases hr:bstagesQ p.Tape p.Scheme (limQ p.Bits) (fv t) (fv h) (rv p.P) (rv w) yss i ⟨x.1::z.ls,addQ z.Y x.1,addQ z.P x.2⟩ with
     | inl f=>rw[hr] at this;exact this
     | inr v=>
       rw[hr] at this;obtain⟨g2',ys',a1,a2,a3⟩:=this;exact⟨g2',ys',a1,a2,by rw[hmul,show b+(i*130+130)=b+130+i*130 by omega];exact a3⟩
theorem Q9f{yss:List (List Rat)}{ks0 ys:List (List Qa)}{nx er:List Qa}(hn:big≤n)(h0:129≤k)(hk:k<8000)(ok:PrbOK n k p t h y)(hw:FR k w)(hwl:w.length=y.length)
 (hyss:∀ a∈yss,QR 129 a∧a.length=y.length) (hyssl:yss.length=p.Scheme.B.length) (hysl:ys.length=p.Scheme.B.length) (hg:g.limit=limQ p.Bits) :
 ∃ r,Qbb n p t h w ⟨toRR yss,ks0,nx,er⟩ ys ⟨toR (rv w),toR (List.replicate p.P.length 0)⟩ g=some r ∧
   match bdoQ p.Tape p.Scheme (limQ p.Bits) (fv t) (fv h) (rv p.P) (rv w) yss with
   | .inl f=>r.1=f∧f.Kind≠0
   | .inr z=>r.1=⟨0,0,0,0⟩∧r.2.2.2.2.2.2.1=⟨toR z.1,toR z.2⟩∧QR 129 z.1∧QR 129 z.2∧z.1.length=w.length∧z.2.length=p.P.length:=by
 obtain⟨⟨d1,d2⟩,⟨d3,d4⟩,d5,d6⟩:=ok.tp.r.1;obtain⟨⟨g1,g2⟩,g3,g4,g5,g6⟩:=ok.sr.2.1;have hyl:=ok.yl;have hpl:=ok.pl;have h1:=Jb3 (ks0:=ks0) (nx:=nx) (er:=er) hn h0 hk ok hw hwl hyss hyssl p.Scheme.B.length n g ⟨[],rv w,List.replicate p.P.length 0⟩ ys k (Nat.le_refl _) (by unfold big at hn;omega) (by simp) hysl (λq a h'=>by simp at h') h0 (by omega) ⟨QR_rv hw (by omega),Qyy (by omega),by show(rv w).length=_;rw[Jb];exact hwl,by simp,λ_ h=>by cases h⟩ hg;rw[Q9e,w64 (by omega) (by omega)];unfold bdoQ;rw[Jb p.P];simp only[] at h1;cases hs:bstagesQ p.Tape p.Scheme (limQ p.Bits) (fv t) (fv h) (rv p.P) (rv w) yss p.Scheme.B.length ⟨[],rv w,List.replicate p.P.length 0⟩ with
 | inl f=>
   rw[hs] at h1;obtain⟨r,e1,e2,e3⟩:=h1;rw[e1,sbind,Qkq];exact⟨r,rfl,e2,e3⟩
 | inr z=>
   rw[hs] at h1;obtain⟨g',ys',a1,a2,a3⟩:=h1;rw[a2,sbind,Yv];unfold bdEnd;simp only[];obtain⟨g2',e1,e2⟩:=Qsz (p:=p) (t:=t) (h:=h) (w:=w) (g:=g') (md:=⟨toRR yss,ks0,nx,er⟩) (sm:=⟨toR z.Y,toR z.P⟩) (ys:=ys') (x2:=(p.Scheme.B.length:Int)) hn (Jo a3.y (by omega)) (by rw[a3.yl];omega);rw[e2,sbind,a1];cases hf:fitQ (limQ p.Bits) z.Y 0 with
   | some j=>
     simp only[];rw[Kv (by decide),Bool.not_false,bifT];exact⟨_,rfl,rfl,by decide⟩
   | none=>
     simp only[];rw[Ku,Bool.not_true,bifF,w1 (by omega)];obtain⟨g3',e3,e4⟩:=Qsz (p:=p) (t:=t) (h:=h) (w:=w) (g:=g2') (md:=⟨toRR yss,ks0,nx,er⟩) (sm:=⟨toR z.Y,toR z.P⟩) (ys:=ys') (x2:=((p.Scheme.B.length+1:Nat):Int)) hn (Jo a3.p (by omega)) (by rw[a3.pl];omega);rw[e4,sbind,show g2'.limit=limQ p.Bits by omega];cases hf2:fitQ (limQ p.Bits) z.P 0 with
     | some j=>exact⟨_,rfl,rfl,by show(6:Int)≠0;decide⟩
     | none=>exact⟨_,rfl,rfl,rfl,Qmp (by unfold limQ;omega) hf,Qmp (by unfold limQ;omega) hf2,by rw[a3.yl,hwl],a3.pl⟩
end
noncomputable def backThQ(p:Qh)(T H:Rat)(Y W:List Rat):Qd ⊕ (MadeQ×List Rat×List Rat):=
 match stepQ p T H Y with
 | .inl f=>if f.Kind=2∨W.length≠Y.length then .inl ⟨2,0,0,0⟩ else .inl f
 | .inr z=>if W.length≠Y.length then .inl ⟨2,0,0,0⟩ else match bdoQ p.Tape p.Scheme (limQ p.Bits) T H (rv p.P) W z.ys with
   | .inl f=>.inl f
   | .inr x=>.inr (z,x.1,x.2)
theorem Qqm:∀ {l:List Rat},addQ l (List.replicate l.length 0)=l
 | []=>rfl
 | a::l=>by have:=Qqm (l:=l);unfold addQ at this ⊢;rw[List.length_cons,List.replicate_succ,List.zipWith_cons_cons,this,Rat.add_zero]
theorem Qb2{n k:Nat}{p:Qh}{t h:Qa}{y w:List Qa}(hn:big≤n)(h0:129≤k)(hk:k<8000)(hw:PrbW k p)(ht:Fk k t)(hh:Fk k h)(hy:FR k y)(hu:FR k w):
 Zk n p t h y w=some (match backThQ p (fv t) (fv h) (rv y) (rv w) with | .inl f=>(⟨[],[]⟩,f) | .inr z=>(⟨toR z.2.1,toR z.2.2⟩,⟨0,0,0,0⟩))∧(∀ f,backThQ p (fv t) (fv h) (rv y) (rv w)=.inl f->f.Kind≠0)∧∀ z,backThQ p (fv t) (fv h) (rv y) (rv w)=.inr z->stepQ p (fv t) (fv h) (rv y)=.inr z.1∧QR 129 z.2.1∧QR 129 z.2.2∧z.2.1.length=y.length∧z.2.2.length=p.P.length∧w.length=y.length:=by
 obtain⟨d1,d2⟩:=Qu1 hn h0 hk hw ht hh hy;unfold Zk backThQ;simp only[jn_eq];rw[d1,sbind];cases hs:stepQ p (fv t) (fv h) (rv y) with
 | inl f=>
   have hf:=d2 f hs;obtain⟨f1,f2,f3,f4⟩:=f;simp only[];rw[Jb,Jb,bifd];by_cases c1:f1=2
   . rw[if_pos c1,if_pos (Or.inl c1)]
     exact⟨rfl,(λf h=>by cases h;show(2:Int)≠0;decide),λz h=>by cases h⟩
   rw[if_neg c1];by_cases c2:w.length=y.length
   case neg=>
    rw[decide_eq_false (show ¬(w.length:Int)=(y.length:Int) by omega),if_pos (.inr c2)];exact⟨rfl,(λf h=>by cases h;show(2:Int)≠0;decide),λz h=>by cases h⟩
   rw[decide_eq_true (show(w.length:Int)=(y.length:Int) by omega),Bool.not_true,bifF,Kv hf,Bool.not_false,bifT,if_neg (by rintro(g | g)<;>contradiction)];exact⟨rfl,(λf h=>by cases h;exact hf),λz h=>by cases h⟩
 | inr z=>
   obtain⟨r1,r2,r3,r4,r5⟩:=Qba hs;obtain⟨r6,r7⟩:=Qw7 hs;rw[Jb] at r2;have ok:=hw.ok hn hk r1 ht hh hy r2;obtain⟨⟨d1,d2⟩,⟨d3,d4⟩,d5,d6⟩:=ok.tp.r.1;obtain⟨⟨g1,g2⟩,g3,g4,g5,g6⟩:=ok.sr.2.1;have hpl:=ok.pl;simp only[];rw[Jb,Jb,show decide ((0:Int)=2)=false from rfl,bifF];by_cases c2:w.length=y.length
   case neg=>
    rw[decide_eq_false (show ¬(w.length:Int)=(y.length:Int) by omega),if_pos c2];exact⟨rfl,(λf h=>by cases h;show(2:Int)≠0;decide),λz h=>by cases h⟩
   rw[decide_eq_true (show(w.length:Int)=(y.length:Int) by omega),Bool.not_true,bifF,Ku,Bool.not_true,bifF,if_neg (by simp[c2])];rw[Qd9 hn (by omega),sbind,Qj8 (k:=k) hn (by omega) (by omega) hu (λ_ h=>by cases h) (Kl (Qyy (by omega))) (λ_ h=>by cases h) (by omega) (by simp),sbind,if_pos ⟨by rw[Q7];simp,rfl⟩,Qdt (by omega) (by omega),sbind];unfold Xs;rw[sbind,Qd9 hn (by omega),sbind,Ky];have ez:addQ (rv w) (List.replicate w.length 0)=rv w:=by
    have:=Qqm (l:=rv w);rwa [Jb] at this
   rw[ez];obtain⟨r,e1,e2⟩:=Q9f (g:=⟨⟨0,0⟩,min (max p.Bits 0) 4096⟩) (yss:=z.ys) (ks0:=toRR z.ks) (nx:=toR z.next) (er:=toR z.err) (ys:=List.replicate p.Scheme.B.length []) hn h0 hk ok hu c2 (λa ha=>by have:=r6 a ha;rwa [Jb] at this) r7 (by simp) rfl;rw[show toM z=⟨toRR z.ys,toRR z.ks,toR z.next,toR z.err⟩ from rfl];simp only[];rw[e1,sbind];cases hd:bdoQ p.Tape p.Scheme (limQ p.Bits) (fv t) (fv h) (rv p.P) (rv w) z.ys with
   | inl f=>
     rw[hd] at e2;obtain⟨e3,e4⟩:=e2;refine⟨?_,(λf h=>by cases h;exact e4),λz h=>by cases h⟩;simp only[];rw[e3];obtain⟨f1,f2,f3,f4⟩:=f;rw[Kv e4,Bool.not_false,bifT]
   | inr x=>
     rw[hd] at e2;obtain⟨e3,e4,e5,e6,e7,e8⟩:=e2;refine⟨?_,(λf h=>by cases h),λz h=>by cases h;exact⟨rfl,e5,e6,e7.trans c2,e8,c2⟩⟩;simp only[];rw[e3,e4,Ku,Bool.not_true,bifF]
set_option maxRecDepth 100000
theorem Qyz{l:List Rat}{a:Int}:addAt l a 0=l:=by unfold addAt;rw[Rat.add_zero];by_cases h:a.toNat<l.length;rw[List.getD_eq_getElem?_getD,List.getElem?_eq_getElem h];exact List.set_getElem_self h;exact List.set_eq_of_length_le (by omega)
def bk1(x:Qs)(c r:Rat)(vs:List Rat)(s:BkS):BkS:=
 if x.Op=2 then ⟨s.co,s.T+c,s.Y,s.P⟩ else
 if x.Op=3 then ⟨s.co,s.T,addAt s.Y x.A c,s.P⟩ else
 if x.Op=4 then ⟨s.co,s.T,s.Y,addAt s.P x.A c⟩ else
 if x.Op=6 then ⟨addAt s.co x.A (-c),s.T,s.Y,s.P⟩ else
 if x.Op=7 then ⟨addAt (addAt s.co x.A c) x.B c,s.T,s.Y,s.P⟩ else
 if x.Op=8 then ⟨addAt (addAt s.co x.A c) x.B (-c),s.T,s.Y,s.P⟩ else
 if x.Op=9 then ⟨addAt (addAt s.co x.A (c*vs.getD x.B.toNat 0)) x.B (c*vs.getD x.A.toNat 0),s.T,s.Y,s.P⟩ else
 if x.Op=10 then ⟨addAt (addAt s.co x.A (c / vs.getD x.B.toNat 0)) x.B (-(c / vs.getD x.B.toNat 0*r)),s.T,s.Y,s.P⟩ else
 if x.Op=11 then ⟨addAt s.co x.A (c*((x.B:Rat)*turnQ (vs.getD x.A.toNat 0) r x.B)),s.T,s.Y,s.P⟩ else s
theorem Qy0{x:Qs}{c r:Rat}{vs:List Rat}{s:BkS}:Qca x c r vs s=bk1 x c r vs s:=by
 by_cases h:c=0;subst h;unfold Qca bk1;rw[if_pos rfl];have e1:-(0:Rat)=0:=by decide +kernel
 have e2:∀ w:Rat,0 / w=0:=λw=>by rw[Rat.div_def,Rat.zero_mul]
 simp only[e1,e2,Rat.zero_mul,Qyz,Rat.add_zero,ite_self];unfold Qca bk1;rw[if_neg h]
theorem Qxc{lim:Int}{code:List Qs}{vs:List Rat}:∀ {i:Nat}{s z},pullQ lim code vs i s=.inr z->SameL s z
 | 0,s,z,h=>by simp only[pullQ] at h;cases h;exact⟨rfl,rfl,rfl⟩
 | i+1,s,z,h=>by
   simp only[pullQ] at h;cases hx:code[i]? with
   | none=>rw[hx] at h;cases h;exact⟨rfl,rfl,rfl⟩
   | some x=>
     rw[hx] at h;simp only[] at h;split at h
     case isFalse=>cases h
     have:=Qxc h;obtain⟨a1,a2,a3⟩:=Ql1 (x:=x) (c:=s.co.getD i 0) (r:=vs.getD i 0) (vs:=vs) (s:=s);exact⟨by rw[this.c,a1],by rw[this.y,a2],by rw[this.p,a3]⟩
theorem Q52{m:Nat}{os:List Int}{w:List Rat}:(coQ m os w).length=m:=by
 unfold coQ;have:∀(l:List (Int×Rat)) (a:List Rat),(l.foldl (λco z=>addAt co z.1 z.2) a).length=a.length:=by
  intro l
  induction l with
  | nil=>intro a;rfl
  | cons x l ih=>intro a;rw[List.foldl_cons,ih,Zs]
 rw[this];simp
theorem Qmq{t:Qm}{lim:Int}{T:Rat}{Y P w:List Rat}{z}(h:backQ t lim T Y P w=.inr z):∃ vs x,runQ lim T Y P t.Code 0 []=.inr vs∧pullQ lim t.Code vs vs.length ⟨coQ vs.length t.Outs w,0,List.replicate t.Dim.toNat 0,List.replicate t.Par.toNat 0⟩=.inr x∧z=(x.T,x.Y,x.P):=by
 unfold backQ at h;cases hr:runQ lim T Y P t.Code 0 [] with
 | inl e=>rw[hr] at h;cases h
 | inr vs=>
   rw[hr] at h;simp only[] at h;cases hp:pullQ lim t.Code vs vs.length ⟨coQ vs.length t.Outs w,0,List.replicate t.Dim.toNat 0,List.replicate t.Par.toNat 0⟩ with
   | inl e=>rw[hp] at h;cases h
   | inr x=>
     rw[hp] at h;simp only[] at h;cases hf:fitQ lim (x.T::(x.Y++x.P)) 0 with
     | some j=>rw[hf] at h;cases h
     | none=>rw[hf] at h;cases h;exact⟨vs,x,rfl,hp,rfl⟩
theorem Qxd{t:Qm}{lim:Int}{T:Rat}{Y P w:List Rat}{z}(h:backQ t lim T Y P w=.inr z):z.2.1.length=t.Dim.toNat∧z.2.2.length=t.Par.toNat:=by obtain⟨vs,x,_,h2,rfl⟩:=Qmq h;have:=Qxc h2;exact⟨by rw[this.y];simp,by rw[this.p];simp⟩
theorem Qxe{As:List (List Rat)}{b H:Rat}{i:Nat}{W:List Rat}{l:List (List Rat)}(g:∀ a∈l,a.length=W.length):(bslQ As b H W i l).length=W.length:=by unfold bslQ;rw[X6];exact Qfj g (by rw[X6])
theorem Qjx{t:Qm}{lim:Int}{T H c:Rat}{P y k:List Rat}{i:Nat}{z}(h:bstageQ t lim T H P y c k i=.inr z):∃ x,backQ t lim (T+H*c) y P k=.inr x∧z=(x.2.1,x.2.2):=by
 unfold bstageQ at h;cases hf:fitQ lim k 0 with
 | some j=>rw[hf] at h;cases h
 | none=>
   rw[hf] at h;simp only[] at h;cases hb:backQ t lim (T+H*c) y P k with
   | inl e=>rw[hb] at h;cases h
   | inr x=>rw[hb] at h;cases h;exact⟨x,rfl,rfl⟩
structure BdL(m mp:Nat)(a:BdS):Prop where
 y:a.Y.length=m
 p:a.P.length=mp
 l:∀ x∈a.ls,x.length=m
theorem BdL.step{m mp:Nat}{a:BdS}(h:BdL m mp a){u v:List Rat}(hu:u.length=m)(hv:v.length=mp):BdL m mp ⟨u::a.ls,addQ a.Y u,addQ a.P v⟩:=
 ⟨by show(addQ a.Y u).length=_;rw[Qcy,h.y,hu,Nat.min_self],by show(addQ a.P v).length=_;rw[Qcy,h.p,hv,Nat.min_self],λx hx=>by
  rcases List.mem_cons.1 hx with rfl | hx;exact hu
  exact h.l x hx⟩
theorem Qph{t:Qm}{s:Qt}{lim:Int}{T H:Rat}{P W:List Rat}{yss:List (List Rat)}{z}(h:bdoQ t s lim T H P W yss=.inr z):∃ x,bstagesQ t s lim T H P W yss s.B.length ⟨[],W,List.replicate P.length 0⟩=.inr x∧z=(x.Y,x.P):=by
 unfold bdoQ at h;cases hs:bstagesQ t s lim T H P W yss s.B.length ⟨[],W,List.replicate P.length 0⟩ with
 | inl f=>rw[hs] at h;cases h
 | inr x=>
   rw[hs] at h;simp only[] at h;cases hf:fitQ lim x.Y 0 with
   | some j=>rw[hf] at h;cases h
   | none=>
     rw[hf] at h;simp only[] at h;cases hf2:fitQ lim x.P 0 with
     | some j=>rw[hf2] at h;cases h
     | none=>rw[hf2] at h;cases h;exact⟨x,rfl,rfl⟩
theorem Qiq{p:Qh}{T H:Rat}{Y W:List Rat}{z}(h:backThQ p T H Y W=.inr z):stepQ p T H Y=.inr z.1∧W.length=Y.length∧bdoQ p.Tape p.Scheme (limQ p.Bits) T H (rv p.P) W z.1.ys=.inr z.2:=by
 unfold backThQ at h;cases hs:stepQ p T H Y with
 | inl f=>rw[hs] at h;simp only[] at h;split at h<;>cases h
 | inr m=>
   rw[hs] at h;simp only[] at h;by_cases hl:W.length=Y.length
   case neg=>rw[if_pos hl] at h;cases h
   rw[if_neg (by simp[hl])] at h;cases hd:bdoQ p.Tape p.Scheme (limQ p.Bits) T H (rv p.P) W m.ys with
   | inl f=>rw[hd] at h;cases h
   | inr x=>rw[hd] at h;cases h;exact⟨rfl,hl,hd⟩
theorem Qhm{p:Qh}{T H:Rat}{Y W:List Rat}{z}(h:backThQ p T H Y W=.inr z):W.length=p.Tape.Dim.toNat∧(rv p.P).length=p.Tape.Par.toNat:=by obtain⟨a1,a2,_⟩:=Qiq h;obtain⟨r1,r2,_⟩:=Qba a1;have:=r1.2.2;rw[Jb];omega
end Go.Proofs.YtlfphifbmoccgaaGreatDoor
