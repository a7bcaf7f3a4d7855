import Derived.Test.YtkkfedionkhgnaaGreatDoorModbb
import Derived.Test.YtkkfedionkhgnaaGreatDoorPb1
namespace Go.Proofs.YtkkfedionkhgnaaGreatDoor
open Go Go.RowKit
set_option maxRecDepth 100000
theorem Qy5{n k:Nat}{a b c d:List Qa}(hn:big≤n)(h1:1≤k)(hk:k<1000)(ha:FR k a)(hb:FR k b)(hc:FR k c)(hd:FR k d)(hl:a.length≤1000)(hl2:b.length≤1000)(e1:a.length=c.length)(e2:b.length=d.length):
 Qhu n ⟨a,b⟩ c d=some (toF (psum (rv a) (rv c) a.length+psum (rv b) (rv d) b.length),true):=by
 have bnd:∀ {a b:List Qa},FR k a->FR k b->∀ i:Nat,qw (psum (rv a) (rv b) i)≤1+i*(k+k+1):=by
  intro a b ha hb i
  induction i with
  | zero=>show qw 0≤_;rw[Zn];omega
  | succ i ih=>
    have e:=Yl ih (X3 (Vy (i:=i) (QR_rv ha h1) h1) (Vy (i:=i) (QR_rv hb h1) h1));have:(i+1)*(k+k+1)=i*(k+k+1)+(k+k+1):=Nat.succ_mul _ _;rw[Qea];omega
 have b1:=bnd ha hc a.length;have b2:=bnd hb hd b.length;have m1:a.length*(k+k+1)≤1000*(k+k+1):=Nat.mul_le_mul_right _ hl;have m2:b.length*(k+k+1)≤1000*(k+k+1):=Nat.mul_le_mul_right _ hl2;unfold Qhu;rw[Qlg hn h1 (by omega) ha hc hl,sbind,Qlg hn h1 (by omega) hb hd hl2,sbind,if_pos e1,if_pos e2];simp only[jn_eq,Bool.not_true,bifF];rw[Vd (k:=1+1000*(k+k+1)) hn (by omega) (by omega) (Q6 (by omega)) (Q6 (by omega)),sbind,Q1,Q1]
set_option maxRecDepth 100000
theorem Jb1{p:Qf}{T H:Rat}{Y U V:List Rat}{z}(h:tiltQ p T H Y U V=.inr z):z.2.1.length=U.length:=by
 obtain⟨h1,h2,h3,h4⟩:=Qnx h;obtain⟨r1,r2,r3,r4,r5⟩:=Qa0 h1;have hm:p.Tape.Ar.length=U.length:=by have:=r1.1.1.2.2.1;omega
 have hlim:limQ p.Ap≤4096:=by unfold limQ;omega
 unfold tdoQ at h4;cases hst:tstagesQ p.Tape (limQ p.Ap) T H U V (rv p.P) (List.zip (pairQ p.An) z.1.ys) 0 [] with
 | inl g=>rw[hst] at h4;cases h4
 | inr kss=>
   rw[hst] at h4;have hk:=Qp9 hlim hm (λ_ h=>by cases h) hst;rw[Quj h4,Qex hk]
theorem Jae{p:Qf}{V:List Rat}:∀ {l:List Tri}{U E:List Rat},AC p V l U E->E.length=U.length
 | [],U,E,h=>by have h':E=U:=h;rw[h']
 | x::l,U,E,h=>by obtain⟨z,h1,h2⟩:=h;rw[Jae h2,Jb1 h1]
theorem Q0k(x:Ke)(b:Kb)(kk:Int)(hB0:Y9 x)(hb:Zh b):∃ n,Xt n x b kk=some true:=by
 refine⟨big,?_⟩;have hn:big≤big:=Nat.le_refl _;obtain⟨p,f,sizes,w⟩:=x;obtain⟨hB,hF,hS,hwB,_⟩:=hB0;simp only[] at hB hF hS hwB;unfold Xt Wn;simp only[jn_eq];obtain⟨v,e1,e2⟩:=Qd9 (p:=p) (a:=10) (b:=4) (k:=2) hn (by decide) (by decide);rw[show((10:Nat):Int)=10 from rfl,show((4:Nat):Int)=4 from rfl,show((2:Nat):Int)=2 from rfl] at e1;rw[e1,sbind];cases v
 case true=>rw[bifT,sbind,bifT,bifT,w44];rfl
 obtain⟨⟨t1,t2,t3⟩,⟨s1,s2,s3,s4,s5,s6⟩,p1⟩:=e2 rfl;rw[bifF];by_cases c0:(3:Int)<(p.An.B.length:Int)
 . rw[decide_eq_true c0,bifT,sbind,bifT,bifT,w44];rfl
 rw[decide_eq_false c0,bifF];obtain⟨v,e3,e4⟩:=Qg4 (f:=f) hn;rw[e3,sbind];cases v
 case true=>rw[bifT,sbind,bifT,bifT,w44];rfl
 obtain⟨f1,f2,f3⟩:=e4 rfl;obtain⟨v,e5,e6⟩:=K6 (l:=sizes) (many:=3) (k:=2) hn (by decide);rw[show((3:Nat):Int)=3 from rfl,show((2:Nat):Int)=2 from rfl] at e5;rw[bifF,e5,sbind];cases v
 case true=>rw[bifT,sbind,bifT,bifT,w44];rfl
 have z1:=e6 rfl;obtain⟨v,e7,e8⟩:=K6 (l:=w) (many:=6) (k:=2) hn (by decide);rw[show((6:Nat):Int)=6 from rfl,show((2:Nat):Int)=2 from rfl] at e7;rw[bifF,e7,sbind,sbind];cases v
 case true=>rw[bifT,bifT,w44];rfl
 have u1:=e8 rfl;rw[bifF];obtain⟨v,e9,e10⟩:=Qlb (b:=b) hn;rw[e9,sbind];cases v
 case true=>rw[bifT,w44];rfl
 obtain⟨bu,bv⟩:=e10 rfl;obtain⟨bu1,bv1,_⟩:=hb;rw[bifF];have hw:=(Qra (bits:=2000) hB (by decide) (e2 rfl)).mono (k:=900) (by decide);have hT:Fk 129 (tF f.T):=Vq (Fk_tF hF.1 f1) (by decide);have hY:FR 129 (f.Y.map tF):=Js (FR_tF hF.2.2.1 f3) (by decide);have hZ:FR 2 (sizes.map tF):=FR_tF hS z1;have hW:FR 129 (w.map tF):=Js (FR_tF hwB u1) (by decide);have hYr:FRr 129 f.Y:=Qw4 (Qrb hF.2.2.1 f3) (by decide);have hZr:FRr 2 sizes:=Qrb hS z1;have hTr:=Fk_wd hT;have f4:=f3.1;have u4:=u1.1;have z2:=z1.1;have hU:FR 129 (b.U.map tF):=Js (FR_tF bu1 bu) (by decide);have hV:FR 129 (b.V.map tF):=Js (FR_tF bv1 bv) (by decide);have bu4:=bu.1;have bv4:=bv.1;have hyl:(f.Y.map tF).length≤1000:=by simp;omega
 have lU:(b.U.map tF).length≤6:=by rw[List.length_map];omega
 have lV:(b.V.map tF).length≤6:=by rw[List.length_map];omega
 have lW:(w.map tF).length≤6:=by rw[List.length_map];omega
 rw[Qgk hn (by omega) (by omega) (by omega) (by have:=s3.1;omega) (by have:=s4.1;omega) (by have:=s5.1;omega) (λr hr=>by have:=(s6 r hr).1;omega) (by have:=p1.1;omega),sbind];have to:∀ x:Qe,Jt x=some (tF x):=λ_=>rfl;rw[to,sbind,Kx hn (by omega),sbind,Kx hn (by omega),sbind,Kx hn (by omega),Kx hn (by omega),Kx hn (by omega)];rw[show(⟨(tP p).Tape,(tP p).An,(tP p).P,2000⟩:Qf)=⟨tT p.Tape,tS p.An,p.P.map tF,2000⟩ from rfl];generalize (⟨tT p.Tape,tS p.An,p.P.map tF,2000⟩:Qf)=q at hw ⊢;have lZ:(sizes.map tF).length≤3:=by rw[List.length_map];omega
 have lY:(f.Y.map tF).length≤6:=by rw[List.length_map];omega
 clear f4 u4 z2 hTr hYr hZr;generalize f.Y.map tF=y at *;generalize b.U.map tF=U at *;generalize b.V.map tF=V at *;generalize w.map tF=W at *;generalize sizes.map tF=S at *;generalize tF f.T=t at *;obtain⟨a1,a2⟩:=Qjt (p:=q) (a:=129) (j:=2) (k:=900) (t:=t) (y:=y) (hs:=S) hn (by decide) (by decide) (by decide) (by decide) hw hT hY hyl hZ;rw[a1,sbind,sbind,sbind,sbind];have alo:=λ(h:Qs) (hl:h.Ao.length≤1000) (ht:∀ t∈h.Ao,FT 900 t) (hT:Fk 900 h.T) (hY:FR 900 h.Y) (hYl:h.Y.length≤1000)=>Qh4 (n:=big) (k:=900) (p:=q) (h:=h) (u:=U) (v:=V) hn (by decide) (by decide) hw hl ht hT hY hYl (Js hU (by decide)) (by omega) (Js hV (by decide));have back:=λ(h:Qs) (hl:h.Ao.length≤200) (ht:∀ t∈h.Ao,FT 900 t) (hT:Fk 900 h.T) (hY:FR 900 h.Y) (hYl:h.Y.length≤1000000)=>Qed (n:=big) (k:=900) (p:=q) (h:=h) (w:=W) (x:=kk) hn (by decide) (by decide) hw hl ht hT hY hYl (Js hW (by decide)) (by omega);have n1:=alo noH (Nat.zero_le _) (by intro t h;cases h) Quq (by intro t h;cases h) (Nat.zero_le _);have n2:=back noH (Nat.zero_le _) (by intro t h;cases h) Quq (by intro t h;cases h) (Nat.zero_le _);by_cases hm:mayQ q (rv y) (rv S)
 case neg=>
  rw[if_neg hm];simp only[];rw[n1.1,sbind,n2.1,sbind,show Qo ⟨2,0,0,0⟩ ⟨0,0,0,0⟩=false from Jw (by decide),Bool.not_false,bifT,bifT,w44];rfl
 rw[if_pos hm];cases hM:marchQ q (rv S) 0 (fv t) (rv y) [] with
 | inl g=>
   have hk:=a2 hm g hM;simp only[];rw[n1.1,sbind,n2.1,sbind,show Qo g ⟨0,0,0,0⟩=false by obtain⟨g1,g2,g3,g4⟩:=g;exact Jw hk,Bool.not_false,bifT,bifT,w44];rfl
 | inr z=>
   clear n1 n2;have qT:=qw_fv hT (by decide);have qY:=QR_rv hY (by decide);have qZ:=QR_rv hZ (by decide);obtain⟨q1,q2,q3,q4⟩:=Qr6 (a:=129) (j:=2) (by omega) qZ (Q8 qY (by decide)) hm.2.1 hM;rw[Q3] at q1 q4;have hts:=Qmi (K:=900) (m:=(rv y).length) (a:=129) (j:=2) (by decide) (by rw[Q3];omega) (by decide) (by omega) qZ (Q8 qY (by decide)) rfl (λ_ h=>by cases h) hM;rw[Q3] at hts;obtain⟨l,l1,l2,l3⟩:=Qmj hM;rw[List.nil_append] at l1;rw[←l1] at l3
   have hH:∀ t∈(⟨z.1.map toTry,toF z.2.1,toR z.2.2⟩:Qs).Ao,FT 900 t:=λt ht=>by obtain⟨u,hu,rfl⟩:=List.mem_map.1 ht;exact FT_TQ (hts u hu) (by omega)
   have hHl:(⟨z.1.map toTry,toF z.2.1,toR z.2.2⟩:Qs).Ao.length≤200:=by show(z.1.map toTry).length≤200;rw[List.length_map,q4];simp;omega
   obtain⟨⟨⟨i1,i2⟩,⟨i3,i4⟩,i5⟩,_⟩:=hm.1.1;have hi2:q.Tape.Au≤6:=i2;have hT2:Fk 900 (toF z.2.1):=Q6 (by omega);have hY2:FR 900 (toR z.2.2):=J6 (Q8 q2 (by decide));have hl2:(toR z.2.2).length≤1000:=by rw[Q2];omega
   obtain⟨b1,b2,b3⟩:=alo ⟨z.1.map toTry,toF z.2.1,toR z.2.2⟩ (by omega) hH hT2 hY2 hl2;obtain⟨c1,c2,c3⟩:=back ⟨z.1.map toTry,toF z.2.1,toR z.2.2⟩ hHl hH hT2 hY2 (by show(toR z.2.2).length≤_;omega);have l3':MCh q (fv t) (rv y) (tri ⟨z.1.map toTry,toF z.2.1,toR z.2.2⟩) z.2.1 z.2.2:=by rw[Qup];exact l3
   simp only[];generalize (⟨z.1.map toTry,toF z.2.1,toR z.2.2⟩:Qs)=H at *;rw[b1,sbind,c1,sbind,J2,Bool.not_true,bifF];rcases hN:nodesQ q H (rv U) (rv V) with e | r
   . have:=b2 e hN
     obtain⟨x1,x2,x3,x4⟩:=e;simp only[];rw[Jw this,Bool.not_false,bifT,bifT,w44];rfl
   rcases hS:sweepQ q H (rv W) (cutI kk) with e | g
   . have:=c2 e hS
     obtain⟨x1,x2,x3,x4⟩:=e;simp only[];rw[J2,Bool.not_true,bifF,Jw this,Bool.not_false,bifT,w44];rfl
   obtain⟨d1,d2,d3⟩:=b3 r hN;obtain⟨g1,g2,g3,g4⟩:=c3 g hS;have hsw:SwR q H (rv W):=by refine Classical.byContradiction λhno=>?_;unfold sweepQ at hS;rw[if_neg hno] at hS;cases hS
   have hal:AlR q H∧(rv U).length=H.Y.length∧(rv V).length=q.P.length:=by refine Classical.byContradiction λhno=>?_;unfold nodesQ at hN;rw[if_neg hno] at hN;cases hN
   unfold sweepQ at hS;rw[if_pos hsw,Qns l3' (cut_b kk).1] at hS;unfold nodesQ at hN;rw[if_pos hal] at hN;have hac:=AC_of hN;rw[Jaa] at hac;have key:=Qqa (p:=q) (V:=rv V) (U:=rv U) (A:=tri H) (g:=g) (λT H Y W b h=>Qy3 h) (tri H).length (rv W) (List.replicate q.P.length 0) (r.getLastD (rv U)) (Nat.le_refl _) (by simp) (by rw[List.take_length];exact hac) hS;rw[Wa (a:=List.replicate q.P.length 0),Qeb,Rat.add_zero] at key;have eL:=Jae hac;obtain⟨_,_,h3,h4⟩:=hsw;obtain⟨_,h5,h6⟩:=hal;have hpar:=hm.1.2.2;rw[Q3] at h4 h5 h6;rw[Q3] at eL;have bnd:∀ i:Nat,qw (psum (rv W) (r.getLastD (rv U)) i)≤1+i*1801:=by
    intro i
    induction i with
    | zero=>show qw 0≤_;rw[Zn];omega
    | succ i ih=>
      have e:=Yl ih (X3 (Vy (i:=i) (QR_rv (Js hW (show 129≤900 by decide)) (by decide)) (by decide)) (Vy (i:=i) d1 (by decide)));rw[Qea];omega
   have hD6:q.Tape.Au.toNat≤6:=by omega
   have hq:qw (psum (rv W) (r.getLastD (rv U)) q.Tape.Au.toNat)≤1+6*1801:=Nat.le_trans (bnd _) (Nat.add_le_add_left (Nat.mul_le_mul_right _ hD6) 1);simp only[];rw[J2,Bool.not_true,bifF,bifF,Qlg (k:=900) hn (by decide) (by decide) (Js hW (by decide)) (J6 d1) (by omega),sbind,Qy5 (k:=900) hn (by decide) (by decide) (J6 g1) (J6 (Q8 g2 (by decide))) (Js hU (by decide)) (Js hV (by decide)) (by rw[Q2];omega) (by rw[Q2];omega) (by rw[Q2];omega) (by rw[Q2];omega),sbind,Q2,Q2,Q2,if_pos (by omega),Kw,Kw,Kw];simp only[];rw[show W.length=q.Tape.Au.toNat by omega,show g.1.length=q.Tape.Au.toNat by omega,show g.2.length=q.Tape.Ay.toNat by omega,←key,bifT,bifT,Qcv (k:=1+6*1801) hn (by decide) (by decide) (Q6 hq) (Q6 hq),sbind,decide_eq_true rfl,bifT,w44];rfl
end Go.Proofs.YtkkfedionkhgnaaGreatDoor
