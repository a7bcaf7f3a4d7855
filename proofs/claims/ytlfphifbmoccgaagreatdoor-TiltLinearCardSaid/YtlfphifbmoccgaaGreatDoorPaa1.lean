import Derived.KernelRfl
import Derived.Test.YtlfphifbmoccgaaGreatDoorMod
import Derived.Test.YtlfphifbmoccgaaGreatDoorModa
import Derived.Test.YtlfphifbmoccgaaGreatDoorModaa
import Derived.Test.YtlfphifbmoccgaaGreatDoorP1
import Derived.Test.YtlfphifbmoccgaaGreatDoorP2
import Derived.Test.YtlfphifbmoccgaaGreatDoorPa1
namespace Go.Proofs.YtlfphifbmoccgaaGreatDoor
open Go Go.RowKit
theorem Q87:∀ {a b:List Rat},a.length=b.length->List.zipWith (λx y=>x+0*y) a b=a
 | [],[],_=>rfl
 | [],_::_,h=>by simp at h
 | _::_,[],h=>by simp at h
 | x::a,y::b,h=>by rw[List.zipWith_cons_cons,Q87 (by simpa using h)];congr 1;grind
theorem Q69{Y l:List Rat}(h:Y.length=l.length):addQ Y (scaleQ 0 l)=Y:=by unfold addQ scaleQ;rw[List.zipWith_map_right];exact Q87 h
theorem Q88{Y c:List Rat}{kss:List (List Rat)}(h:∀ a∈kss,a.length=Y.length):fromQ 0 Y c kss=Y:=by unfold fromQ towQ;exact Q69 (Qfj h (by simp)).symm
set_option maxRecDepth 100000
theorem Jal{t:Qm}{s:Qt}{lim:Int}{T:Rat}{P:List Rat}{yss:List (List Rat)}{U V:List Rat}{w}(hlim:lim≤4096)(hm:t.Outs.length=U.length)(h:tdoQ t s lim T 0 U V P yss=.inr w):w.1=U:=by
 unfold tdoQ at h;cases r1:tstagesQ t lim T 0 U V P (List.zip (pairQ s) yss) 0 [] with
 | inl e=>rw[r1] at h;cases h
 | inr z=>
   rw[r1] at h;simp only[] at h;rw[Qkt h];exact Q88 (Qm3 hlim hm (λ_ h=>by cases h) r1)
theorem Q89{p:Qh}{T:Rat}{Y U V:List Rat}{z}(h:tiltQ p T 0 Y U V=.inr z):z.2.1=U:=by obtain⟨a1,a2,a3,a4⟩:=Qku h;have hd:=(Qba a1).1.1.1;have hl:=(Qba a1).2.1;exact Jal (by unfold limQ;omega) (by have:=hd.2.2.1;omega) a4
set_option maxRecDepth 100000
theorem w34:Q1 big=some true:=by kernel_rfl
theorem Q0e(p:Qx)(f:J9)(b:Vr)(c:Qc)(hB:Vv p)(hF:Zh f)(hb:Qb4 b)(hc:J1 c):∃ n,Yp n p f b c=some true:=by
 refine⟨big,?_⟩;have hn:big≤big:=Nat.le_refl _;unfold Yp;simp only[jn_eq];obtain⟨v,e1,e2⟩:=Qhs (p:=p) (a:=10) (b:=4) (k:=2) hn (by decide) (by decide);rw[show((10:Nat):Int)=10 from rfl,show((4:Nat):Int)=4 from rfl,show((2:Nat):Int)=2 from rfl] at e1;rw[e1,sbind];cases v
 case true=>rw[bifT,bifT,w34];rfl
 obtain⟨⟨t1,t2,t3⟩,⟨s1,s2,s3,s4,s5,s6⟩,p1⟩:=e2 rfl;rw[bifF];by_cases c1:(3:Int)<(p.Scheme.B.length:Int)
 . rw[decide_eq_true c1,bifT,bifT,w34];rfl
 rw[decide_eq_false c1,bifF];obtain⟨v,e3,e4⟩:=Ql0 (f:=f) hn;rw[e3,sbind];cases v
 case true=>rw[bifT,bifT,w34];rfl
 obtain⟨f1,f2,f3⟩:=e4 rfl;obtain⟨v,e5,e6⟩:=Qe0 (b:=b.a0) hn;rw[bifF,e5,sbind];cases v
 case true=>rw[bifT,bifT,w34];rfl
 obtain⟨u1,v1⟩:=e6 rfl;obtain⟨v,e7,e8⟩:=Qe0 (b:=b.a1) hn;rw[bifF,e7,sbind];cases v
 case true=>rw[bifT,bifT,w34];rfl
 obtain⟨u2,v2⟩:=e8 rfl;have e9:=Qb0 c 2;rw[show((2:Nat):Int)=2 from rfl] at e9;rw[bifF,e9,sbind];by_cases hcl:c.N.length≤2∧c.D.length≤2
 case neg=>rw[decide_eq_false hcl,Bool.not_false,bifT,w34];rfl
 rw[decide_eq_true hcl,Bool.not_true,bifF];obtain⟨⟨bu1,bv1,_⟩,⟨bu2,bv2,_⟩,_⟩:=hb;have hw:=Qvp (bits:=1500) hB (by decide) (e2 rfl);have hT:Fk 129 (tF f.T):=Vg (Fk_tF hF.1 f1) (by decide);have hH:Fk 129 (tF f.H):=Vg (Fk_tF hF.2.1 f2) (by decide);have hY:FR 129 (f.Y.map tF):=J6 (FR_tF hF.2.2.1 f3) (by decide);have h0:Fk 129 (toF 0):=Jp (by rw[Z1];decide);have hcF:Fk 2 (tF c):=Fk_tF hc hcl;have hU1:=FR_tF bu1 u1;have hU2:=FR_tF bu2 u2;have hV1:=FR_tF bv1 v1;have hV2:=FR_tF bv2 v2;have lU1:(b.a0.U.map tF).length≤1000:=by have:=u1.1;rw[List.length_map];omega
 have lV1:(b.a0.V.map tF).length≤1000:=by have:=v1.1;rw[List.length_map];omega
 have to:∀ x:Qc,Jf x=some (tF x):=λ_=>rfl;rw[Qj7 hn (by omega) (by omega) (by omega) (by have:=s3.1;omega) (by have:=s4.1;omega) (by have:=s5.1;omega) (λr hr=>by have:=(s6 r hr).1;omega) (by have:=p1.1;omega),sbind,to,sbind,to,sbind,to,sbind,Kd hn (by have:=f3.1;omega),sbind,Kd hn (by have:=u1.1;omega),sbind,Kd hn (by have:=u2.1;omega),Kd hn (by have:=v1.1;omega),Kd hn (by have:=v2.1;omega)];rw[show(⟨(tP p).Tape,(tP p).Scheme,(tP p).P,1500⟩:Qh)=⟨tT p.Tape,tS p.Scheme,p.P.map tF,1500⟩ from rfl];generalize (⟨tT p.Tape,tS p.Scheme,p.P.map tF,1500⟩:Qh)=q at hw ⊢;generalize f.Y.map tF=y at *;generalize b.a0.U.map tF=U1 at *;generalize b.a1.U.map tF=U2 at *;generalize b.a0.V.map tF=V1 at *;generalize b.a1.V.map tF=V2 at *;generalize tF f.T=t at *;generalize tF f.H=h at *;generalize tF c=k at *;obtain⟨ru,g1,_,g2⟩:=Qon (n:=big) hn hcF (by decide) (by decide) hU1 hU2 lU1;obtain⟨rw_,g3,_,g4⟩:=Qon (n:=big) hn hcF (by decide) (by decide) hV1 hV2 lV1;obtain⟨d1,x1,z1⟩:=Qb1 (t:=t) (h:=h) (y:=y) (u:=U1) (v:=V1) hn (by decide) (by decide) hw hT hH hY (J6 hU1 (by decide)) (J6 hV1 (by decide));obtain⟨d2,x2,z2⟩:=Qb1 (t:=t) (h:=h) (y:=y) (u:=U2) (v:=V2) hn (by decide) (by decide) hw hT hH hY (J6 hU2 (by decide)) (J6 hV2 (by decide))
 have key:∀(U3 V3:List Qa) (ok yes:Bool),FR 129 U3->FR 129 V3->(ok=true->U1.length=U2.length∧U3=toR (linQ (fv k) (rv U1) (rv U2)))->(yes=true->V1.length=V2.length∧V3=toR (linQ (fv k) (rv V1) (rv V2))) →
  ((V9 big q t h y U1 V1).bind λr80=>(V9 big q t h y U2 V2).bind λr86=>(V9 big q t h y U3 V3).bind λr88=>(Ju big 0).bind λr90=>(V9 big q t r90 y U3 V3).bind λr92=>
    (bif Qo r92.2 ⟨0,0,0,0⟩ then (Vk big r92.1.Next U3).bind λr99=>bif !r99 then some false else
     (bif !ok then (bif true then (Q1 big).bind λr104=>some r104 else (Ke big k r80.1.Next).bind λr110=>(K8 big [r110,r86.1.Next]).bind λr112=>bif r112.2 then (Vk big r88.1.Next r112.1).bind λr121=>bif r121 then (Q1 big).bind λr123=>some r123 else some false else some false)
      else bif !yes then (bif true then (Q1 big).bind λr104=>some r104 else (Ke big k r80.1.Next).bind λr110=>(K8 big [r110,r86.1.Next]).bind λr112=>bif r112.2 then (Vk big r88.1.Next r112.1).bind λr121=>bif r121 then (Q1 big).bind λr123=>some r123 else some false else some false)
      else bif !Qo r80.2 ⟨0,0,0,0⟩ then (bif true then (Q1 big).bind λr104=>some r104 else (Ke big k r80.1.Next).bind λr110=>(K8 big [r110,r86.1.Next]).bind λr112=>bif r112.2 then (Vk big r88.1.Next r112.1).bind λr121=>bif r121 then (Q1 big).bind λr123=>some r123 else some false else some false)
      else bif !Qo r86.2 ⟨0,0,0,0⟩ then (bif true then (Q1 big).bind λr104=>some r104 else (Ke big k r80.1.Next).bind λr110=>(K8 big [r110,r86.1.Next]).bind λr112=>bif r112.2 then (Vk big r88.1.Next r112.1).bind λr121=>bif r121 then (Q1 big).bind λr123=>some r123 else some false else some false)
      else bif !Qo r88.2 ⟨0,0,0,0⟩ then (Q1 big).bind λr104=>some r104 else (Ke big k r80.1.Next).bind λr110=>(K8 big [r110,r86.1.Next]).bind λr112=>bif r112.2 then (Vk big r88.1.Next r112.1).bind λr121=>bif r121 then (Q1 big).bind λr123=>some r123 else some false else some false)
     else bif false then some false else
      (bif !ok then (bif true then (Q1 big).bind λr104=>some r104 else (Ke big k r80.1.Next).bind λr110=>(K8 big [r110,r86.1.Next]).bind λr112=>bif r112.2 then (Vk big r88.1.Next r112.1).bind λr121=>bif r121 then (Q1 big).bind λr123=>some r123 else some false else some false)
       else bif !yes then (bif true then (Q1 big).bind λr104=>some r104 else (Ke big k r80.1.Next).bind λr110=>(K8 big [r110,r86.1.Next]).bind λr112=>bif r112.2 then (Vk big r88.1.Next r112.1).bind λr121=>bif r121 then (Q1 big).bind λr123=>some r123 else some false else some false)
       else bif !Qo r80.2 ⟨0,0,0,0⟩ then (bif true then (Q1 big).bind λr104=>some r104 else (Ke big k r80.1.Next).bind λr110=>(K8 big [r110,r86.1.Next]).bind λr112=>bif r112.2 then (Vk big r88.1.Next r112.1).bind λr121=>bif r121 then (Q1 big).bind λr123=>some r123 else some false else some false)
       else bif !Qo r86.2 ⟨0,0,0,0⟩ then (bif true then (Q1 big).bind λr104=>some r104 else (Ke big k r80.1.Next).bind λr110=>(K8 big [r110,r86.1.Next]).bind λr112=>bif r112.2 then (Vk big r88.1.Next r112.1).bind λr121=>bif r121 then (Q1 big).bind λr123=>some r123 else some false else some false)
       else bif !Qo r88.2 ⟨0,0,0,0⟩ then (Q1 big).bind λr104=>some r104 else (Ke big k r80.1.Next).bind λr110=>(K8 big [r110,r86.1.Next]).bind λr112=>bif r112.2 then (Vk big r88.1.Next r112.1).bind λr121=>bif r121 then (Q1 big).bind λr123=>some r123 else some false else some false)))=some true:=by
  intro U3 V3 ok yes hU3 hV3 hok hyes;obtain⟨d3,x3,z3⟩:=Qb1 (t:=t) (h:=h) (y:=y) (u:=U3) (v:=V3) hn (by decide) (by decide) hw hT hH hY hU3 hV3;obtain⟨d4,x4,z4⟩:=Qb1 (t:=t) (h:=toF 0) (y:=y) (u:=U3) (v:=V3) hn (by decide) (by decide) hw hT h0 hY hU3 hV3;rw[Q5] at d4 x4 z4;rw[d1,sbind,d2,sbind,d3,sbind,Wb hn,sbind,d4,sbind];have hz:∀(K:Option Bool),K=some true->(bif Qo (match tiltQ q (fv t) 0 (rv y) (rv U3) (rv V3) with | .inl f=>(noMv,f) | .inr z=>(⟨toR z.2.1,toR z.2.2,toM z.1⟩,⟨0,0,0,0⟩)).2 ⟨0,0,0,0⟩ then (Vk big (match tiltQ q (fv t) 0 (rv y) (rv U3) (rv V3) with | .inl f=>(noMv,f) | .inr z=>(⟨toR z.2.1,toR z.2.2,toM z.1⟩,⟨0,0,0,0⟩)).1.Next U3).bind λr99=>bif !r99 then some false else K else bif false then some false else K)=some true:=by
   intro K hK;cases hs:tiltQ q (fv t) 0 (rv y) (rv U3) (rv V3) with
   | inl e=>
     have:=x4 e hs;obtain⟨a1,a2,a3,a4⟩:=e;simp only[];rw[Kv this,bifF,bifF];exact hK
   | inr z=>
     obtain⟨_,q1,_⟩:=z4 z hs;simp only[];rw[Ku,bifT,Qcz (k:=129) hn (by decide) (by decide) (Kl q1) hU3,sbind,Ky,Q89 hs,decide_eq_true rfl,Bool.not_true,bifF];exact hK
  refine hz _ ?_;cases ok
  case false=>rw[Bool.not_false,bifT,bifT,w34];rfl
  rw[Bool.not_true,bifF];cases yes
  case false=>rw[Bool.not_false,bifT,bifT,w34];rfl
  rw[Bool.not_true,bifF];obtain⟨o1,o2⟩:=hok rfl;obtain⟨o3,o4⟩:=hyes rfl;cases hs1:tiltQ q (fv t) (fv h) (rv y) (rv U1) (rv V1) with
  | inl e=>
    have:=x1 e hs1;obtain⟨a1,a2,a3,a4⟩:=e;simp only[];rw[Kv this,Bool.not_false,bifT,bifT,w34];rfl
  | inr w1=>
  cases hs2:tiltQ q (fv t) (fv h) (rv y) (rv U2) (rv V2) with
  | inl e=>
    have:=x2 e hs2;obtain⟨a1,a2,a3,a4⟩:=e;simp only[];rw[Ku,Bool.not_true,bifF,Kv this,Bool.not_false,bifT,bifT,w34];rfl
  | inr w2=>
  cases hs3:tiltQ q (fv t) (fv h) (rv y) (rv U3) (rv V3) with
  | inl e=>
    have:=x3 e hs3;obtain⟨a1,a2,a3,a4⟩:=e;simp only[];rw[Ku,Bool.not_true,bifF,bifF,Kv this,Bool.not_false,bifT,w34];rfl
  | inr w3=>
  obtain⟨_,b1,b2,_⟩:=z1 w1 hs1;obtain⟨_,b3,b4,_⟩:=z2 w2 hs2;obtain⟨_,b5,b6,_⟩:=z3 w3 hs3;have hl:w3.2.1=linQ (fv k) w1.2.1 w2.2.1:=by rw[o2,o4,Ky,Ky] at hs3;exact Q38 hs1 hs2 hs3
  simp only[];obtain⟨dd1,_⟩:=(Qba (Qku hs1).1)
  have hyl:y.length≤6:=by have h1:=dd1.1.1.1;have h2:=(Qba (Qku hs1).1).2.1;rw[Jb] at h2;omega
  obtain⟨rr,r1,r2,r3⟩:=Qon (n:=big) hn hcF (k:=129) (by decide) (by decide) (Kl b1) (Kl b3) (by rw[Q7];omega);rw[Q7,Q7,if_pos (by omega),Ky,Ky] at r3;have q3:QR 262 (linQ (fv k) w1.2.1 w2.2.1):=by rw[←hl];exact Jo b5 (by decide)
  rw[Ku,Bool.not_true,bifF,bifF,bifF,r1,sbind,r3,sbind];simp only[];rw[bifT,Qcz (k:=262) hn (by decide) (by decide) (Kl (Jo b5 (by decide))) (Kl q3),sbind,Ky,Ky,decide_eq_true hl,bifT,w34];rfl
 have bl:∀ {A B:List Qa},FR 2 A->FR 2 B->FR 129 (toR (linQ (fv k) (rv A) (rv B))):=λhA hB=>by rw[←Q0d];exact Kl (Jo (Qjw (Qgy (qw_fv hcF (by decide)) (QR_rv hA (by decide))) (QR_rv hB (by decide))) (by decide))
 simp only[sbind];rw[g1,sbind,g2,sbind,g3,sbind,g4,sbind];refine(key _ _ _ _ ?_ ?_ ?_ ?_)
 . split
   . exact bl hU1 hU2
   . intro _ hx;cases hx
 . split
   . exact bl hV1 hV2
   . intro _ hx;cases hx
 . intro ho
   split at ho
   . rename_i hl
     rw[if_pos hl];exact⟨hl,rfl⟩
   . cases ho
 . intro ho
   split at ho
   . rename_i hl
     rw[if_pos hl];exact⟨hl,rfl⟩
   . cases ho
end Go.Proofs.YtlfphifbmoccgaaGreatDoor
