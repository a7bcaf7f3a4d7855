import Derived.KernelRfl
import Derived.Test.YtlfphifbmoccgaaGreatDoorMod
import Derived.Test.YtlfphifbmoccgaaGreatDoorModa
import Derived.Test.YtlfphifbmoccgaaGreatDoorP1
import Derived.Test.YtlfphifbmoccgaaGreatDoorP2
namespace Go.Proofs.YtlfphifbmoccgaaGreatDoor
open Go Go.RowKit
set_option maxRecDepth 100000
theorem Q0d{c:Rat}{a b:List Rat}:addQ (scaleQ c a) b=linQ c a b:=by unfold addQ scaleQ linQ;rw[List.zipWith_map_left]
theorem Jd5{c e t a b:Rat}:e*t*(c*a+b)=c*(e*t*a)+e*t*b:=by grind
theorem Jd6{c a b x y:Rat}:c*a+x+(c*b+y)=c*(a+b)+(x+y):=by grind
theorem Jd7{c a b x y:Rat}:c*a+x - (c*b+y)=c*(a - b)+(x - y):=by grind
theorem Jd8{c a b x y u w:Rat}:(c*a+x)*u+w*(c*b+y)=c*(a*u+w*b)+(x*u+w*y):=by grind
theorem Jd9{c a b x y q w:Rat}:(c*a+x - q*(c*b+y))*w=c*((a - q*b)*w)+(x - q*y)*w:=by grind
theorem Jby{c:Rat}:(0:Rat)=c*0+0:=by grind
theorem Q85{c:Rat}{x:Qs}{q T1 T2:Rat}{Y1 Y2 P1 P2 vs d1 d2:List Rat}(hY:Y2.length=Y1.length)(hP:P2.length=P1.length)(hd:d2.length=d1.length):
 slopeQ x q (c*T1+T2) (linQ c Y1 Y2) (linQ c P1 P2) vs (linQ c d1 d2)=c*slopeQ x q T1 Y1 P1 vs d1+slopeQ x q T2 Y2 P2 vs d2:=by
 unfold slopeQ;rw[Qin hY,Qin hP,Qin hd,Qin hd];generalize turnQ (vs.getD x.A.toNat 0) q x.B=tq;generalize d1.getD x.A.toNat 0=a1;generalize d2.getD x.A.toNat 0=a2;generalize d1.getD x.B.toNat 0=b1;generalize d2.getD x.B.toNat 0=b2;generalize vs.getD x.A.toNat 0=va;generalize vs.getD x.B.toNat 0=vb;generalize Y1.getD x.A.toNat 0=y1;generalize Y2.getD x.A.toNat 0=y2;generalize P1.getD x.A.toNat 0=p1;generalize P2.getD x.A.toNat 0=p2;rw[Rat.div_def,Rat.div_def,Rat.div_def];generalize vb⁻¹=wb;generalize (x.B:Rat)=e;split;exact Q34;split;exact Jd5;split;exact Jd6;split;exact Jd7;split;exact Jd8;split;exact Jd9;split;exact Jby
 split;rfl;split;rfl;rfl
theorem Jak{c x y:Rat}{a b:List Rat}(h:b.length=a.length):linQ c a b++[c*x+y]=linQ c (a++[x]) (b++[y]):=by unfold linQ;rw[List.zipWith_append h.symm];rfl
theorem Q35{lim:Int}{T:Rat}{Y P:List Rat}{c T1 T2:Rat}{Y1 Y2 P1 P2:List Rat}(hY:Y2.length=Y1.length)(hP:P2.length=P1.length):∀ {cd:List Qs}{i:Nat}{vs d1 d2:List Rat}{l1 l2 l3},d2.length=d1.length →
 prunQ lim T Y P T1 Y1 P1 cd i vs d1=.inr l1->prunQ lim T Y P T2 Y2 P2 cd i vs d2=.inr l2->prunQ lim T Y P (c*T1+T2) (linQ c Y1 Y2) (linQ c P1 P2) cd i vs (linQ c d1 d2)=.inr l3->l3.2=linQ c l1.2 l2.2∧l2.2.length=l1.2.length
 | [],i,vs,d1,d2,l1,l2,l3,hd,h1,h2,h3=>by simp only[prunQ] at h1 h2 h3;cases h1;cases h2;cases h3;exact⟨rfl,hd⟩
 | x::cd,i,vs,d1,d2,l1,l2,l3,hd,h1,h2,h3=>by
   simp only[prunQ] at h1 h2 h3;cases hq:opQ x T Y P vs with
   | none=>rw[hq] at h1;cases h1
   | some q=>
     rw[hq] at h1 h2 h3;simp only[] at h1 h2 h3;rw[Q85 hY hP hd] at h3;by_cases hf:(qz q:Int)≤lim
     case neg=>rw[if_neg hf] at h1;cases h1
     rw[if_pos hf] at h1 h2 h3;split at h1
     case isFalse=>cases h1
     split at h2
     case isFalse=>cases h2
     split at h3
     case isFalse=>cases h3
     rw[Jak hd] at h3;exact Q35 hY hP (by simp;exact hd) h1 h2 h3
theorem Q36{c:Rat}{a b:List Rat}(h:b.length=a.length):∀(l:List Int),(l.map λo=>(linQ c a b).getD o.toNat 0)=linQ c (l.map λo=>a.getD o.toNat 0) (l.map λo=>b.getD o.toNat 0)
 | []=>rfl
 | o::l=>by have:=Q36 (c:=c) h l;unfold linQ at this ⊢;simp only[List.map_cons,List.zipWith_cons_cons];rw[this];congr 1;exact Qin h
theorem Q68{t:Qm}{lim:Int}{T:Rat}{Y P:List Rat}{c T1 T2:Rat}{Y1 Y2 P1 P2:List Rat}{l1 l2 l3}(hY:Y2.length=Y1.length)(hP:P2.length=P1.length)
 (h1:pfieldQ t lim T Y P T1 Y1 P1=.inr l1) (h2:pfieldQ t lim T Y P T2 Y2 P2=.inr l2) (h3:pfieldQ t lim T Y P (c*T1+T2) (linQ c Y1 Y2) (linQ c P1 P2)=.inr l3):l3.2=linQ c l1.2 l2.2:=by
 unfold pfieldQ at h1 h2 h3;cases r1:prunQ lim T Y P T1 Y1 P1 t.Code 0 [] [] with
 | inl e=>rw[r1] at h1;cases h1
 | inr w1=>
 cases r2:prunQ lim T Y P T2 Y2 P2 t.Code 0 [] [] with
 | inl e=>rw[r2] at h2;cases h2
 | inr w2=>
 cases r3:prunQ lim T Y P (c*T1+T2) (linQ c Y1 Y2) (linQ c P1 P2) t.Code 0 [] [] with
 | inl e=>rw[r3] at h3;cases h3
 | inr w3=>
 rw[r1] at h1;rw[r2] at h2;rw[r3] at h3;cases h1;cases h2;cases h3;obtain⟨e1,e2⟩:=Q35 (c:=c) (d1:=[]) (d2:=[]) hY hP rfl r1 r2 r3;show(t.Outs.map λo=>w3.2.getD o.toNat 0)=_;rw[e1,Q36 e2]
theorem Jbz{c H:Rat}{m:Nat}{cs:List Rat}{l1 l2:List (List Rat)}(h:l2.length=l1.length)(h1:∀ a∈l1,a.length=m)(h2:∀ a∈l2,a.length=m):towQ H m cs (linR c l1 l2)=linQ c (towQ H m cs l1) (towQ H m cs l2):=by unfold towQ;rw[←Qu4,←Q0c h h1 h2 (by simp) (by simp),←Qio]
theorem Q37{c H:Rat}{U1 U2 cs:List Rat}{l1 l2:List (List Rat)}(hU:U2.length=U1.length)(h:l2.length=l1.length)(h1:∀ a∈l1,a.length=U1.length)(h2:∀ a∈l2,a.length=U1.length):fromQ H (linQ c U1 U2) cs (linR c l1 l2)=linQ c (fromQ H U1 cs l1) (fromQ H U2 cs l2):=by unfold fromQ;rw[Qvo hU,Jbz h h1 h2,Q0b hU (Qmn h1) (by rw[Qmn h2]),hU]
theorem Q86{c:Rat}{a b:List (List Rat)}{x y:List Rat}(h:b.length=a.length):linR c a b++[linQ c x y]=linR c (a++[x]) (b++[y]):=by unfold linR;rw[List.zipWith_append h.symm];rfl
theorem Qwn{t:Qm}{lim:Int}{T H:Rat}{P:List Rat}{c:Rat}{U1 U2 V1 V2:List Rat}(hlim:lim≤4096)(hm:t.Outs.length=U1.length)(hU:U2.length=U1.length)(hV:V2.length=V1.length):∀ {r:List ((List Rat×Rat)×List Rat)}{i:Nat}{k1 k2 z1 z2 z3},k2.length=k1.length->(∀ a∈k1,a.length=U1.length)->(∀ a∈k2,a.length=U1.length) →
 tstagesQ t lim T H U1 V1 P r i k1=.inr z1->tstagesQ t lim T H U2 V2 P r i k2=.inr z2->tstagesQ t lim T H (linQ c U1 U2) (linQ c V1 V2) P r i (linR c k1 k2)=.inr z3->z3=linR c z1 z2∧z2.length=z1.length∧(∀ a∈z1,a.length=U1.length)∧∀ a∈z2,a.length=U1.length
 | [],i,k1,k2,z1,z2,z3,hk,g1,g2,h1,h2,h3=>by simp only[tstagesQ] at h1 h2 h3;cases h1;cases h2;cases h3;exact⟨rfl,hk,g1,g2⟩
 | x::r,i,k1,k2,z1,z2,z3,hk,g1,g2,h1,h2,h3=>by
   simp only[tstagesQ] at h1 h2 h3
   have one:∀ {U V:List Rat}{k:List (List Rat)}{w},tstageQ t lim T H U V P x.2 x.1.1 x.1.2 i k=.inr w->∃ q,pfieldQ t lim (T+H*x.1.2) x.2 P 0 (fromQ H U x.1.1 k) V=.inr q∧w=q.2:=fun {U V k w} h=>by
    unfold tstageQ at h;cases hf:fitQ lim (fromQ H U x.1.1 k) 0 with
    | some j=>rw[hf] at h;cases h
    | none=>
      rw[hf] at h;simp only[] at h;cases hp:pfieldQ t lim (T+H*x.1.2) x.2 P 0 (fromQ H U x.1.1 k) V with
      | inl e=>rw[hp] at h;cases h
      | inr q=>rw[hp] at h;cases h;exact⟨q,rfl,rfl⟩
   cases s1:tstageQ t lim T H U1 V1 P x.2 x.1.1 x.1.2 i k1 with
   | inl f=>rw[s1] at h1;cases h1
   | inr w1=>
   cases s2:tstageQ t lim T H U2 V2 P x.2 x.1.1 x.1.2 i k2 with
   | inl f=>rw[s2] at h2;cases h2
   | inr w2=>
   cases s3:tstageQ t lim T H (linQ c U1 U2) (linQ c V1 V2) P x.2 x.1.1 x.1.2 i (linR c k1 k2) with
   | inl f=>rw[s3] at h3;cases h3
   | inr w3=>
   rw[s1] at h1;rw[s2] at h2;rw[s3] at h3;obtain⟨q1,p1,e1⟩:=one s1;obtain⟨q2,p2,e2⟩:=one s2;obtain⟨q3,p3,e3⟩:=one s3;have hl1:=Qg0 (H:=H) (Y:=U1) (c:=x.1.1) (kss:=k1) g1;have hl2:=Qg0 (H:=H) (Y:=U2) (c:=x.1.1) (kss:=k2) (by rw[hU];exact g2);rw[Q37 hU hk g1 g2] at p3;have p3':pfieldQ t lim (T+H*x.1.2) x.2 P (c*0+0) (linQ c (fromQ H U1 x.1.1 k1) (fromQ H U2 x.1.1 k2)) (linQ c V1 V2)=.inr q3:=by rw[show c*0+0=(0:Rat) by grind];exact p3
   have e4:=Q68 (c:=c) (by rw[hl1,hl2,hU]) hV p1 p2 p3';have b1:=(Qoe hlim p1).2.1;have b2:=(Qoe hlim p2).2.1;rw[e3,e4] at h3;rw[e1] at h1;rw[e2] at h2;simp only[] at h1 h2 h3;rw[Q86 hk] at h3
   exact Qwn hlim hm hU hV (by simp;exact hk) (λa ha=>by
    rcases List.mem_append.1 ha with ha | ha;exact g1 a ha;rw[List.mem_singleton.1 ha];omega) (λa ha=>by
    rcases List.mem_append.1 ha with ha | ha;exact g2 a ha
    rw[List.mem_singleton.1 ha];omega) h1 h2 h3
theorem Jb0{t:Qm}{s:Qt}{lim:Int}{T H:Rat}{P:List Rat}{yss:List (List Rat)}{c:Rat}{U1 U2 V1 V2:List Rat}{w1 w2 w3}(hlim:lim≤4096)(hm:t.Outs.length=U1.length)(hU:U2.length=U1.length)(hV:V2.length=V1.length)
 (h1:tdoQ t s lim T H U1 V1 P yss=.inr w1) (h2:tdoQ t s lim T H U2 V2 P yss=.inr w2) (h3:tdoQ t s lim T H (linQ c U1 U2) (linQ c V1 V2) P yss=.inr w3):w3.1=linQ c w1.1 w2.1:=by
 unfold tdoQ at h1 h2 h3;cases r1:tstagesQ t lim T H U1 V1 P (List.zip (pairQ s) yss) 0 [] with
 | inl e=>rw[r1] at h1;cases h1
 | inr z1=>
 cases r2:tstagesQ t lim T H U2 V2 P (List.zip (pairQ s) yss) 0 [] with
 | inl e=>rw[r2] at h2;cases h2
 | inr z2=>
 cases r3:tstagesQ t lim T H (linQ c U1 U2) (linQ c V1 V2) P (List.zip (pairQ s) yss) 0 [] with
 | inl e=>rw[r3] at h3;cases h3
 | inr z3=>
 rw[r1] at h1;rw[r2] at h2;rw[r3] at h3;simp only[] at h1 h2 h3;obtain⟨e1,e2,e3,e4⟩:=Qwn (c:=c) (k1:=[]) (k2:=[]) hlim hm hU hV rfl (λ_ h=>by cases h) (λ_ h=>by cases h) r1 r2 r3;rw[Qkt h1,Qkt h2,Qkt h3,e1,Q37 hU e2 e3 e4]
theorem Q38{p:Qh}{T H c:Rat}{Y U1 U2 V1 V2:List Rat}{z1 z2 z3}(h1:tiltQ p T H Y U1 V1=.inr z1)(h2:tiltQ p T H Y U2 V2=.inr z2)(h3:tiltQ p T H Y (linQ c U1 U2) (linQ c V1 V2)=.inr z3):z3.2.1=linQ c z1.2.1 z2.2.1:=by
 obtain⟨a1,a2,a3,a4⟩:=Qku h1;obtain⟨b1,b2,b3,b4⟩:=Qku h2;obtain⟨c1,c2,c3,c4⟩:=Qku h3;have e1:z2.1=z1.1:=by rw[a1] at b1;exact(Sum.inr.inj b1).symm
 have e2:z3.1=z1.1:=by rw[a1] at c1;exact(Sum.inr.inj c1).symm
 rw[e1] at b4;rw[e2] at c4;have hd:=(Qba a1).1.1.1;have hl:=(Qba a1).2.1;exact Jb0 (by unfold limQ;omega) (by have:=hd.2.2.1;omega) (by omega) (by omega) a4 b4 c4
set_option maxRecDepth 100000
theorem Qon{n:Nat}{c:Qa}{a b:List Qa}(hn:big≤n)(hc:Fk 2 c){k:Nat}(h1:1≤k)(hk:k≤200)(ha:FR k a)(hb:FR k b)(hal:a.length≤1000):∃ r,Ke n c a=some r∧FR (k+2) r∧K8 n [r,b]=some (if a.length=b.length then (toR (linQ (fv c) (rv a) (rv b)),true) else ([],false)):=by have q1:QR (2+k) (scaleQ (fv c) (rv a)):=Qgy (qw_fv hc (by decide)) (QR_rv ha h1);refine⟨_,Qao (k:=k+2) hn (by omega) (by omega) (Vg hc (by omega)) (J6 ha (by omega)) (by omega),Kl (Jo q1 (by omega)),?_⟩;rw[Qcq (k:=k+2) hn (by omega) (by omega) (Kl (Jo q1 (by omega))) (J6 hb (by omega)) (by rw[Q7,X6,Jb];omega),Q7,X6,Jb,Ky,Q0d]
end Go.Proofs.YtlfphifbmoccgaaGreatDoor
