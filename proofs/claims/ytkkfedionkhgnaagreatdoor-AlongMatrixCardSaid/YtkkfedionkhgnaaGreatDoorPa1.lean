import Derived.Test.YtkkfedionkhgnaaGreatDoorModa
import Derived.Test.YtkkfedionkhgnaaGreatDoorP2
namespace Go.Proofs.YtkkfedionkhgnaaGreatDoor
open Go Go.RowKit
set_option maxRecDepth 100000
theorem Je9{c a b:Rat}:-(c*a+b)=c * -a+-b:=by grind
theorem Jfa{c e t a b:Rat}:e*t*(c*a+b)=c*(e*t*a)+e*t*b:=by grind
theorem Jfb{c a b x y:Rat}:c*a+x+(c*b+y)=c*(a+b)+(x+y):=by grind
theorem Jfc{c a b x y:Rat}:c*a+x - (c*b+y)=c*(a - b)+(x - y):=by grind
theorem Jfd{c a b x y u w:Rat}:(c*a+x)*u+w*(c*b+y)=c*(a*u+w*b)+(x*u+w*y):=by grind
theorem Jfe{c a b x y q w:Rat}:(c*a+x - q*(c*b+y))*w=c*((a - q*b)*w)+(x - q*y)*w:=by grind
theorem Jc2{c:Rat}:(0:Rat)=c*0+0:=by grind
theorem Q9o{c:Rat}{x:Qt}{q T1 T2:Rat}{Y1 Y2 P1 P2 vs d1 d2:List Rat}(hY:Y2.length=Y1.length)(hP:P2.length=P1.length)(hd:d2.length=d1.length):
 slopeQ x q (c*T1+T2) (linQ c Y1 Y2) (linQ c P1 P2) vs (linQ c d1 d2)=c*slopeQ x q T1 Y1 P1 vs d1+slopeQ x q T2 Y2 P2 vs d2:=by
 unfold slopeQ;rw[Qc4 hY,Qc4 hP,Qc4 hd,Qc4 hd];generalize turnQ (vs.getD x.A.toNat 0) q x.B=tq;generalize d1.getD x.A.toNat 0=a1;generalize d2.getD x.A.toNat 0=a2;generalize d1.getD x.B.toNat 0=b1;generalize d2.getD x.B.toNat 0=b2;generalize vs.getD x.A.toNat 0=va;generalize vs.getD x.B.toNat 0=vb;generalize Y1.getD x.A.toNat 0=y1;generalize Y2.getD x.A.toNat 0=y2;generalize P1.getD x.A.toNat 0=p1;generalize P2.getD x.A.toNat 0=p2;rw[Rat.div_def,Rat.div_def,Rat.div_def];generalize vb⁻¹=wb;generalize (x.B:Rat)=e;split;exact Je9;split;exact Jfa;split;exact Jfb;split;exact Jfc;split;exact Jfd;split;exact Jfe;split;exact Jc2;split;rfl;split;rfl;rfl
theorem Jbg{c x y:Rat}{a b:List Rat}(h:b.length=a.length):linQ c a b++[c*x+y]=linQ c (a++[x]) (b++[y]):=by unfold linQ;rw[List.zipWith_append h.symm];rfl
theorem Q38{c:Rat}{a b:List Rat}(h:b.length=a.length):∀(l:List Int),(l.map λo=>(linQ c a b).getD o.toNat 0)=linQ c (l.map λo=>a.getD o.toNat 0) (l.map λo=>b.getD o.toNat 0)
 | []=>rfl
 | o::l=>by have:=Q38 (c:=c) h l;unfold linQ at this ⊢;simp only[List.map_cons,List.zipWith_cons_cons];rw[this];congr 1;exact Qc4 h
def linR(c:Rat)(a b:List (List Rat)):List (List Rat):=List.zipWith (linQ c) a b
theorem Jc3{c:Rat}{u1 u2 v1 v2:List Rat}(h1:u2.length=u1.length)(h2:v1.length=u1.length)(h3:v2.length=u1.length):addQ (linQ c u1 u2) (linQ c v1 v2)=linQ c (addQ u1 v1) (addQ u2 v2):=by apply List.ext_getElem;simp[addQ,linQ,h1,h2,h3];intro i a b;simp only[addQ,linQ,List.getElem_zipWith];grind
theorem Q9p{c H:Rat}{a b:List Rat}:scaleQ H (linQ c a b)=linQ c (scaleQ H a) (scaleQ H b):=by apply List.ext_getElem;simp[scaleQ,linQ];intro i x y;simp only[scaleQ,linQ,List.getElem_zipWith,List.getElem_map];grind
theorem Jbh{c e:Rat}{a1 a2 z1 z2:List Rat}(h1:a2.length=a1.length)(h2:z1.length=a1.length)(h3:z2.length=a1.length):
 List.zipWith (λx o=>o+e*x) (linQ c a1 a2) (linQ c z1 z2)=linQ c (List.zipWith (λx o=>o+e*x) a1 z1) (List.zipWith (λx o=>o+e*x) a2 z2):=by
 apply List.ext_getElem;simp[linQ,h1,h2,h3];intro i a b;simp only[linQ,List.getElem_zipWith];grind
theorem Q59{c:Rat}{m:Nat}:∀ {cs:List Rat}{l1 l2:List (List Rat)}{z1 z2:List Rat},l2.length=l1.length->(∀ a∈l1,a.length=m)->(∀ a∈l2,a.length=m)->z1.length=m->z2.length=m →
 mixQ cs (linR c l1 l2) (linQ c z1 z2)=linQ c (mixQ cs l1 z1) (mixQ cs l2 z2)
 | [],l1,l2,z1,z2,_,_,_,_,_=>by simp[mixQ]
 | e::cs,[],[],z1,z2,_,_,_,_,_=>by simp[mixQ,linR]
 | e::cs,[],_::_,z1,z2,h,_,_,_,_=>by simp at h
 | e::cs,_::_,[],z1,z2,h,_,_,_,_=>by simp at h
 | e::cs,a1::l1,a2::l2,z1,z2,h,h1,h2,g1,g2=>by have k1:=h1 a1 (.head _);have k2:=h2 a2 (.head _);show mixQ cs (linR c l1 l2) (List.zipWith (λx o=>o+e*x) (linQ c a1 a2) (linQ c z1 z2))=linQ c (mixQ cs l1 (List.zipWith (λx o=>o+e*x) a1 z1)) (mixQ cs l2 (List.zipWith (λx o=>o+e*x) a2 z2));rw[Jbh (by omega) (by omega) (by omega)];exact Q59 (by simpa using h) (λa ha=>h1 a (.tail _ ha)) (λa ha=>h2 a (.tail _ ha)) (by simp;omega) (by simp;omega)
theorem Jc4{c H:Rat}{m:Nat}{cs:List Rat}{l1 l2:List (List Rat)}(h:l2.length=l1.length)(h1:∀ a∈l1,a.length=m)(h2:∀ a∈l2,a.length=m):towQ H m cs (linR c l1 l2)=linQ c (towQ H m cs l1) (towQ H m cs l2):=by unfold towQ;rw[←Q9p,←Q59 h h1 h2 (by simp) (by simp),←Qui]
theorem Q39{c H:Rat}{U1 U2 cs:List Rat}{l1 l2:List (List Rat)}(hU:U2.length=U1.length)(h:l2.length=l1.length)(h1:∀ a∈l1,a.length=U1.length)(h2:∀ a∈l2,a.length=U1.length):fromQ H (linQ c U1 U2) cs (linR c l1 l2)=linQ c (fromQ H U1 cs l1) (fromQ H U2 cs l2):=by unfold fromQ;rw[Qq9 hU,Jc4 h h1 h2,Jc3 hU (Ql6 h1) (by rw[Ql6 h2]),hU]
theorem Q9q{c:Rat}{a b:List (List Rat)}{x y:List Rat}(h:b.length=a.length):linR c a b++[linQ c x y]=linR c (a++[x]) (b++[y]):=by unfold linR;rw[List.zipWith_append h.symm];rfl
set_option maxRecDepth 100000
theorem Qwz{k:Nat}{a b:List Rat}(h1:1≤k)(ha:QR k a)(hb:QR k b):∀ i:Nat,qw (psum a b i)≤1+i*(2*k+1)
 | 0=>by show qw (0:Rat)≤_;rw[Zn];omega
 | i+1=>by rw[Qea,Nat.succ_mul];have:=Yl (Qwz h1 ha hb i) (X3 (Vy (i:=i) ha h1) (Vy (i:=i) hb h1));omega
set_option maxRecDepth 100000
theorem Q1f{T:Rat}{Y P:List Rat}{c T1 T2:Rat}{Y1 Y2 P1 P2:List Rat}(hY:Y2.length=Y1.length)(hP:P2.length=P1.length):∀ {cd:List Qt}{vs d1 d2:List Rat},d2.length=d1.length →
 prunP T Y P (c*T1+T2) (linQ c Y1 Y2) (linQ c P1 P2) cd vs (linQ c d1 d2)=linQ c (prunP T Y P T1 Y1 P1 cd vs d1) (prunP T Y P T2 Y2 P2 cd vs d2)∧(prunP T Y P T2 Y2 P2 cd vs d2).length=(prunP T Y P T1 Y1 P1 cd vs d1).length
 | [],vs,d1,d2,hd=>⟨rfl,hd⟩
 | x::cd,vs,d1,d2,hd=>by
   simp only[prunP];cases hq:opQ x T Y P vs with
   | none=>exact⟨rfl,hd⟩
   | some q=>
     simp only[];rw[Q9o hY hP hd,Jbg hd];exact Q1f hY hP (by simp;exact hd)
theorem Q5i{t:Ql}{T:Rat}{Y P:List Rat}{c T1 T2:Rat}{Y1 Y2 P1 P2:List Rat}(hY:Y2.length=Y1.length)(hP:P2.length=P1.length):
 pfieldP t T Y P (c*T1+T2) (linQ c Y1 Y2) (linQ c P1 P2)=linQ c (pfieldP t T Y P T1 Y1 P1) (pfieldP t T Y P T2 Y2 P2):=by
 obtain⟨e1,e2⟩:=Q1f (T:=T) (Y:=Y) (P:=P) (c:=c) (T1:=T1) (T2:=T2) (cd:=t.Code) (vs:=[]) (d1:=[]) (d2:=[]) hY hP rfl;unfold pfieldP;have e0:linQ c [] []=[]:=rfl;rw[e0] at e1;rw[e1,Q38 e2]
theorem Qul{t:Ql}{T H:Rat}{P:List Rat}{c:Rat}{U1 U2 V1 V2:List Rat}(hm:t.Ar.length=U1.length)(hU:U2.length=U1.length)(hV:V2.length=V1.length):∀ {r:List ((List Rat×Rat)×List Rat)}{k1 k2:List (List Rat)},k2.length=k1.length->(∀ a∈k1,a.length=U1.length)->(∀ a∈k2,a.length=U1.length) →
 tstagesP t T H (linQ c U1 U2) (linQ c V1 V2) P r (linR c k1 k2)=linR c (tstagesP t T H U1 V1 P r k1) (tstagesP t T H U2 V2 P r k2)∧(tstagesP t T H U2 V2 P r k2).length=(tstagesP t T H U1 V1 P r k1).length
 | [],k1,k2,hk,g1,g2=>⟨rfl,hk⟩
 | x::r,k1,k2,hk,g1,g2=>by
   simp only[tstagesP];have hl1:=Qex (H:=H) (Y:=U1) (c:=x.1.1) (kss:=k1) g1;have hl2:=Qex (H:=H) (Y:=U2) (c:=x.1.1) (kss:=k2) (by rw[hU];exact g2);rw[Q39 hU hk g1 g2];have e:=Q5i (t:=t) (T:=T+H*x.1.2) (Y:=x.2) (P:=P) (c:=c) (T1:=0) (T2:=0) (Y1:=fromQ H U1 x.1.1 k1) (Y2:=fromQ H U2 x.1.1 k2) (P1:=V1) (P2:=V2) (by rw[hl1,hl2,hU]) hV;rw[show c*0+0=(0:Rat) by grind] at e;rw[e,Q9q hk]
   exact Qul hm hU hV (by simp;exact hk) (λa ha=>by
    rcases List.mem_append.1 ha with ha | ha;exact g1 a ha;rw[List.mem_singleton.1 ha,Qp8];exact hm) (λa ha=>by
    rcases List.mem_append.1 ha with ha | ha;exact g2 a ha
    rw[List.mem_singleton.1 ha,Qp8];exact hm)
theorem Q7j{t:Ql}{s:Qv}{T H:Rat}{P:List Rat}{yss:List (List Rat)}{c:Rat}{U1 U2 V1 V2:List Rat}(hm:t.Ar.length=U1.length)(hU:U2.length=U1.length)(hV:V2.length=V1.length):
 tnextP t s T H (linQ c U1 U2) (linQ c V1 V2) P yss=linQ c (tnextP t s T H U1 V1 P yss) (tnextP t s T H U2 V2 P yss):=by
 obtain⟨e1,e2⟩:=Qul (T:=T) (H:=H) (P:=P) (c:=c) (r:=List.zip (pairQ s) yss) (k1:=[]) (k2:=[]) hm hU hV rfl (λ_ h=>by cases h) (λ_ h=>by cases h);unfold tnextP;have e0:linR c [] []=[]:=rfl;rw[e0] at e1;have g2:=Qlh (T:=T) (H:=H) (P:=P) (V:=V2) (r:=List.zip (pairQ s) yss) (k:=[]) (show t.Ar.length=U2.length by omega) (λ_ h=>by cases h);rw[e1,Q39 hU e2 (Qlh hm λ_ h=>by cases h) (λa ha=>by rw[g2 a ha,hU])]
theorem Q4a{p:Qf}{T H:Rat}{Y:List Rat}{c:Rat}{U1 U2 V1 V2:List Rat}(hm:p.Tape.Ar.length=U1.length)(hU:U2.length=U1.length)(hV:V2.length=V1.length):movP p T H Y (linQ c U1 U2) (linQ c V1 V2)=linQ c (movP p T H Y U1 V1) (movP p T H Y U2 V2):=by
 unfold movP;cases stepQ p T H Y with
 | inl f=>rfl
 | inr z=>exact Q7j hm hU hV
section
variable {F:List Rat->List Rat->List Rat}{n k m:Nat}
end
theorem Jff{p:Qf}{T H:Rat}{Y:List Rat}{n k:Nat}(hm:p.Tape.Ar.length=n):LinF (movP p T H Y) n k n where
 len:=λhU _=>by rw[Ql8 (by omega),hU]
 lin:=λh1 h2 h3 h4=>Q4a (by omega) (by omega) (by omega)
set_option maxRecDepth 100000
theorem Qb6{L:List (List Rat)}{m:Nat}:(colQ L m).length=m:=by simp[colQ]
theorem Qr5{L:List (List Rat)}{m:Nat}:∀ r∈colQ L m,r.length=L.length:=λr hr=>by unfold colQ at hr;obtain⟨i,_,rfl⟩:=List.mem_map.1 hr;rw[List.length_map]
theorem Qnz{k:Nat}{L:List (List Rat)}{m:Nat}(h1:1≤k)(h:∀ c∈L,QR k c):∀ r∈colQ L m,QR k r:=λr hr=>by unfold colQ at hr;obtain⟨i,_,rfl⟩:=List.mem_map.1 hr;intro x hx;obtain⟨c,hc,rfl⟩:=List.mem_map.1 hx;exact Vy (h c hc) h1
theorem Qpp{M:List (List Qa)}:Z2 M=some ((match M with | []=>0 | r::_=>r.length:Nat):Int):=by
 unfold Z2;cases M with
 | nil=>rfl
 | cons r M=>
   rw[decide_eq_false (by simp only[List.length_cons];omega),bifF];rfl
theorem Qw0{M:List (List Qa)}{w:Nat}(h:∀ r∈M,r.length=w):Qhq M=some true:=by
 unfold Qhq
 have key:∀(xs:List (List Qa)) (i:Nat),(∀ r∈xs,r∈M)->(rangeL (λ(_:Nat) (x10:(List Qa)) (_:Unit)=>
  (Z2 M).bind λr12=>bif !decide ((x10.length:Int)=r12) then (some (Lp.out (false))) else (some (Lp.go ()))) xs i ())=some (Lp.go ()):=by
  intro xs
  induction xs with
  | nil=>intro i _;rfl
  | cons x xs ih=>
    intro i hx;have hw:Z2 M=some (w:Int):=by
     rw[Qpp];cases M with
     | nil=>have:=hx x (.head _);cases this
     | cons r M=>simp only[h r (.head _)]
    have hs:((Z2 M).bind λr12=>bif !decide ((x.length:Int)=r12) then (some (Lp.out (σ:=Unit) false)) else (some (Lp.go ())))=some (Lp.go ()):=by rw[hw,sbind,h x (hx x (.head _)),decide_eq_true rfl,Bool.not_true,bifF]
    simp only[rangeL];rw[hs,sbind];exact ih (i+1) λr hr=>hx r (.tail _ hr)
 rw[key M 0 λr hr=>hr];rfl
theorem Qg5{n k:Nat}{M:List (List Rat)}{u:List Qa}{w:Nat}(hn:big≤n)(h1:1≤k)(hk:k<1000000)(hM:∀ r∈M,r.length=w∧QR k r)(hne:M≠[])(hu:FR k u)(hw:w≤1000)(hl:M.length≤1000):
 Qbm n (toRR M) u=some (if w=u.length then (toR (M.map λr=>psum r (rv u) w),true) else ([],false)):=by
 have hM':∀ r∈toRR M,r.length=w:=Qop λa ha=>by rw[Q2];exact(hM a ha).1
 have hW:Z2 (toRR M)=some (w:Int):=by
  rw[Qpp];cases M with
  | nil=>exact absurd rfl hne
  | cons r M=>
    show some (((toR r).length:Nat):Int)=_;rw[Q2,(hM r (.head _)).1]
 unfold Qbm;simp only[jn_eq];rw[hW,sbind];by_cases c:w=u.length
 case neg=>rw[if_neg c,decide_eq_false (by omega),Bool.not_false,bifT,bifT]
 rw[if_pos c,decide_eq_true (by omega),Bool.not_true,bifF,Qw0 hM',sbind,Bool.not_true,bifF];rw[X2 (λi=>toR ((M.take i).map λr=>psum r (rv u) w)) (toRR M)]
 . show some (toR ((M.take (toRR M).length).map λr=>psum r (rv u) w),true)=_
   rw[Vs,List.take_length]
 . intro i x hx
   unfold toRR at hx;rw[List.getElem?_map] at hx;cases hr:M[i]? with
   | none=>rw[hr] at hx;cases hx
   | some r=>
     rw[hr] at hx;cases hx;obtain⟨g1,g2⟩:=hM r (Jm hr);have hi:=Kh hr;rw[Qlg hn h1 hk (J6 g2) hu (by rw[Q2];omega),sbind,Q2,if_pos (by omega),Kw,g1];have hle:(M.take i).length≤1000:=by rw[List.length_take];omega
     rw[Km (by simp[Q2];omega) (by simp[Q2];omega),sbind,Qae (λr=>psum r (rv u) w) hr];unfold toR;rw[List.map_append];rfl
 . rfl
set_option maxRecDepth 100000
theorem Qyq{g:Nat->Rat}{U:List Rat}{n:Nat}:psum ((List.range n).map g) U n=sumN (λj=>U.getD j 0*g j) n:=by unfold psum;refine Qcj λj hj=>?_;rw[List.getD_eq_getElem?_getD,List.getElem?_map,List.getElem?_range hj];exact Rat.mul_comm _ _
theorem Q4b{L:List (List Rat)}{m r:Nat}(h:r<m):(colQ L m)[r]?=some (L.map (·.getD r 0)):=by unfold colQ;rw[List.getElem?_map,List.getElem?_range h];rfl
theorem Qyr{F:List Rat->List Rat->List Rat}{n k m:Nat}(hF:LinF F n k m){U V:List Rat}(hU:U.length=n)(hV:V.length=k):
 addQ ((colQ ((List.range n).map λj=>F (uniQ n j) (zerQ k)) m).map λr=>psum r U n) ((colQ ((List.range k).map λj=>F (zerQ n) (uniQ k j)) m).map λr=>psum r V k)=F U V:=by
 apply Qwy;rw[hF.len hU hV];simp[addQ,Qb6];intro r hr;have hr:r<m:=by simpa [addQ,Qb6] using hr
 rw[hF.all hU hV];unfold addQ;rw[List.getD_eq_getElem?_getD,List.getElem?_zipWith,List.getElem?_map,List.getElem?_map,Q4b hr,Q4b hr];simp only[Option.map_some,Option.getD_some,List.map_map];rw[show((λx:List Rat=>x.getD r 0) ∘ λj=>F (uniQ n j) (zerQ k))=λj=>(F (uniQ n j) (zerQ k)).getD r 0 from rfl,show((λx:List Rat=>x.getD r 0) ∘ λj=>F (zerQ n) (uniQ k j))=λj=>(F (zerQ n) (uniQ k j)).getD r 0 from rfl,Qyq,Qyq]
end Go.Proofs.YtkkfedionkhgnaaGreatDoor
