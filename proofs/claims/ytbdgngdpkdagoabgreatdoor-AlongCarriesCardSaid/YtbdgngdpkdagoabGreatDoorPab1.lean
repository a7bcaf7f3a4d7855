import Derived.Test.YtbdgngdpkdagoabGreatDoorModab
import Derived.Test.YtbdgngdpkdagoabGreatDoorPa1
namespace Go.Proofs.YtbdgngdpkdagoabGreatDoor
open Go Go.RowKit
set_option maxRecDepth 100000
def toD(v d:Rat):Q8:=⟨toF v,toF d⟩
def toDD(vs ds:List Rat):List Q8:=List.zipWith toD vs ds
theorem Qsm{vs ds:List Rat}(h:ds.length=vs.length):(toDD vs ds).length=vs.length:=by unfold toDD;rw[List.length_zipWith,h,Nat.min_self]
theorem Q96{vs ds:List Rat}{v d:Rat}(h:ds.length=vs.length):toDD vs ds++[toD v d]=toDD (vs++[v]) (ds++[d]):=by unfold toDD;rw[List.zipWith_append h.symm];rfl
theorem Qs6{vs ds:List Rat}{r:Int}(h:ds.length=vs.length)(d:0<=r)(e:r<(vs.length:Int)):getI (toDD vs ds) r=some (toD (vs.getD r.toNat 0) (ds.getD r.toNat 0)):=by
 obtain⟨k,rfl⟩:∃ k:Nat,r=(k:Int):=⟨r.toNat,om⟩
 have hk:k<vs.length:=om
 have a:k<ds.length:=om
 rw[Qh0,yo];unfold toDD;rw[List.getElem?_zipWith,oq hk,oq a,xh,oq hk,xh,oq a];rfl
def slopeQ(x:Qz)(q T:Rat)(Y P vs ds:List Rat):Rat:=
 if x.Op=6 then -ds.getD x.A.toNat 0 else
 if x.Op=11 then ((x.B:Rat)*turnQ (vs.getD x.A.toNat 0) q x.B)*ds.getD x.A.toNat 0 else
 if x.Op=7 then ds.getD x.A.toNat 0+ds.getD x.B.toNat 0 else
 if x.Op=8 then ds.getD x.A.toNat 0 - ds.getD x.B.toNat 0 else
 if x.Op=9 then ds.getD x.A.toNat 0*vs.getD x.B.toNat 0+vs.getD x.A.toNat 0*ds.getD x.B.toNat 0 else
 if x.Op=10 then (ds.getD x.A.toNat 0 - q*ds.getD x.B.toNat 0) / vs.getD x.B.toNat 0 else
 if x.Op=1 then 0 else
 if x.Op=3 then Y.getD x.A.toNat 0 else
 if x.Op=4 then P.getD x.A.toNat 0 else T
theorem Jgj{n k:Nat}{g:Ql}{z:Int}{t:Qr}{x:Qz}{T T':Rat}{Y P Y' P' vs ds:List Rat}(hn:big<=n)(f:1<=k)(hk:k<1048576)(J:mayR t vs.length x)(S:Fk k x.N)
 (hT:qw T<=k) (hY:QR k Y) (hP:QR k P) (U:QR k vs) (hT':qw T'<=k) (E:QR k Y') (C:QR k P') (R:QR k ds) (V:ds.length=vs.length) (K:Y'.length=Y.length) (H:P'.length=P.length) (hy:(Y.length:Int)=t.A3) (hp:(P.length:Int)=t.A9) :
 ∃ v,V9 n g z x ⟨toD T T',toDD Y Y',toDD P P'⟩ (toDD vs ds)=some (match opQ x T Y P vs with | none=>(v,false) | some q=>(toD q (slopeQ x q T' Y' P' vs ds),true))/\∀ q,opQ x T Y P vs=some q->qw q<=8*k+1/\qw (slopeQ x q T' Y' P' vs ds)<=20*k+10:=by
 unfold V9 opQ slopeQ;have B:=Qqb J;have dA:x.Op=6\/x.Op=11\/x.Op=7\/x.Op=8\/x.Op=9\/x.Op=10->getI (toDD vs ds) x.A=some (toD (vs.getD x.A.toNat 0) (ds.getD x.A.toNat 0)):=λh=>Qs6 V (B _ (rdT_A h)).1 (B _ (rdT_A h)).2;have dB:x.Op=7\/x.Op=8\/x.Op=9\/x.Op=10->getI (toDD vs ds) x.B=some (toD (vs.getD x.B.toNat 0) (ds.getD x.B.toNat 0)):=λh=>Qs6 V (B _ (rdT_B h)).1 (B _ (rdT_B h)).2;have qA:qw (vs.getD x.A.toNat 0)<=k:=V4 U f;have qB:qw (vs.getD x.B.toNat 0)<=k:=V4 U f;have qA':qw (ds.getD x.A.toNat 0)<=k:=V4 R f;have qB':qw (ds.getD x.B.toNat 0)<=k:=V4 R f;generalize vs.getD x.A.toNat 0=a at dA qA |-;generalize vs.getD x.B.toNat 0=b at dB qB |-;generalize ds.getD x.A.toNat 0=a' at dA qA' |-;generalize ds.getD x.B.toNat 0=b' at dB qB' |-;have fA:Fk k (toF a):=Js qA;have fB:Fk k (toF b):=Js qB;have fA':Fk k (toF a'):=Js qA';have fB':Fk k (toF b'):=Js qB';have pV:∀ u w:Rat,(toD u w).V=toF u:=λ_ _=>rfl;have pD:∀ u w:Rat,(toD u w).D=toF w:=λ_ _=>rfl;simp only[bifd];by_cases Z:x.Op=6;simp only[oo Z];unfold Qjl;rw[dA om,sbind,pV,pD,Qi7 hn (Fk_Fw fA om),sbind,Qi7 hn (Fk_Fw fA' om),sbind,sbind,Jf,Jf];exact⟨toD 0 0,rfl,λq d=>by cases d;rw[Qjz,Qjz];omega⟩;simp only[ol Z];by_cases r:x.Op=11;simp only[oo r];unfold Qjm;simp only[jn_eq];rw[dA om,sbind,pV,pD,Qpk hn f om fA,sbind,Jf];by_cases G:x.B < -8\/8<x.B\/(x.B<0/\a=0)
 simp only[oo G];exact⟨_,rfl,λq d=>by cases d⟩;simp only[ol G];rw[ot,bifF,Qac hn,sbind];have d:=Qyw qA (e:=x.B) om
 have j:∀ w:Rat,qw w<=16*k+2->turnQ a (a ^ x.B) x.B=w->((Kt n x.B).bind λN=>(Wq n N (toF w)).bind λO=>(Wq n O (toF a')).bind λQ=>(some ((⟨toF (a ^ x.B),Q⟩:Q8),true):Option (Q8×Bool)))=some (toD (a ^ x.B) (((x.B:Rat)*turnQ a (a ^ x.B) x.B)*a'),true)/\qw (((x.B:Rat)*turnQ a (a ^ x.B) x.B)*a')<=20*k+10:=λw W e=>by have qi:=Q5e (z:=x.B) om;have s:=Wa qi W;have A:=Wa s qA';rw[Qlm hn om om,sbind,Xf (k:=16*k+2) hn om om (Js om) (Js W),sbind,Xf (k:=20*k) hn om om (Js (by rw[Jf,Jf];omega)) (Js om),sbind,Jf,Jf,Jf,Jf,e];exact⟨rfl,om⟩
 simp only[bifd];by_cases h0:0<x.B;have I:=Qyw qA (e:=x.B - 1) om;obtain⟨k1,k2⟩:=j (a ^ (x.B - 1)) om (by unfold turnQ;rw[oo h0]);rw[oo h0,w64 om om,Qpk hn f om fA,sbind,Jf,ol (show ¬(x.B - 1 < -8\/8<x.B - 1\/(x.B - 1<0/\a=0)) by omega)];simp only[];rw[k1,sbind];exact⟨toD 0 0,rfl,λq d=>by cases d;exact⟨d,k2⟩⟩;rw[ol h0];by_cases l:x.B<0;have ha:¬ a=0:=λg=>G (.inr (.inr ⟨l,g⟩));have I:=Qj0 d qA;obtain⟨k1,k2⟩:=j (a ^ x.B / a) om (by unfold turnQ;rw[ol h0,oo l]);rw[oo l,Qg9 (k:=8*k+1) hn om om (Js d) (Js om),sbind,Jf,Jf,ol ha];simp only[];rw[k1,sbind];exact⟨toD 0 0,rfl,λq d=>by cases d;exact⟨d,k2⟩⟩;obtain⟨k1,k2⟩:=j 0 (by rw[Qab];omega) (by unfold turnQ;rw[ol h0,ol l]);rw[ol l,k1,sbind];exact⟨toD 0 0,rfl,λq d=>by cases d;exact⟨d,k2⟩⟩;simp only[ol r];by_cases o7:x.Op=7;simp only[oo o7];unfold Qjn;rw[dA om,sbind,dB om,sbind,pV,pV,pD,pD,Xt hn f om fA fB,sbind,Xt hn f om fA' fB',sbind,sbind,Jf,Jf,Jf,Jf];exact⟨toD 0 0,rfl,λq d=>by cases d;have:=Zn qA qB;have:=Zn qA' qB';omega⟩;simp only[ol o7];by_cases o8:x.Op=8;simp only[oo o8];unfold Qjo;rw[dA om,sbind,dB om,sbind,pV,pV,pD,pD,Qmg hn f om fA fB,sbind,Qmg hn f om fA' fB',sbind,sbind,Jf,Jf,Jf,Jf];exact⟨toD 0 0,rfl,λq d=>by cases d;have:=Qpa qA qB;have:=Qpa qA' qB';omega⟩;simp only[ol o8];by_cases o9:x.Op=9;simp only[oo o9];unfold Qjp;have s:=Wa qA' qB;have A:=Wa qA qB';have q3:=Wa qA qB;have q4:=Zn s A;rw[dA om,sbind,dB om,sbind,pV,pV,pD,pD,Xf hn f om fA fB,sbind,Xf hn f om fA' fB,sbind,Xf hn f om fA fB',sbind,Jf,Jf,Jf,Jf,Xt (k:=2*k) hn om om (Js om) (Js om),sbind,sbind,Jf,Jf];exact⟨toD 0 0,rfl,λq d=>by cases d;omega⟩;simp only[ol o9];by_cases m:x.Op=10;simp only[oo m];unfold Qjq;rw[dA om,sbind,dB om,sbind,pV,pV,pD,pD,Qg9 hn f om fA fB,sbind,Jf,Jf];by_cases F:b=0;simp only[oo F];exact⟨_,rfl,λq d=>by cases d⟩;simp only[ol F];have q0:=Qj0 qA qB;have s:=Wa q0 qB';have A:=Qpa qA' s;have q3:=Qj0 A qB;rw[ot,bifF,Xf (k:=2*k) hn om om (Js om) (Js om),sbind,Jf,Jf,Qmg (k:=3*k) hn om om (Js om) (Js om),sbind,Jf,Jf,Qg9 (k:=4*k+1) hn om om (Js om) (Js om),sbind,Jf,Jf,ol F,sbind];exact⟨toD 0 0,rfl,λq d=>by cases d;omega⟩;simp only[ol m];unfold Yn;simp only[bifd];by_cases X:x.Op=1;simp only[oo X];unfold Qkr;rw[Va hn (Fk_Fw S om),sbind,Qac hn,sbind,sbind,sbind];exact⟨toD 0 0,rfl,λq d=>by cases d;have:=qw_fv S f;rw[Qab];omega⟩;simp only[ol X];by_cases L:x.Op=3;simp only[oo L];obtain⟨a1,a2⟩:=Qyx J L;rw[Qs6 K a1 om,sbind,sbind]
 exact⟨toD 0 0,rfl,λq d=>by cases d;have:=V4 (i:=x.A.toNat) hY f;have:=V4 (i:=x.A.toNat) E f;omega⟩;simp only[ol L];by_cases M:x.Op=4;simp only[oo M];obtain⟨a1,a2⟩:=Qyy J M;rw[Qs6 H a1 om,sbind,sbind];exact⟨toD 0 0,rfl,λq d=>by cases d;have:=V4 (i:=x.A.toNat) hP f;have:=V4 (i:=x.A.toNat) C f;omega⟩;simp only[ol M];exact⟨toD 0 0,rfl,λq d=>by cases d;omega⟩
def prunQ(lim:Int)(T:Rat)(Y P:List Rat)(T':Rat)(Y' P':List Rat):List Qz->Nat->List Rat->List Rat->(Int×Int×Nat) ⊕ (List Rat×List Rat)
 | [],_,vs,ds=>.inr (vs,ds)
 | x::c,i,vs,ds=>match opQ x T Y P vs with
   | none=>.inl (3,0,i)
   | some q=>if (qz q:Int)<=lim then (if (qz (slopeQ x q T' Y' P' vs ds):Int)<=lim then prunQ lim T Y P T' Y' P' c (i+1) (vs++[q]) (ds++[slopeQ x q T' Y' P' vs ds]) else .inl (6,1,i)) else .inl (6,0,i)
theorem Jid{n k:Nat}{g:Ql}{t:Qr}{T T':Rat}{Y P Y' P':List Rat}(hn:big<=n)(h1:129<=k)(hk:k<1048576)(ht:tapeR t)(hR:Qcr n t=some true)(H:∀ c∈t.Code,Fk k c.N)
 (hT:qw T<=k) (hY:QR k Y) (hP:QR k P) (L:qw T'<=k) (M:QR k Y') (J:QR k P') (F:Y'.length=Y.length) (E:P'.length=P.length) (C:(Y.length:Int)=t.A3) (hp:(P.length:Int)=t.A9) (Q:g.limit<=4096) :
 ∃ s,Xc n g 0 t ⟨toD T T',toDD Y Y',toDD P P'⟩=some (match prunQ g.limit T Y P T' Y' P' t.Code 0 [] [] with | .inl e=>([],⟨e.1,0,0,(e.2.2:Int)⟩,s,e.2.1) | .inr l=>(toDD l.1 l.2,⟨0,0,0,0⟩,s,0)):=by
 unfold Xc;simp only[jn_eq,hR,sbind,ot,bifF];rw[Qsm F,Qsm E,oi C,oi hp,ot,bifF,bifF]
 have U:∀(c:List Qz) (vs ds:List Rat) (g:Ql) (K:Ql×Int×List Q8->Option (List Q8×Qe×Ql×Int)),(∀(j:Nat) x,c[j]?=some x->mayR t (vs.length+j) x)->(∀ x∈c,Fk k x.N)->QR k vs->QR k ds->ds.length=vs.length->g.limit<=4096->vs.length+c.length<=300 ->
  ∃ s,(rangeL (λ(G:Nat) (V:Qz) (a:Ql×Int×(List Q8))=>
    (V9 n a.1 a.2.1 V ⟨toD T T',toDD Y Y',toDD P P'⟩ a.2.2).bind λA=>
    bif !A.2 then (
     some (Lp.out ((([]:List Q8),(⟨(3:Int),0,0,(G:Int)⟩:Qe),a.1,a.2.1))))
    else (
     (Qfu n a.1 a.2.1 A.1).bind λr=>
     bif !r.1 then (
      some (Lp.out ((([]:List Q8),(⟨(6:Int),0,0,(G:Int)⟩:Qe),r.2.1,r.2.2))))
     else (
      (appM 112 a.2.2 ([A.1]:List Q8)).bind λW=>
      some (Lp.go (r.2.1,r.2.2,W))))) c vs.length (g,0,toDD vs ds)).bind (lpK K)=match prunQ g.limit T Y P T' Y' P' c vs.length vs ds with | .inl e=>some ([],⟨e.1,0,0,(e.2.2:Int)⟩,s,e.2.1) | .inr l=>K (s,0,toDD l.1 l.2):=by
  intro c
  induction c with
  | nil=>intro vs ds g K _ _ _ _ _ _ _;exact⟨g,rfl⟩
  | cons x c ih=>
    intro vs ds g K hm H Z X f Q R;simp only[rangeL,prunQ];obtain⟨v,e1,e2⟩:=Jgj (g:=g) (z:=0) hn om hk (by have:=hm 0 x rfl;rwa [xq] at this) (H x (.head _)) hT hY hP Z L M J X f F E C hp;rw[e1,sbind];cases hq:opQ x T Y P vs with
    | none=>exact⟨g,rfl⟩
    | some q=>
      obtain⟨hqk,O⟩:=e2 q hq;simp only[ot,bifF];generalize slopeQ x q T' Y' P' vs ds=d at O |-;unfold Qfu;rw[show(toD q d).V=toF q from rfl,show(toD q d).D=toF d from rfl,Qqa hn om,sbind];simp only[];by_cases I:(qz q:Int)<=g.limit;rw[oi I,oo I,ot,bifF,Qqa hn om,sbind];simp only[];by_cases w:(qz d:Int)<=g.limit;rw[oi (show(qz d:Int)<=(noteG g q).limit from w),oo w,ot,bifF,sbind];simp only[ot,bifF];rw[Vt (by rw[Qsm f];simp at R |-;omega) (by rw[Qsm f];simp at R |-;omega),sbind,sbind];simp only[];have S:qw q<=k:=by
       have:=qw_qz (q:=q) (b:=4096) om;omega
      have N:qw d<=k:=by have:=qw_qz (q:=d) (b:=4096) om;omega
      have i:(vs++[q]).length=vs.length+1:=oc
      obtain⟨s,h⟩:=ih (vs++[q]) (ds++[d]) (noteG (noteG g q) d) K (λj y C=>by
       rw[i,show vs.length+1+j=vs.length+(j+1) by omega];exact hm (j+1) y (by simpa using C)) (λy C=>H y (.tail _ C)) (λz m=>by
       rcases ym.1 m with m | m;exact Z z m;rw[xx.1 m];exact S) (λz m=>by
       rcases ym.1 m with m | m;exact X z m
       rw[xx.1 m];exact N) (by simp;exact f) Q (by rw[i];simp at R;omega)
      refine⟨s,?_⟩;rw[i] at h;rw[Q96 f];exact h;rw[oj (show ¬(qz d:Int)<=(noteG g q).limit from w),ol w,ov,bifT];unfold Qpg;rw[sbind,sbind];exact⟨noteG (noteG g q) d,rfl⟩;rw[oj I,ol I,ov,bifT,sbind];exact⟨noteG g q,rfl⟩
 obtain⟨⟨d1,d2,d3,d4⟩,m1,m2⟩:=ht;obtain⟨s,h⟩:=U t.Code [] [] g (λB=>some (B.2.2,(⟨0,0,0,0⟩:Qe),B.1,B.2.1)) (λj x hx=>by rw[show([]:List Rat).length+j=j by simp];exact m1 j x hx) H (λ_ h=>by cases h) (λ_ h=>by cases h) rfl Q (by simpa using d4);refine⟨s,?_⟩;rw[show(([]:List Rat).length)=0 from rfl,show toDD [] []=[] from rfl] at h;rw[h];cases prunQ g.limit T Y P T' Y' P' t.Code 0 [] []<;>rfl
set_option maxRecDepth 100000
theorem Q8y{α:Type}{l:List α}{i:Nat}{x:α}(h:l[i]?=some x):l.take (i+1)=l.take i++[x]:=by rw[gc,h];rfl
theorem Q0h{lim T Y P T' Y' P'}(f:lim<=4096):∀ {c:List Qz}{i:Nat}{vs ds:List Rat}{l:List Rat×List Rat},QR 129 vs->QR 129 ds->ds.length=vs.length->prunQ lim T Y P T' Y' P' c i vs ds=.inr l->l.1.length=vs.length+c.length/\l.2.length=l.1.length/\QR 129 l.1/\QR 129 l.2
 | [],i,vs,ds,l,m,hd,j,h=>by simp only[prunQ] at h;cases h;exact⟨rfl,j,m,hd⟩
 | x::c,i,vs,ds,l,m,hd,j,h=>by
   simp only[prunQ] at h;cases s:opQ x T Y P vs with
   | none=>rw[s] at h;cases h
   | some q=>
     rw[s] at h;simp only[] at h;generalize slopeQ x q T' Y' P' vs ds=d at h;by_cases r:(qz q:Int)<=lim
     case neg=>rw[ol r] at h;cases h
     rw[oo r] at h;by_cases e:(qz d:Int)<=lim
     case neg=>rw[ol e] at h;cases h
     rw[oo e] at h;have E:=qw_qz (q:=q) (b:=4096) om;have F:=qw_qz (q:=d) (b:=4096) om
     obtain⟨w,A,B,C⟩:=Q0h f (λz a=>by
      rcases ym.1 a with a | a
      . exact m z a
      . rw[xx.1 a];omega) (λz a=>by
      rcases ym.1 a with a | a
      . exact hd z a
      . rw[xx.1 a];omega) (by simp;exact j) h
     exact⟨by rw[w];simp;omega,A,B,C⟩
theorem Quc{lim T Y P T' Y' P'}:∀ {c:List Qz}{i:Nat}{vs ds:List Rat}{e},prunQ lim T Y P T' Y' P' c i vs ds=.inl e->e.1=3\/e.1=6
 | [],i,vs,ds,e,h=>by simp only[prunQ] at h;cases h
 | x::c,i,vs,ds,e,h=>by
   simp only[prunQ] at h;cases a:opQ x T Y P vs with
   | none=>rw[a] at h;cases h;exact .inl rfl
   | some q=>
     rw[a] at h;simp only[] at h;split at h;split at h;exact Quc h;cases h;exact .inr rfl;cases h;exact .inr rfl
def pfieldQ(t:Qr)(lim:Int)(T:Rat)(Y P:List Rat)(T':Rat)(Y' P':List Rat):(Int×Int×Nat) ⊕ (List Rat×List Rat):=
 match prunQ lim T Y P T' Y' P' t.Code 0 [] [] with
 | .inl e=>.inl e
 | .inr l=>.inr (t.Av.map λo=>l.1.getD o.toNat 0,t.Av.map λo=>l.2.getD o.toNat 0)
theorem Qzb{vs ds:List Rat}(h:ds.length=vs.length)(q:vs.length<=1000000):Qmq (toR vs) (toR ds)=some (toDD vs ds,true):=by
 unfold Qmq;rw[Kr,Kr,oi om,ot,bifF];rw[Qjy (λi=>toDD (vs.take i) (ds.take i)) (toR vs)];rw[Kr,xu,<-h,xu];show some _=_;rfl;intro i x e;have hi:=K1 e;rw[Kr] at hi;have f:vs[i]?=some vs[i]:=oq hi;have j:ds[i]?=some (ds[i]' om):=oq _;generalize vs[i]=v at f;generalize ds[i]' om=d at j;have l:x=toF v:=by
  unfold toR at e;rw[yr,f] at e;exact(Option.some.inj e).symm
 have a:(ds.take i).length=(vs.take i).length:=by rw[xk,xk,h]
 have m:(vs.take i).length<=vs.length:=by rw[xk];omega
 rw[Je (show(toR ds)[i]?=some (toF d) by unfold toR;rw[yr,j];rfl),sbind,Vt (by rw[Qsm a];simp;omega) (by rw[Qsm a];simp;omega),sbind,l,show(⟨toF v,toF d⟩:Q8)=toD v d from rfl,Q96 a,Q8y f,Q8y j];rfl
theorem Q69{n k:Nat}{t:Qr}{p q:Wt}{bits:Int}(hn:big<=n)(C:129<=k)(hk:k<1048576)(F:Q2k n k t)(A:Fk k p.T)(B:FR k p.Y)(x:FR k p.P)(d:Fk k q.T)(f:FR k q.Y)(a:FR k q.P)(G:(p.Y.length:Int)=t.A3)(hp:(p.P.length:Int)=t.A9)(m:q.Y.length=p.Y.length)(j:q.P.length=p.P.length):
 Qnk n t p q bits=some (match pfieldQ t (min (max bits 0) 4096) (fv p.T) (rv p.Y) (rv p.P) (fv q.T) (rv q.Y) (rv q.P) with | .inl e=>([],[],⟨e.1,0,e.2.1,(e.2.2:Int)⟩) | .inr l=>(toR l.1,toR l.2,⟨0,0,0,0⟩)):=by
 obtain⟨r,h,w⟩:=F;have hd:=r.1;obtain⟨⟨J,K⟩,⟨L,M⟩,N,O⟩:=hd;have eT:=qw_fv A om;have eY:=QR_rv B om;have eP:=QR_rv x om;have eT':=qw_fv d om;have eY':=QR_rv f om;have eP':=QR_rv a om;unfold Qnk Qsq Qhy Z1;simp only[jn_eq];rw[Va hn (Fk_Fw A om),sbind,Qds hn om B om,sbind,Qds hn om x om,sbind,sbind,Va hn (Fk_Fw d om),sbind,Qds hn om f om,sbind,Qds hn om a om,sbind,sbind];simp only[];rw[Qzb (by rw[J5,J5];exact m) (by rw[J5];omega),sbind,Qzb (by rw[J5,J5];exact j) (by rw[J5];omega),sbind];simp only[ot,bifF,sbind];obtain⟨P,e⟩:=Jid (g:=⟨⟨0,0⟩,min (max bits 0) 4096⟩) hn C hk r h w eT eY eP eT' eY' eP' (by rw[J5,J5];exact m) (by rw[J5,J5];exact j) (by rw[J5];exact G) (by rw[J5];exact hp) (by simp only[];omega);rw[show(⟨toF (fv p.T),toF (fv q.T)⟩:Q8)=toD (fv p.T) (fv q.T) from rfl,e,sbind];unfold pfieldQ;simp only[];cases hr:prunQ (min (max bits 0) 4096) (fv p.T) (rv p.Y) (rv p.P) (fv q.T) (rv q.Y) (rv q.P) t.Code 0 [] [] with
 | inl q=>
   have hk:=Quc hr;simp only[];rw[sbind];simp only[];rw[Yx om,ov,bifT]
 | inr l=>
   obtain⟨H,I,R,S⟩:=Q0h om (λ_ h=>by cases h) (λ_ h=>by cases h) rfl hr;have Q:l.1.length=t.Code.length:=by simpa using H
   simp only[];rw[sbind];simp only[];rw[Wf,ot,bifF];rw[Qjy (λi=>(toR ((t.Av.take i).map λo=>l.1.getD o.toNat 0),toR ((t.Av.take i).map λo=>l.2.getD o.toNat 0))) t.Av];rw[xu];rfl;intro i o s;have E:=r.2.2 o (Jr s);have hi:=K1 s;rw[Qs6 I E.1 om,sbind,Vt (by simp only[Kr,ou,xk,xm,yh];omega) (by simp only[Kr,ou,xk,xm,yh];omega),sbind,sbind,Vt (by simp only[Kr,ou,xk,xm,yh];omega) (by simp only[Kr,ou,xk,xm,yh];omega),sbind,Q8y s];simp only[yf,yv,List.map_nil];rw[<-Q40,<-Q40];rfl;rfl
theorem Q0i{t:Qr}{lim T Y P T' Y' P' l}(a:lim<=4096)(h:pfieldQ t lim T Y P T' Y' P'=.inr l):l.1.length=t.Av.length/\l.2.length=t.Av.length/\QR 129 l.1/\QR 129 l.2:=by
 unfold pfieldQ at h;cases hr:prunQ lim T Y P T' Y' P' t.Code 0 [] [] with
 | inl q=>rw[hr] at h;cases h
 | inr l'=>
   rw[hr] at h;cases h;obtain⟨i,j,e,f⟩:=Q0h a (λ_ h=>by cases h) (λ_ h=>by cases h) rfl hr;refine⟨oc,oc,λq d=>?_,λq d=>?_⟩;obtain⟨o,_,rfl⟩:=xd.1 d;exact V4 e om;obtain⟨o,_,rfl⟩:=xd.1 d;exact V4 f om
theorem Q2v{t:Qr}{lim T Y P T' Y' P' e}(h:pfieldQ t lim T Y P T' Y' P'=.inl e):e.1=3\/e.1=6:=by
 unfold pfieldQ at h;cases hr:prunQ lim T Y P T' Y' P' t.Code 0 [] [] with
 | inl q=>rw[hr] at h;cases h;exact Quc hr
 | inr l'=>rw[hr] at h;cases h
set_option maxRecDepth 100000
def tstageQ(t:Qr)(lim:Int)(T H:Rat)(U V P:List Rat)(y a:List Rat)(c:Rat)(i:Nat)(kss:List (List Rat)):Qe ⊕ List Rat:=
 match fitQ lim (fromQ H U a kss) 0 with
 | some j=>.inl ⟨6,0,(i:Int),300+(j:Int)⟩
 | none=>match pfieldQ t lim (T+H*c) y P 0 (fromQ H U a kss) V with
   | .inl e=>.inl ⟨e.1,0,(i:Int),(e.2.2:Int)⟩
   | .inr k=>.inr k.2
def tstagesQ(t:Qr)(lim:Int)(T H:Rat)(U V P:List Rat):List ((List Rat×Rat)×List Rat)->Nat->List (List Rat)->Qe ⊕ List (List Rat)
 | [],_,kss=>.inr kss
 | x::r,i,kss=>match tstageQ t lim T H U V P x.2 x.1.1 x.1.2 i kss with
   | .inl f=>.inl f
   | .inr k=>tstagesQ t lim T H U V P r (i+1) (kss++[k])
def tendQ(s:Q2)(lim:Int)(H:Rat)(U:List Rat)(kss:List (List Rat)):Qe ⊕ (List Rat×List Rat):=
 match fitQ lim (fromQ H U (rv s.B) kss) 0 with
 | some j=>.inl ⟨6,0,(s.B.length:Int),300+(j:Int)⟩
 | none=>match fitQ lim (if gapQ s=[] then [] else towQ H U.length (gapQ s) kss) 0 with
   | some j=>.inl ⟨6,0,(s.B.length:Int)+1,300+(j:Int)⟩
   | none=>.inr (fromQ H U (rv s.B) kss,if gapQ s=[] then [] else towQ H U.length (gapQ s) kss)
def tdoQ(t:Qr)(s:Q2)(lim:Int)(T H:Rat)(U V P:List Rat)(yss:List (List Rat)):Qe ⊕ (List Rat×List Rat):=
 match tstagesQ t lim T H U V P (List.zip (pairQ s) yss) 0 [] with
 | .inl f=>.inl f
 | .inr kss=>tendQ s lim H U kss
section
variable {n k:Nat}{p:Qn}{t h:Qc}{y u v:List Qc}{g:Ql}{md:Ju}{ks:List (List Qc)}
theorem Q97{c:List Qc}{kss:List (List Rat)}(hn:big<=n)(h0:129<=k)(hk:k<16384)(q:Fk k h)(m:FR k c)(e:∀ a∈kss,QR 129 a)(r:kss.length<=8)(i:c.length=kss.length)(d:∀ a∈kss,a.length=u.length)(x:u.length<=6):
 Yi n p t h u v md (toRR kss) g c=some (toR (towQ (fv h) u.length (rv c) kss)):=by
 unfold Yi;rw[Qva,Q2j (j:=k) (k:=129) hn om om om om m (Q0b λa f=>X8 (e a f)) om (by rw[Qf5];omega),sbind,oo ⟨by rw[Qf5,i],Q0b λa f=>by rw[Kr];exact d a f⟩];rw[Jey];have s:=Qu9 (z:=List.replicate u.length 0) (QR_rv m om) e (Qpb u.length);have w:kss.length*(k+129+1)<=8*(k+129+1):=xt _ r;have l:=Ql3 (cs:=rv c) d (show(List.replicate u.length (0:Rat)).length=u.length by simp);rw[Qbe (k:=20*k) hn om om (Vm q om) (X8 (Jx s om)) (by rw[Kr,l];omega),sbind,Zo];rfl
theorem Q7a{c:List Qc}{kss:List (List Rat)}(hn:big<=n)(h0:129<=k)(hk:k<16384)(q:Fk k h)(j:FR k u)(l:FR k c)(e:∀ a∈kss,QR 129 a)(r:kss.length<=8)(f:c.length=kss.length)(d:∀ a∈kss,a.length=u.length)(w:u.length<=6):
 Qbt n p t h u v md (toRR kss) g c=some (toR (fromQ (fv h) (rv u) (rv c) kss)):=by
 unfold Qbt;have s:=Qsg (m:=u.length) (qw_fv q om) (QR_rv l om) e r h0;have i:=Qmv (H:=fv h) (c:=rv c) d;rw[Q97 hn h0 hk q l e r f d w,sbind,Qln (k:=20*k) hn om om (W3 j om) (X8 s) om,sbind,Kr,i,oo rfl,Zo];unfold fromQ;rw[J5]
theorem Q0j{l:List Rat}{x2:Int}(hn:big<=n)(i:QR 1099511627775 l)(m:l.length<=1000):
 ∃ a,a.limit=g.limit/\Y4 n p t h u v md ks g (toR l) x2=some (match fitQ g.limit l 0 with | none=>(⟨0,0,0,0⟩,a) | some j=>(⟨6,0,x2,300+(j:Int)⟩,a)):=by
 obtain⟨a,d,e⟩:=Q0a (g:=g) hn i;refine⟨a,d,?_⟩;unfold Y4;rw[e,sbind];cases f:fitQ g.limit l 0 with
 | none=>rfl
 | some j=>
   have:=Qgv f;simp only[ov,bifT];rw[w64 om om]
theorem Jno{k:Nat}:Fk k ⟨⟨false,[]⟩,[]⟩:=⟨(λ_ h=>by cases h),ya _,(λ_ h=>by cases h),ya _⟩
theorem Jnp:fv ⟨⟨false,[]⟩,[]⟩=0:=by decide +kernel
theorem Jef{i:Nat}{a:List Qc}{c:Qc}{m:List Rat}{kss yss:List (List Rat)}{ks0:List (List Qc)}{nx er:List Qc}(hn:big<=n)(h0:129<=k)(hk:k<16384)(ok:PrbOK n k p t h y)(R:FR k u)(J:u.length=y.length)(hv:FR k v)(K:v.length=p.P.length)(Z:g.limit=limQ p.Aw)
 (s:p.Ap.A[i]?=some a) (P:p.Ap.C[i]?=some c) (L:yss[i]?=some m) (M:QR 129 m) (S:m.length=y.length) (B:∀ a∈kss,QR 129 a) (hki:kss.length=i) (I:∀ a∈kss,a.length=y.length) :
 ∃ F,F.limit=g.limit/\∃ r,Qcj n p t h u v ⟨toRR yss,ks0,nx,er⟩ (toRR kss) g (i:Int)=some r /\
   match tstageQ p.Tape (limQ p.Aw) (fv t) (fv h) (rv u) (rv v) (rv p.P) m (rv a) (fv c) i kss with
   | .inl f=>r.1=f/\f.Ay≠0
   | .inr z=>r=(⟨0,0,0,0⟩,p,t,h,u,v,⟨toRR yss,ks0,nx,er⟩,toRR (kss++[z]),F)/\QR 129 z/\z.length=y.length:=by
 obtain⟨⟨d1,d2⟩,⟨d3,d4⟩,d5,d6⟩:=ok.tp.r.1;obtain⟨⟨g1,g2⟩,g3,g4,g5,V⟩:=ok.sr.2.1;have hi:=K1 s;have hyl:=ok.yl;have hpl:=ok.pl;have w:=ok.sw.a a (Jr s);have A:=ok.sw.c c (Jr P);have X:=V i a s;have d:∀ a∈kss,a.length=u.length:=λa s=>by rw[J];exact I a s
 have O:=Qns (QR_rv R om) (qw_fv ok.hk om) (QR_rv w om) B om h0;have G:=Qha (H:=fv h) (Y:=rv u) (c:=rv a) (kss:=kss) (by rw[J5];exact d);rw[J5] at G;unfold Qcj;rw[Je s,sbind,Q7a hn h0 hk ok.hk R w B om om d om,sbind];obtain⟨F,T,U⟩:=Q0j (p:=p) (t:=t) (h:=h) (u:=u) (v:=v) (g:=g) (md:=⟨toRR yss,ks0,nx,er⟩) (ks:=toRR kss) (x2:=(i:Int)) hn (Jx O (show 22*k<=1099511627775 by omega)) om;refine⟨F,T,?_⟩;rw[U,sbind,Z];unfold tstageQ;cases hf:fitQ (limQ p.Aw) (fromQ (fv h) (rv u) (rv a) kss) 0 with
 | some j=>
   simp only[];rw[Yx oz,ov,bifT];exact⟨_,rfl,rfl,oz⟩
 | none=>
   simp only[];rw[Wf,ot,bifF];have E:=Wa (qw_fv ok.hk om) (qw_fv A om);have N:=Zn (qw_fv ok.tk om) E;rw[Qxw hn h0 hk ok.tk ok.hk A P,sbind,Je (show(toRR yss)[i]?=some (toR m) by unfold toRR;rw[yr,L];rfl),sbind];have W:=Q69 (k:=22*k) (t:=p.Tape) (p:=⟨toF (fv t+fv h*fv c),toR m,p.P⟩) (q:=⟨⟨⟨false,[]⟩,[]⟩,toR (fromQ (fv h) (rv u) (rv a) kss),v⟩) (bits:=p.Aw) hn om om ⟨ok.tp.r,ok.tp.h,λx hx=>Vm (ok.tp.w x hx) om⟩ (Js om) (X8 (Jx M om)) (W3 ok.pk om) Jno (X8 O) (W3 hv om) (by simp only[Kr];omega) ok.pl (by simp only[Kr];omega) K;rw[W,sbind];simp only[];rw[Jf,Zo,Zo,Jnp];have C:limQ p.Aw=min (max p.Aw 0) 4096:=rfl;rw[C];cases Q:pfieldQ p.Tape (min (max p.Aw 0) 4096) (fv t+fv h*fv c) m (rv p.P) 0 (fromQ (fv h) (rv u) (rv a) kss) (rv v) with
   | inl e=>
     have hkd:=Q2v Q;simp only[];rw[Yx om,ov,bifT];exact⟨_,rfl,rfl,by show e.1≠0;omega⟩
   | inr l=>
     obtain⟨q1,q2,q3,q4⟩:=Q0i om Q;simp only[];rw[Wf,ot,bifF,Vt (by rw[Qf5];simp;omega) (by rw[Qf5];simp;omega),sbind];refine⟨_,rfl,?_,q4,om⟩;unfold toRR;rw[yf];rfl
theorem Q98{s:Q2}{yss:List (List Rat)}{i:Nat}{a:List Qc}{c:Qc}{e:List Rat}(f:s.A[i]?=some a)(j:s.C[i]?=some c)(l:yss[i]?=some e):(List.zip (pairQ s) yss).drop i=((rv a,fv c),e)::(List.zip (pairQ s) yss).drop (i+1):=by
 have d:(List.zip (pairQ s) yss)[i]?=some ((rv a,fv c),e):=by rw[jg];refine⟨?_,l⟩;unfold pairQ rv;rw[jg];simp only[yr];exact⟨by rw[f];rfl,by rw[j];rfl⟩
 have hi:=K1 d;rw[xi hi];congr 1;rw[oq hi] at d;exact Option.some.inj d
abbrev TiS:=Qn×Qc×Qc×(List Qc)×(List Qc)×Ju×(List (List Qc))×Ql
abbrev TiR:=Kx×Qe×Qn×Qc×Qc×(List Qc)×(List Qc)×Ju×(List (List Qc))×Ql
def noMv:Kx:=⟨[],[],⟨[],[],[],[]⟩⟩
def tiBody(n:Nat)(e:Nat)(_:Qc)(d:TiS):Option (Lp TiS TiR):=
    (Qcj n d.1 d.2.1 d.2.2.1 d.2.2.2.1 d.2.2.2.2.1 d.2.2.2.2.2.1 d.2.2.2.2.2.2.1 d.2.2.2.2.2.2.2 (e:Int)).bind λa=>
    bif !(Q7 a.1 (⟨0,0,0,0⟩:Qe)) then (
     some (Lp.out (((⟨[],[],(⟨[],[],[],[]⟩:Ju)⟩:Kx),a.1,a.2.1,a.2.2.1,a.2.2.2.1,a.2.2.2.2.1,a.2.2.2.2.2.1,a.2.2.2.2.2.2.1,a.2.2.2.2.2.2.2.1,a.2.2.2.2.2.2.2.2))))
    else (
     some (Lp.go (a.2.1,a.2.2.1,a.2.2.2.1,a.2.2.2.2.1,a.2.2.2.2.2.1,a.2.2.2.2.2.2.1,a.2.2.2.2.2.2.2.1,a.2.2.2.2.2.2.2.2)))
def tiFin(n:Nat)(x0_p:Qn)(a:TiS)(g:Ql)(e:Kx):Option TiR:=
 (Y4 n a.1 a.2.1 a.2.2.1 a.2.2.2.1 a.2.2.2.2.1 a.2.2.2.2.2.1 a.2.2.2.2.2.2.1 g e.A5 (wrap64 ((x0_p.Ap.B.length:Int)+(1:Int)))).bind λd=>
 bif !(Q7 d.1 (⟨0,0,0,0⟩:Qe)) then (
  some ((⟨[],[],(⟨[],[],[],[]⟩:Ju)⟩:Kx),d.1,a.1,a.2.1,a.2.2.1,a.2.2.2.1,a.2.2.2.2.1,a.2.2.2.2.2.1,a.2.2.2.2.2.2.1,d.2))
 else (
  some (e,(⟨0,0,0,0⟩:Qe),a.1,a.2.1,a.2.2.1,a.2.2.2.1,a.2.2.2.2.1,a.2.2.2.2.2.1,a.2.2.2.2.2.2.1,d.2))
def tiEnd(n:Nat)(x0_p:Qn)(x0_made:Ju)(a:TiS):Option TiR:=
 (Qbt n a.1 a.2.1 a.2.2.1 a.2.2.2.1 a.2.2.2.2.1 a.2.2.2.2.2.1 a.2.2.2.2.2.2.1 a.2.2.2.2.2.2.2 x0_p.Ap.B).bind λe=>
 (Y4 n a.1 a.2.1 a.2.2.1 a.2.2.2.1 a.2.2.2.2.1 a.2.2.2.2.2.1 a.2.2.2.2.2.2.1 a.2.2.2.2.2.2.2 e (x0_p.Ap.B.length:Int)).bind λd=>
 bif !(Q7 d.1 (⟨0,0,0,0⟩:Qe)) then (
  some ((⟨[],[],(⟨[],[],[],[]⟩:Ju)⟩:Kx),d.1,a.1,a.2.1,a.2.2.1,a.2.2.2.1,a.2.2.2.2.1,a.2.2.2.2.2.1,a.2.2.2.2.2.2.1,d.2))
 else (
  jn (λ(f:(Kx)->Option _)=>
   (Qgi n x0_p.Ap).bind λi=>
   bif decide ((0:Int)<(i.length:Int)) then (
    (Yi n a.1 a.2.1 a.2.2.1 a.2.2.2.1 a.2.2.2.2.1 a.2.2.2.2.2.1 a.2.2.2.2.2.2.1 d.2 i).bind λj=>
    f ⟨e,j,x0_made⟩)
   else (
    f ⟨e,[],x0_made⟩)) (tiFin n x0_p a d.2))
theorem Jie(ks):Qfv n p t h u v md ks g=(rangeL (tiBody n) p.Ap.B 0 (p,t,h,u,v,md,ks,g)).bind (lpK (tiEnd n p md)):=ut (ut rfl)
theorem Jif{yss:List (List Rat)}{ks0:List (List Qc)}{nx er:List Qc}(hn:big<=n)(h0:129<=k)(hk:k<8000)(ok:PrbOK n k p t h y)(hu:FR k u)(Q:u.length=y.length)(hv:FR k v)(hvl:v.length=p.P.length)(L:g.limit=limQ p.Aw)
 (hys:∀ a∈yss,QR 129 a/\a.length=y.length) (hysl:yss.length=p.Ap.B.length) :
 ∃ r,Qfv n p t h u v ⟨toRR yss,ks0,nx,er⟩ [] g=some r /\
   match tdoQ p.Tape p.Ap (limQ p.Aw) (fv t) (fv h) (rv u) (rv v) (rv p.P) yss with
   | .inl f=>r.1=noMv/\r.2.1=f/\f.Ay≠0
   | .inr z=>r.1=⟨toR z.1,toR z.2,⟨toRR yss,ks0,nx,er⟩⟩/\r.2.1=⟨0,0,0,0⟩/\QR 129 z.1/\z.1.length=u.length:=by
 obtain⟨⟨d1,d2⟩,⟨d3,d4⟩,d5,d6⟩:=ok.tp.r.1;obtain⟨⟨g1,g2⟩,g3,g4,E,g6⟩:=ok.sr.2.1;have hyl:=ok.yl;rw[Jie]
 have key:∀(A:List Qc) (i:Nat) (g:Ql) (kss:List (List Rat)) (K:TiS->Option TiR),
  i+A.length=p.Ap.B.length->kss.length=i->(∀ a∈kss,QR 129 a)->(∀ a∈kss,a.length=y.length)->g.limit=limQ p.Aw ->
  match tstagesQ p.Tape (limQ p.Aw) (fv t) (fv h) (rv u) (rv v) (rv p.P) ((List.zip (pairQ p.Ap) yss).drop i) i kss with
  | .inl f=>∃ r,(rangeL (tiBody n) A i (p,t,h,u,v,⟨toRR yss,ks0,nx,er⟩,toRR kss,g)).bind (lpK K)=some r/\r.1=noMv/\r.2.1=f/\f.Ay≠0
  | .inr z=>∃ q,q.limit=limQ p.Aw/\(rangeL (tiBody n) A i (p,t,h,u,v,⟨toRR yss,ks0,nx,er⟩,toRR kss,g)).bind (lpK K)=K (p,t,h,u,v,⟨toRR yss,ks0,nx,er⟩,toRR z,q)/\z.length=p.Ap.B.length/\(∀ a∈z,QR 129 a)/\∀ a∈z,a.length=y.length:=by
  intro A
  induction A with
  | nil=>
    intro i g kss K hi N T S L;simp only[yh,xq] at hi;have l:(List.zip (pairQ p.Ap) yss).drop i=[]:=by apply jm;rw[wo];omega
    rw[l];simp only[tstagesQ];exact⟨g,L,rfl,om,T,S⟩
  | cons b A ih=>
    intro i g kss K hi N T S L;rw[xm] at hi;have d:p.Ap.A[i]?=some (p.Ap.A[i]' om):=oq om;have Z:p.Ap.C[i]?=some (p.Ap.C[i]' om):=oq om;have w:yss[i]?=some (yss[i]' om):=oq om;have x:=hys (yss[i]' om) (xb _);generalize p.Ap.A[i]' om=a at d;generalize p.Ap.C[i]' om=c at Z;generalize yss[i]' om=yi at w x;rw[Q98 d Z w];simp only[tstagesQ,rangeL];obtain⟨q,e1,r,V,C⟩:=Jef (g:=g) (ks0:=ks0) (nx:=nx) (er:=er) hn h0 om ok hu Q hv hvl L d Z w x.1 x.2 T N S
    have eb:tiBody n i b (p,t,h,u,v,⟨toRR yss,ks0,nx,er⟩,toRR kss,g)=(bif !(Q7 r.1 (⟨0,0,0,0⟩:Qe)) then (
     some (Lp.out ((noMv,r.1,r.2.1,r.2.2.1,r.2.2.2.1,r.2.2.2.2.1,r.2.2.2.2.2.1,r.2.2.2.2.2.2.1,r.2.2.2.2.2.2.2.1,r.2.2.2.2.2.2.2.2))))
     else (
      some (Lp.go (r.2.1,r.2.2.1,r.2.2.2.1,r.2.2.2.2.1,r.2.2.2.2.2.1,r.2.2.2.2.2.2.1,r.2.2.2.2.2.2.2.1,r.2.2.2.2.2.2.2.2)))):=by
     unfold tiBody;rw[V,sbind];rfl
    rw[eb];cases P:tstageQ p.Tape (limQ p.Aw) (fv t) (fv h) (rv u) (rv v) (rv p.P) yi (rv a) (fv c) i kss with
    | inl f=>
      rw[P] at C;obtain⟨B,R⟩:=C;obtain⟨⟨f1,f2,f3,f4⟩,r⟩:=r;simp only[] at B;subst B;simp only[];rw[Yx R,ov,bifT,sbind];exact⟨_,rfl,rfl,rfl,R⟩
    | inr z=>
      rw[P] at C;obtain⟨B,R,e6⟩:=C;subst B;simp only[];rw[Wf,ot,bifF,sbind]
      exact ih (i+1) q (kss++[z]) K om oh (λa d=>by
       rcases ym.1 d with d | d;exact T a d;rw[xx.1 d];exact R) (λa d=>by
       rcases ym.1 d with d | d;exact S a d
       rw[xx.1 d];exact e6) om
 have F:=key p.Ap.B 0 g [] (tiEnd n p ⟨toRR yss,ks0,nx,er⟩) om rfl (λ_ h=>by cases h) (λ_ h=>by cases h) L;unfold tdoQ;rw[gy] at F;cases P:tstagesQ p.Tape (limQ p.Aw) (fv t) (fv h) (rv u) (rv v) (rv p.P) (List.zip (pairQ p.Ap) yss) 0 [] with
 | inl f=>
   rw[P] at F;exact F
 | inr kss=>
   rw[P] at F;obtain⟨q,q1,q2,q4,U,q6⟩:=F;simp only[];rw[show([]:List (List Qc))=toRR [] from rfl,q2];unfold tiEnd;simp only[];have m:∀ a∈kss,a.length=u.length:=λa d=>by rw[Q];exact q6 a d
   have X:=Qns (QR_rv hu om) (qw_fv ok.hk om) (QR_rv ok.sw.b om) U om h0;have O:=Qha (H:=fv h) (Y:=rv u) (c:=rv p.Ap.B) (kss:=kss) (by rw[J5];exact m);rw[J5] at O;have M:=Q6v (k:=k) (s:=p.Ap) om ok.sw;rw[Q7a hn h0 om ok.hk hu ok.sw.b U om om m om,sbind];obtain⟨e,e1,V⟩:=Q0j (p:=p) (t:=t) (h:=h) (u:=u) (v:=v) (g:=q) (md:=⟨toRR yss,ks0,nx,er⟩) (ks:=toRR kss) (x2:=(p.Ap.B.length:Int)) hn (Jx X (show 22*k<=1099511627775 by omega)) om;rw[V,sbind,q1];unfold tendQ;cases hf:fitQ (limQ p.Aw) (fromQ (fv h) (rv u) (rv p.Ap.B) kss) 0 with
   | some j=>
     simp only[];rw[Yx oz,ov,bifT];exact⟨_,rfl,rfl,rfl,oz⟩
   | none=>
     simp only[];rw[Wf,ot,bifF,jn_eq,Qwn hn om om ok.sw ok.sr,sbind,Kr];have hE:((Yi n p t h u v ⟨toRR yss,ks0,nx,er⟩ (toRR kss) e (toR (gapQ p.Ap)))=some (toR (towQ (fv h) u.length (gapQ p.Ap) kss))\/gapQ p.Ap=[])/\QR (41*k+1000) (if gapQ p.Ap=[] then [] else towQ (fv h) u.length (gapQ p.Ap) kss)/\(if gapQ p.Ap=[] then [] else towQ (fv h) u.length (gapQ p.Ap) kss).length<=1000:=by
      by_cases l:gapQ p.Ap=[]
      rw[oo l];exact⟨.inr l,λ_ h=>(by cases h),oc⟩;have J:p.Ap.E.length=p.Ap.B.length:=by rcases E with E | E;exact E;exact absurd (by unfold gapQ;rw[oo (ow E)]) l
      have hgl:(gapQ p.Ap).length=p.Ap.B.length:=by unfold gapQ;rw[ol (λh=>by rw[h] at J;simp at J;omega),Qf4,Qcd,J5,J5];omega
      rw[ol l];have ht:=Q97 (k:=2*k+2) (p:=p) (t:=t) (h:=h) (u:=u) (v:=v) (g:=e) (md:=⟨toRR yss,ks0,nx,er⟩) (c:=toR (gapQ p.Ap)) (kss:=kss) hn om om (Vm ok.hk om) (X8 M) U om (by rw[Kr];omega) m om;rw[Zo] at ht;refine⟨.inl ht,Jx (Qsg (k:=2*k+2) (xe (qw_fv ok.hk om) om) M U om om) om,?_⟩;rw[Qmv m];omega
     obtain⟨W,G,I⟩:=hE;have hj:∀ {β:Type}(f:Kx->Option β),(bif decide ((0:Int)<((gapQ p.Ap).length:Int)) then (Yi n p t h u v ⟨toRR yss,ks0,nx,er⟩ (toRR kss) e (toR (gapQ p.Ap))).bind λr34=>f ⟨toR (fromQ (fv h) (rv u) (rv p.Ap.B) kss),r34,⟨toRR yss,ks0,nx,er⟩⟩ else f ⟨toR (fromQ (fv h) (rv u) (rv p.Ap.B) kss),[],⟨toRR yss,ks0,nx,er⟩⟩)=f ⟨toR (fromQ (fv h) (rv u) (rv p.Ap.B) kss),toR (if gapQ p.Ap=[] then [] else towQ (fv h) u.length (gapQ p.Ap) kss),⟨toRR yss,ks0,nx,er⟩⟩:=by
      intro β f;by_cases l:gapQ p.Ap=[]
      rw[oo l,l];rfl;have:(gapQ p.Ap).length≠0:=λh=>l (ow h);rw[ol l,oi om,bifT,W.resolve_right l,sbind]
     rw[hj (tiFin n p (p,t,h,u,v,⟨toRR yss,ks0,nx,er⟩,toRR kss,q) e)];unfold tiFin;rw[w1 om,J5];generalize (if gapQ p.Ap=[] then [] else towQ (fv h) u.length (gapQ p.Ap) kss)=er' at G I |-;simp only[];obtain⟨g3',C,B⟩:=Q0j (p:=p) (t:=t) (h:=h) (u:=u) (v:=v) (g:=e) (md:=⟨toRR yss,ks0,nx,er⟩) (ks:=toRR kss) (x2:=((p.Ap.B.length+1:Nat):Int)) hn (Jx G (show 41*k+1000<=1099511627775 by omega)) I;rw[B,sbind,show e.limit=limQ p.Aw by omega];cases hf2:fitQ (limQ p.Aw) er' 0 with
     | some j=>
       simp only[];rw[Yx oz,ov,bifT];exact⟨_,rfl,rfl,rfl,by show(6:Int)≠0;decide⟩
     | none=>
       simp only[];rw[Wf,ot,bifF];exact⟨_,rfl,rfl,rfl,Qmw (by unfold limQ;omega) hf,O⟩
end
noncomputable def tiltQ(p:Qn)(T H:Rat)(Y U V:List Rat):Qe ⊕ (MadeQ×List Rat×List Rat):=
 match stepQ p T H Y with
 | .inl f=>if f.Ay=2\/U.length≠Y.length\/V.length≠p.P.length then .inl ⟨2,0,0,0⟩ else .inl f
 | .inr z=>if U.length≠Y.length\/V.length≠p.P.length then .inl ⟨2,0,0,0⟩ else match tdoQ p.Tape p.Ap (limQ p.Aw) T H U V (rv p.P) z.ys with
   | .inl f=>.inl f
   | .inr w=>.inr (z,w.1,w.2)
theorem Q32{n k:Nat}{p:Qn}{t h:Qc}{y u v:List Qc}(hn:big<=n)(h0:129<=k)(hk:k<8000)(B:PrbW k p)(A:Fk k t)(x:Fk k h)(C:FR k y)(L:FR k u)(M:FR k v):
 Qh6 n p t h y u v=some (match tiltQ p (fv t) (fv h) (rv y) (rv u) (rv v) with | .inl f=>(noMv,f) | .inr z=>(⟨toR z.2.1,toR z.2.2,toM z.1⟩,⟨0,0,0,0⟩))/\(∀ f,tiltQ p (fv t) (fv h) (rv y) (rv u) (rv v)=.inl f->f.Ay≠0)/\∀ z,tiltQ p (fv t) (fv h) (rv y) (rv u) (rv v)=.inr z->stepQ p (fv t) (fv h) (rv y)=.inr z.1/\QR 129 z.2.1/\z.2.1.length=y.length/\u.length=y.length/\v.length=p.P.length:=by
 obtain⟨F,G⟩:=Qrq hn h0 hk B A x C;unfold Qh6 tiltQ;simp only[jn_eq];rw[F,sbind];cases q:stepQ p (fv t) (fv h) (rv y) with
 | inl f=>
   have s:=G f q;obtain⟨J,Q,f3,f4⟩:=f;simp only[];rw[J5,J5,J5,bifd];by_cases c1:J=2
   . rw[oo c1,oo (Or.inl c1)]
     exact⟨rfl,(λf h=>by cases h;show(2:Int)≠0;decide),λz h=>by cases h⟩
   rw[ol c1];by_cases d:u.length=y.length
   case neg=>
    rw[oj (show ¬(u.length:Int)=(y.length:Int) by omega),oo (.inr (.inl d))];exact⟨rfl,(λf h=>by cases h;show(2:Int)≠0;decide),λz h=>by cases h⟩
   rw[oi (show(u.length:Int)=(y.length:Int) by omega),ot,bifF];by_cases e:v.length=p.P.length
   case neg=>
    rw[oj (show ¬(v.length:Int)=(p.P.length:Int) by omega),oo (.inr (.inr e))];exact⟨rfl,(λf h=>by cases h;show(2:Int)≠0;decide),λz h=>by cases h⟩
   rw[oi (show(v.length:Int)=(p.P.length:Int) by omega),ot,bifF,Yx s,ov,bifT,ol (by rintro(g | g | g)<;>contradiction)];exact⟨rfl,(λf h=>by cases h;exact s),λz h=>by cases h⟩
 | inr z=>
   obtain⟨N,E,R,S,T⟩:=Qnt q;obtain⟨O,P⟩:=Q0f q;rw[J5] at E;simp only[];rw[J5,J5,J5,show decide ((0:Int)=2)=false from rfl,bifF];by_cases d:u.length=y.length
   case neg=>
    rw[oj (show ¬(u.length:Int)=(y.length:Int) by omega),oo (.inl d)];exact⟨rfl,(λf h=>by cases h;show(2:Int)≠0;decide),λz h=>by cases h⟩
   rw[oi (show(u.length:Int)=(y.length:Int) by omega),ot,bifF];by_cases e:v.length=p.P.length
   case neg=>
    rw[oj (show ¬(v.length:Int)=(p.P.length:Int) by omega),oo (.inr e)];exact⟨rfl,(λf h=>by cases h;show(2:Int)≠0;decide),λz h=>by cases h⟩
   rw[oi (show(v.length:Int)=(p.P.length:Int) by omega),ot,bifF,Wf,ot,bifF,ol (by rintro(g | g)<;>contradiction)];unfold Z1;rw[sbind];have ok:=B.ok hn hk N A x C E;obtain⟨r,H,i⟩:=Jif (g:=⟨⟨0,0⟩,min (max p.Aw 0) 4096⟩) (yss:=z.ys) (ks0:=toRR z.ks) (nx:=toR z.next) (er:=toR z.err) hn h0 hk ok L d M e rfl (λa K=>by have:=O a K;rwa [J5] at this) P;rw[show toM z=⟨toRR z.ys,toRR z.ks,toR z.next,toR z.err⟩ from rfl,H,sbind];cases hd:tdoQ p.Tape p.Ap (limQ p.Aw) (fv t) (fv h) (rv u) (rv v) (rv p.P) z.ys with
   | inl f=>
     rw[hd] at i;obtain⟨j,l,m⟩:=i;refine⟨by simp only[];rw[j,l],(λf h=>by cases h;exact m),λz h=>by cases h⟩
   | inr w=>
     rw[hd] at i;obtain⟨j,l,m,I⟩:=i;refine⟨by simp only[];rw[j,l];rfl,(λf h=>by cases h),λz h=>by cases h;exact⟨rfl,m,I.trans d,d,e⟩⟩
set_option maxRecDepth 100000
theorem Jig{s:Q2}{lim:Int}{H:Rat}{U:List Rat}{kss:List (List Rat)}{w}(h:tendQ s lim H U kss=.inr w):w.1=fromQ H U (rv s.B) kss:=by unfold tendQ at h;split at h;cases h;split at h;cases h;cases h;rfl
theorem Q4m{t:Qr}{lim:Int}{T H:Rat}{P U V:List Rat}(d:lim<=4096)(A:t.Av.length=U.length):∀ {r:List ((List Rat×Rat)×List Rat)}{i:Nat}{k z},(∀ a∈k,a.length=U.length)->tstagesQ t lim T H U V P r i k=.inr z->∀ a∈z,a.length=U.length
 | [],i,k,z,g,h=>by simp only[tstagesQ] at h;cases h;exact g
 | x::r,i,k,z,g,h=>by
   simp only[tstagesQ] at h;cases s:tstageQ t lim T H U V P x.2 x.1.1 x.1.2 i k with
   | inl f=>rw[s] at h;cases h
   | inr w=>
     rw[s] at h;have B:w.length=U.length:=by
      unfold tstageQ at s;cases m:fitQ lim (fromQ H U x.1.1 k) 0 with
      | some j=>rw[m] at s;cases s
      | none=>
        rw[m] at s;simp only[] at s;cases hp:pfieldQ t lim (T+H*x.1.2) x.2 P 0 (fromQ H U x.1.1 k) V with
        | inl e=>rw[hp] at s;cases s
        | inr q=>rw[hp] at s;cases s;rw[(Q0i d hp).2.1];exact A
     exact Q4m d A (λa l=>by
      rcases ym.1 l with l | l;exact g a l
      rw[xx.1 l];exact B) h
theorem Jfa{p:Qn}{T H:Rat}{Y U V:List Rat}{z}(h:tiltQ p T H Y U V=.inr z):stepQ p T H Y=.inr z.1/\U.length=Y.length/\V.length=p.P.length/\tdoQ p.Tape p.Ap (limQ p.Aw) T H U V (rv p.P) z.1.ys=.inr z.2:=by
 unfold tiltQ at h;cases d:stepQ p T H Y with
 | inl f=>
   rw[d] at h;simp only[] at h;split at h<;>cases h
 | inr w=>
   rw[d] at h;simp only[] at h;split at h;cases h;rename_i a;cases hd:tdoQ p.Tape p.Ap (limQ p.Aw) T H U V (rv p.P) w.ys with
   | inl f=>rw[hd] at h;cases h
   | inr x=>
     rw[hd] at h;cases h;refine⟨rfl,?_,?_,hd⟩;exact Decidable.not_not.1 λg=>a (.inl g);exact Decidable.not_not.1 λg=>a (.inr g)
theorem Qzc{n k:Nat}{a b:List Rat}(hn:big<=n)(d:a.length<=1000000)(hk:k<274877906944)(h:QR k a):Qc6 n (toR a) (rR b)=some (decide (a=b)):=by unfold Qc6;rw[Qmi hn (by rw[Kr];exact d),sbind,Q2o,Qf7 hn d hk h,sbind]
theorem Jjs{a b d e:Rat}(h:b≠0):(d*b - a*e) / (b*b)=(d - a / b*e) / b:=by rw[wh,wh,wh,Rat.inv_mul_rev];have:b*b⁻¹=1:=Rat.mul_inv_cancel b h;grind
theorem Q5g{n k:Nat}{t:Q4}{x:Jv}{T T' q:Rat}{Y P Y' P' vs ds:List Rat}(hn:big<=n)(s:1<=k)(hk:k<1048576)(A:mayR (tT t) vs.length (tI x))
 (J:QR k vs) (Q:qw T'<=k) (G:QR k Y') (F:QR k P') (I:QR k ds) (K:ds.length=vs.length) (W:(Y'.length:Int)=t.A3) (hp:(P'.length:Int)=t.A9) (f:opQ (tI x) T Y P vs=some q) :
 Zd n x ⟨rF T',rR Y',rR P'⟩ (rR vs) (rR ds)=some (rF (slopeQ (tI x) q T' Y' P' vs ds))/\qw (slopeQ (tI x) q T' Y' P' vs ds)<=20*k+10:=by
 unfold Zd slopeQ;unfold opQ at f;have eO:(tI x).Op=x.Op:=rfl;have eA:(tI x).A=x.A:=rfl;have eB:(tI x).B=x.B:=rfl;have j:=Qqb A;have gA:x.Op=6\/x.Op=11\/x.Op=7\/x.Op=8\/x.Op=9\/x.Op=10->getI (rR vs) x.A=some (rF (vs.getD x.A.toNat 0)):=λh=>Qfk (j _ (rdT_A (x:=tI x) h)).1 (j _ (rdT_A (x:=tI x) h)).2;have gB:x.Op=7\/x.Op=8\/x.Op=9\/x.Op=10->getI (rR vs) x.B=some (rF (vs.getD x.B.toNat 0)):=λh=>Qfk (j _ (rdT_B (x:=tI x) h)).1 (j _ (rdT_B (x:=tI x) h)).2;have dA:x.Op=6\/x.Op=11\/x.Op=7\/x.Op=8\/x.Op=9\/x.Op=10->getI (rR ds) x.A=some (rF (ds.getD x.A.toNat 0)):=λh=>Qfk (j _ (rdT_A (x:=tI x) h)).1 (by rw[K];exact(j _ (rdT_A (x:=tI x) h)).2);have dB:x.Op=7\/x.Op=8\/x.Op=9\/x.Op=10->getI (rR ds) x.B=some (rF (ds.getD x.B.toNat 0)):=λh=>Qfk (j _ (rdT_B (x:=tI x) h)).1 (by rw[K];exact(j _ (rdT_B (x:=tI x) h)).2);have qA:qw (vs.getD x.A.toNat 0)<=k:=V4 J s;have qB:qw (vs.getD x.B.toNat 0)<=k:=V4 J s;have pA:qw (ds.getD x.A.toNat 0)<=k:=V4 I s;have pB:qw (ds.getD x.B.toNat 0)<=k:=V4 I s;have w:=Q8t A;rw[eO] at w;simp only[eO,eA,eB] at f |-;generalize vs.getD x.A.toNat 0=a at gA qA f |-;generalize vs.getD x.B.toNat 0=b at gB qB f |-;generalize ds.getD x.A.toNat 0=a' at dA pA |-;generalize ds.getD x.B.toNat 0=b' at dB pB |-;rcases w with h | h | h | h | h | h | h | h | h | h;simp only[h,Int.reduceEq,yw,yg,bifT,bifF,yn,yd];rw[Zp hn,sbind,Qab];exact⟨rfl,om⟩;simp only[h,Int.reduceEq,yw,yg,bifT,bifF,yd];exact⟨trivial,om⟩;obtain⟨a1,a2⟩:=Qyx A h;have l:0<=x.A:=a1;have E:x.A<t.A3:=a2;have e:getI (rR Y') x.A=some (rF (Y'.getD x.A.toNat 0)):=Qfk l om;have:=V4 (i:=x.A.toNat) G s;simp only[h,Int.reduceEq,yw,yg,bifT,bifF,yn,yd,e,sbind];exact⟨trivial,om⟩;obtain⟨a1,a2⟩:=Qyy A h;have l:0<=x.A:=a1;have E:x.A<t.A9:=a2;have e:getI (rR P') x.A=some (rF (P'.getD x.A.toNat 0)):=Qfk l om;have:=V4 (i:=x.A.toNat) F s;simp only[h,Int.reduceEq,yw,yg,bifT,bifF,yn,yd,e,sbind];exact⟨trivial,om⟩;have e:=dA om;simp only[h,Int.reduceEq,yw,yg,bifT,bifF,yn,yd,e,sbind,Qoc hn (show k<274877906944 by omega) pA];exact⟨trivial,by rw[Qjz];omega⟩;have e:=gA om;have d:=dA om;simp only[h,Int.reduceEq,yw,yg,bifT,bifF,yn,yd] at f |-;split at f;cases f;rename_i S;obtain⟨w1,L⟩:=Qvj (a:=a) (b:=x.B) hn hk qA om (λg=>S (.inr (.inr g)));have H:q=a ^ x.B:=(Option.some.inj f).symm;subst H;have:=Wa L pA;rw[e,sbind,w1,sbind,d,sbind,V8 (k:=9*k+2) hn om L om,sbind];exact⟨rfl,om⟩;have e:=dA om;have d:=dB om;have:=Zn pA pB;simp only[h,Int.reduceEq,yw,yg,bifT,bifF,yn,yd,e,d,sbind,V7 hn (show k<274877906944 by omega) pA pB];exact⟨trivial,om⟩;have e:=dA om;have d:=dB om;have:=Qpa pA pB
 simp only[h,Int.reduceEq,yw,yg,bifT,bifF,yn,yd,e,d,sbind,Qh9 hn (show k<274877906944 by omega) pA pB];exact⟨trivial,om⟩;have e:=dA om;have d:=dB om;have m:=gA om;have r:=gB om;have B:=Wa pA qB;have C:=Wa qA pB;have U:=Zn B C;simp only[h,Int.reduceEq,yw,yg,bifT,bifF,yn,yd,e,d,m,r,sbind,V8 hn (show k<274877906944 by omega) pA qB,V8 hn (show k<274877906944 by omega) qA pB,V7 hn (show k+k<274877906944 by omega) B C];exact⟨trivial,om⟩;have e:=dA om;have d:=dB om;have m:=gA om;have r:=gB om;have B:=Wa pA qB;have C:=Wa qA pB;have U:=Qpa B C;have X:=Wa qB qB;simp only[h,Int.reduceEq,yg,bifF,yn,yd] at f |-;split at f;cases f;rename_i R;have H:q=a / b:=(Option.some.inj f).symm;subst H;have M:=Qj0 qA qB;have N:=Wa M pB;have O:=Qpa pA N;have V:=Qj0 O qB;rw[e,sbind,r,sbind,V8 hn (show k<274877906944 by omega) pA qB,sbind,m,sbind,d,sbind,V8 hn (show k<274877906944 by omega) qA pB,sbind,Qh9 (k:=2*k) hn om om om,sbind,sbind,sbind,V8 hn (show k<274877906944 by omega) qB qB,sbind,Qf6 (k:=8*k+8) hn om om om,sbind,Jjs R];exact⟨rfl,om⟩
theorem Q7b{n k:Nat}{t:Q4}{T T':Rat}{Y P Y' P':List Rat}{lim:Int}(hn:big<=n)(h1:129<=k)(hk:k<1048576)(ht:tapeR (tT t))(hN:∀ c∈t.Code,Fk k (tF c.N))
 (hT:qw T<=k) (hY:QR k Y) (hP:QR k P) (N:qw T'<=k) (O:QR k Y') (M:QR k P') (hyl:Y'.length=Y.length) (hpl:P'.length=P.length) (hy:(Y.length:Int)=t.A3) (hp:(P.length:Int)=t.A9) (hg:lim<=4096) :
 Qb1 n t ⟨rF T,rR Y,rR P⟩ ⟨rF T',rR Y',rR P'⟩ lim=some (match prunQ lim T Y P T' Y' P' (tT t).Code 0 [] [] with | .inl e=>([],[],⟨e.1,e.2.1,(e.2.2:Int)⟩) | .inr l=>(rR l.1,rR l.2,⟨0,0,0⟩)):=by
 obtain⟨⟨c1,c2,c3,c4⟩,W,m2⟩:=ht;have hlen:t.Code.length<=300:=by unfold tT at c4;simpa using c4
 have eC:(tT t).Code=t.Code.map tI:=rfl;unfold Qb1
 have V:∀(m i E:Nat) (vs ds:List Rat),i+m=t.Code.length->m<E->vs.length=i->ds.length=i->QR k vs->QR k ds ->
  (loopM (λ(a:(List Qa)×(List Qa)×Int)=>
  bif decide (a.2.2<(t.Code.length:Int)) then (
   (getI t.Code a.2.2).bind λy38=>
   (Y7 n y38 ⟨rF T,rR Y,rR P⟩ a.1).bind λA=>
   bif !A.2 then (
    some (Lp.out (Lp.out ((([]:List Qa),([]:List Qa),(⟨(3:Int),(0:Int),a.2.2⟩:Jj))))))
   else (
    (Ki n A.1 lim).bind λX=>
    bif !X then (
     some (Lp.out (Lp.out ((([]:List Qa),([]:List Qa),(⟨(6:Int),(0:Int),a.2.2⟩:Jj))))))
    else (
     (getI t.Code a.2.2).bind λy44=>
     (Zd n y44 ⟨rF T',rR Y',rR P'⟩ a.1 a.2.1).bind λI=>
     (Ki n I lim).bind λZ=>
     bif !Z then (
      some (Lp.out (Lp.out ((([]:List Qa),([]:List Qa),(⟨(6:Int),(1:Int),a.2.2⟩:Jj))))))
     else (
      (appM 56 a.1 ([A.1]:List Qa)).bind λy50=>
      (appM 56 a.2.1 ([I]:List Qa)).bind λy52=>
      some (Lp.go (y50,y52,wrap64 (a.2.2+(1:Int))))))))
  else (
   some (Lp.out (Lp.go (a.1,a.2.1))))) E (rR vs,rR ds,(i:Int))).bind (lpK λ(J:(List Qa)×(List Qa))=>
 some (J.1,J.2,(⟨0,0,0⟩:Jj)))=some (match prunQ lim T Y P T' Y' P' ((tT t).Code.drop i) i vs ds with | .inl e=>([],[],⟨e.1,e.2.1,(e.2.2:Int)⟩) | .inr l=>(rR l.1,rR l.2,⟨0,0,0⟩)):=by
  intro m
  induction m with
  | zero=>
    intro i E vs ds hi R U hd L s;rw[Vs (t:=Lp.go (rR vs,rR ds)) (by simp only[];rw[oj om];rfl) om,xy,Xi,eC,xf oh];rfl
  | succ m ih=>
    intro i E vs ds hi R U hd L s;obtain⟨n'',rfl⟩:∃ n'',E=n''+1:=⟨E - 1,om⟩
    have C:t.Code[i]?=some (t.Code[i]' om):=oq om;have F:=hN (t.Code[i]' om) (xb om);generalize t.Code[i]' om=x at C F;have H:(tT t).Code[i]?=some (tI x):=by rw[eC];exact Qav tI C
    have f:=W i (tI x) H;obtain⟨v,B,e2⟩:=Qwr (T:=T) (Y:=Y) (P:=P) (done:=vs) hn om hk (by rw[U];exact f) F hT hY hP L hy hp;rw[Qnw H];simp only[prunQ]
    have fits:∀ {z:Rat}{j:Nat},j<274877906944->qw z<=j->Ki n (rF z) lim=some (decide ((qz z:Int)<=lim)):=λhj r=>by unfold Ki;rw[Qgx hn hj r,sbind]
    cases K:opQ (tI x) T Y P vs with
    | none=>
      rw[K] at B
      rw[Vs (t:=Lp.out ([],[],⟨3,0,(i:Int)⟩)) (by
       simp only[]
       rw[oi (show(i:Int)<(t.Code.length:Int) by omega),bifT,Je C,sbind,B,sbind];rfl) om,xy,Z0]
    | some q=>
      rw[K] at B;have S:=e2 q K;have Q:=fits (z:=q) (j:=8*k+1) om S;obtain⟨g1,g2⟩:=Q5g (T':=T') (Y':=Y') (P':=P') (ds:=ds) hn om hk (by rw[U];exact f) L N O M s om om om K;have G:=fits (z:=slopeQ (tI x) q T' Y' P' vs ds) (j:=20*k+10) om g2;by_cases r:(qz q:Int)<=lim
      . by_cases d:(qz (slopeQ (tI x) q T' Y' P' vs ds):Int)<=lim
        . have hq129:qw q<=129:=by have:=qw_qz (q:=q) (b:=4096) om;omega
          have hs129:qw (slopeQ (tI x) q T' Y' P' vs ds)<=129:=by have:=qw_qz (q:=slopeQ (tI x) q T' Y' P' vs ds) (b:=4096) om;omega
          rw[Qb5 (s':=(rR (vs++[q]),rR (ds++[slopeQ (tI x) q T' Y' P' vs ds]),((i+1:Nat):Int))) (by
           simp only[];rw[oi (show(i:Int)<(t.Code.length:Int) by omega),bifT,Je C,sbind,B,sbind];simp only[]
           rw[ot,bifF,Q,sbind,oi r,ot,bifF,sbind,g1,sbind,G,sbind,oi d,ot,bifF,Vt (by simp[J7];omega) (by simp[J7];omega),sbind,Vt (by simp[J7];omega) (by simp[J7];omega),sbind,w1 om,Qmx,Qmx])]
          rw[ih (i+1) n'' (vs++[q]) (ds++[slopeQ (tI x) q T' Y' P' vs ds]) om om oh oh (λz w=>by
           rcases ym.1 w with h | h
           . exact L z h
           . rw[xx.1 h];omega) (λz w=>by
           rcases ym.1 w with h | h
           . exact s z h
           . rw[xx.1 h];omega)]
          simp only[];rw[oo r,oo d]
        . rw[Vs (t:=Lp.out ([],[],⟨6,1,(i:Int)⟩)) (by
           simp only[];rw[oi (show(i:Int)<(t.Code.length:Int) by omega),bifT,Je C,sbind,B,sbind];simp only[]
           rw[ot,bifF,Q,sbind,oi r,ot,bifF,sbind,g1,sbind,G,sbind,oj d,ov,bifT]) om,xy,Z0]
          simp only[];rw[oo r,ol d]
      . rw[Vs (t:=Lp.out ([],[],⟨6,0,(i:Int)⟩)) (by
         simp only[];rw[oi (show(i:Int)<(t.Code.length:Int) by omega),bifT,Je C,sbind,B,sbind];simp only[]
         rw[ot,bifF,Q,sbind,oj r,ov,bifT]) om,xy,Z0]
        simp only[];rw[ol r]
 have:=V t.Code.length 0 n [] [] om (by unfold big at hn;omega) rfl rfl (λ_ h=>by cases h) (λ_ h=>by cases h);rw[gy] at this;exact this
theorem Jlk{k:Nat}{s:Jo}(h:SchWr k s):SchW k (tS s):=⟨λr hr=>by
 have eA:(tS s).A=s.A.map (·.map tF):=rfl;rw[eA] at hr;obtain⟨l,e,rfl⟩:=xd.1 hr;intro x d;obtain⟨f,a,rfl⟩:=xd.1 d;exact h.a l e f a,λx d=>by
 obtain⟨f,a,rfl⟩:=xd.1 d;exact h.b f a,λx d=>by
 obtain⟨f,a,rfl⟩:=xd.1 d;exact h.c f a,λx d=>by
 obtain⟨f,a,rfl⟩:=xd.1 d;exact h.e f a,by
 have:=h.nl;show s.Bh.length<=_
 omega⟩
theorem Q4n{t:Qr}{lim:Int}{T H:Rat}{P U V:List Rat}(l:lim<=4096):∀ {r:List ((List Rat×Rat)×List Rat)}{i:Nat}{kss z:List (List Rat)}{j:Nat},(∀ a∈kss,QR 129 a/\a.length=t.Av.length)->kss.length=j->tstagesQ t lim T H U V P r i kss=.inr z ->
 (∀ a∈z,QR 129 a/\a.length=t.Av.length)/\z.length=j+r.length
 | [],i,kss,z,j,q,A,h=>by simp only[tstagesQ] at h;cases h;exact⟨q,A⟩
 | x::r,i,kss,z,j,q,A,h=>by
   simp only[tstagesQ] at h;cases d:tstageQ t lim T H U V P x.2 x.1.1 x.1.2 i kss with
   | inl f=>rw[d] at h;cases h
   | inr w=>
     rw[d] at h;have C:QR 129 w/\w.length=t.Av.length:=by
      unfold tstageQ at d;split at d;cases d;cases s:pfieldQ t lim (T+H*x.1.2) x.2 P 0 (fromQ H U x.1.1 kss) V with
      | inl e=>rw[s] at d;cases d
      | inr k=>
        rw[s] at d;cases d;obtain⟨G,E,I,F⟩:=Q0i l s;exact⟨F,E⟩
     obtain⟨g1,B⟩:=Q4n l (j:=j+1) (λa m=>by
      rcases ym.1 m with m | m;exact q a m
      rw[xx.1 m];exact C) oh h
     exact⟨g1,by rw[B,xm];omega⟩
theorem Q2w{n k:Nat}{p:Qq}{T H:Rat}{Y U V:List Rat}(hn:big<=n)(h0:129<=k)(hk:k<8000)(hp:PrbWr k p)(hr:prbR (tP p))(hT:qw T<=k)(Q:qw H<=k)(hY:QR k Y)(hl:(Y.length:Int)=p.Tape.A3)(hU:QR k U)(hul:U.length=Y.length)(hV:QR k V)(hvl:V.length=p.P.length):
 Qar n p (rF T) (rF H) (rR Y) (rR U) (rR V)=some (match tiltQ (tP p) T H Y U V with | .inl f=>([],[],⟨f.Ay,f.Bb,f.At⟩) | .inr z=>(rR z.2.1,rR z.2.2,⟨0,0,0⟩)):=by
 have hr':=hr;obtain⟨hta,hsc,hpl⟩:=hr;have C:tapeR (tT p.Tape):=hta;have w:schR (tS p.Ap):=hsc;have hpl':(p.P.length:Int)=p.Tape.A9:=by
  have e:((tP p).P.length:Int)=(p.P.length:Int):=by unfold tP;simp
  rw[<-e];exact hpl
 obtain⟨nA,nB,nC,nE⟩:=Q3j w;obtain⟨⟨⟨g1,g2⟩,g3,g4,g5⟩,g6⟩:=Ql4.1 w.2.1;obtain⟨⟨d1,d2⟩,⟨d3,d4⟩,d5,d6⟩:=C.1;have d1':1<=p.Tape.A3:=d1;have d2':p.Tape.A3<=6:=d2
 have hoc:∀ o∈p.Tape.Av,0<=o/\o<(p.Tape.Code.length:Int):=λo ho=>by
  have:=C.2.2 o ho;have e:(tT p.Tape).Code.length=p.Tape.Code.length:=by unfold tT;simp
  rw[e] at this;exact this
 have hol:(p.Tape.Av.length:Int)=p.Tape.A3:=d5;have hPq:QR k (rvr p.P):=Qfy (λf B=>Fk_wd (hp.pk f B)) om;have hPl:((rvr p.P).length:Int)=p.Tape.A9:=by rw[Wr];exact hpl'
 have hPe:rv (tP p).P=rvr p.P:=Qaj p.P;have hPn:(tP p).P.length=p.P.length:=by unfold tP;simp
 have hNorm:K8 n p.P=some (rR (rvr p.P)):=Qaq hn om (λf B=>Fk_wd (hp.pk f B)) hp.pl;have eL:Xy p.Aw=some (limQ p.Aw):=rfl;have J:=Q0d (T:=T) (H:=H) hr' hl;have hlim4:limQ p.Aw<=4096:=by unfold limQ;omega
 unfold Qar tiltQ;rw[eL,sbind,Qpn hn h0 hk hp hr' hT Q hY hl,sbind,J];cases hd:doQ (tT p.Tape) (tS p.Ap) (limQ p.Aw) T H Y (rvr p.P) with
 | inl f=>
   have hkd:=Q5c hd;have hk2:f.Ay≠2:=by have:=(doQ_f hd).1;omega
   simp only[];rw[oj hkd,ov,bifT,ol (by rw[hPn];rintro(g | g | g)<;>contradiction)]
 | inr z=>
 rw[hd] at J;obtain⟨y1,y2⟩:=Q0f J;have y2':z.ys.length=p.Ap.B.length:=by rw[y2];show(tS p.Ap).B.length=_;unfold tS;simp
 simp only[];rw[oi trivial,ot,bifF,ol (by rw[hPn];rintro(g | g)<;>contradiction),hPe];rw[show(tP p).Tape=tT p.Tape from rfl,show(tP p).Ap=tS p.Ap from rfl,show(tP p).Aw=p.Aw from rfl,show(toMr z).Ys=rRR z.ys from rfl];generalize limQ p.Aw=lim at hlim4 |-;clear hd J eL y2;generalize z.ys=yss at y1 y2' |-
 have key:∀(m i n':Nat) (kss:List (List Rat)) (K:List (List Qa)->Option (List Qa×List Qa×Jj)),i+m=p.Ap.B.length->m<n'->kss.length=i->(∀ a∈kss,QR 129 a)->(∀ a∈kss,a.length=U.length) ->
  (loopM (λ(r:(List (List Qa))×Int)=>
  bif decide (r.2<(p.Ap.B.length:Int)) then (
   (getI p.Ap.A r.2).bind λy50=>
   (Kw n (rR U) y50 r.1 (rF H)).bind λW=>
   (Jz n W lim).bind λr54=>
   bif decide (r54<(W.length:Int)) then (
    some (Lp.out (Lp.out ((([]:List Qa),([]:List Qa),(⟨(6:Int),r.2,wrap64 ((300:Int)+r54)⟩:Jj))))))
   else (
    (Ka n (0:Int)).bind λr56=>
    (Vj n p (rF T) (rF H) r.2).bind λr58=>
    (getI (rRR yss) r.2).bind λy60=>
    (Vr n p r58 y60).bind λr62=>
    (Qb1 n p.Tape r62 (⟨r56,W,rR V⟩:Vq) lim).bind λM=>
    bif !decide (M.2.2.a0=(0:Int)) then (
     some (Lp.out (Lp.out ((([]:List Qa),([]:List Qa),(⟨M.2.2.a0,r.2,M.2.2.a2⟩:Jj))))))
    else (
     (Y9 n p.Tape M.2.1).bind λr66=>
     (appM 24 r.1 ([r66]:List (List Qa))).bind λy68=>
     some (Lp.go (y68,wrap64 (r.2+(1:Int)))))))
  else (
   some (Lp.out (Lp.go r.1)))) n' (rRR kss,(i:Int))).bind (lpK K)=match tstagesQ (tT p.Tape) lim T H U V (rvr p.P) ((List.zip (pairQ (tS p.Ap)) yss).drop i) i kss with | .inl f=>some ([],[],⟨f.Ay,f.Bb,f.At⟩) | .inr z=>K (rRR z):=by
  intro m
  induction m with
  | zero=>
    intro i n' kss K hi hn' hk1 hq G;have he:(List.zip (pairQ (tS p.Ap)) yss).drop i=[]:=by apply jm;rw[wo];omega
    rw[Vs (t:=Lp.go (rRR kss)) (by simp only[];rw[oj om];rfl) om,xy,Xi,he];rfl
  | succ m ih=>
    intro i n' kss K hi hn' hk1 hq G;obtain⟨n'',rfl⟩:∃ n'',n'=n''+1:=⟨n' - 1,om⟩
    have E:p.Ap.A[i]?=some (p.Ap.A[i]' om):=oq om;have hc:p.Ap.C[i]?=some (p.Ap.C[i]' om):=oq om;have L:yss[i]?=some (yss[i]' om):=oq om;have R:=xb (l:=p.Ap.A) (n:=i) om;have S:=xb (l:=p.Ap.C) (n:=i) om;have hym:=y1 (yss[i]' om) (xb _);generalize p.Ap.A[i]' om=a at E R;generalize p.Ap.C[i]' om=c at hc S;generalize yss[i]' om=yi at L hym;have hal:=g6 i om a E;have hra:=Qnv (nA a R);have hrc:=Qco (nC c S);have haq:QR k (rvr a):=Qfy (λf B=>Fk_wd (hp.s.a a R f B)) om;have hcq:qw (fr c)<=k:=qw_fr (Fk_wd (hp.s.c c S)) om;have hpd:=Q98 (s:=tS p.Ap) (i:=i) (a:=a.map tF) (c:=tF c) (Qav _ E) (Qav _ hc) L;rw[Qaj,fr_tF] at hpd;rw[hpd];simp only[tstagesQ];have O:=Qgy (c:=rvr a) hn h0 om Q hU haq hq om (by rw[Wr];omega) G om;rw[hra] at O;have F:=Qns hU Q haq hq om h0;have hfl:=Qha (H:=H) (Y:=U) (c:=rvr a) G;have d:=Qad (lim:=lim) hn (show 22*k<274877906944 by omega) F om;unfold tstageQ;cases B:fitQ lim (fromQ H U (rvr a) kss) 0 with
    | some j=>
      rw[B] at d;have hj:=Qgv B;simp only[] at d |-
      rw[Vs (t:=Lp.out ([],[],⟨6,(i:Int),300+(j:Int)⟩)) (by
       simp only[]
       rw[oi (show(i:Int)<(p.Ap.B.length:Int) by omega),bifT,Je E,sbind,O,sbind,d,sbind,J7,oi om,bifT,w64 om om]) om,xy,Z0]
    | none=>
      rw[B] at d;simp only[] at d |-;have hmul:=Wa Q hcq;have hadd:=Zn hT hmul;have hMo:Vj n p (rF T) (rF H) (i:Int)=some (rF (T+H*fr c)):=by unfold Vj;rw[Je hc,sbind,<-hrc,V8 (k:=k) hn om Q hcq,sbind,fr_rF,V7 (k:=4*k) hn om om om,sbind]
      have hPo:Vr n p (rF (T+H*fr c)) (rR yi)=some ⟨rF (T+H*fr c),rR yi,rR (rvr p.P)⟩:=by unfold Vr;rw[hNorm,sbind]
      have A:=Q7b (k:=22*k) (t:=p.Tape) (T:=T+H*fr c) (Y:=yi) (P:=rvr p.P) (T':=0) (Y':=fromQ H U (rvr a) kss) (P':=V) (lim:=lim) hn om om C (λx hx=>Vm (hp.t x hx) om) om (Jx hym.1 om) (Jx hPq om) (by rw[Qab];omega) F (Jx hV om) (by rw[hfl];omega) (by rw[Wr];exact hvl) om hPl hlim4;unfold pfieldQ;cases I:prunQ lim (T+H*fr c) yi (rvr p.P) 0 (fromQ H U (rvr a) kss) V (tT p.Tape).Code 0 [] [] with
      | inl e=>
        rw[I] at A;have hkd:=Quc I;simp only[] at A |-
        rw[Vs (t:=Lp.out ([],[],⟨e.1,(i:Int),(e.2.2:Int)⟩)) (by
         simp only[];rw[oi (show(i:Int)<(p.Ap.B.length:Int) by omega),bifT,Je E,sbind,O,sbind,d,sbind,J7,oj om,bifF,Zp hn,sbind,hMo,sbind,Je (Qsl L),sbind,hPo,sbind,A,sbind];simp only[]
         rw[oj (show ¬ e.1=0 by omega),ov,bifT]) om,xy,Z0]
      | inr l=>
        rw[I] at A;obtain⟨l1,l2,l3,l4⟩:=Q0h hlim4 (λ_ h=>by cases h) (λ_ h=>by cases h) rfl I;have l1':l.2.length=p.Tape.Code.length:=by rw[l2,l1];unfold tT;simp
        have hOu:=Qwt (t:=p.Tape) (l:=l.2) hn hp.o (by rw[l1'];exact hoc);simp only[] at A |-;have hoe:(tT p.Tape).Av=p.Tape.Av:=rfl;rw[hoe]
        rw[Qb5 (s':=(rRR (kss++[p.Tape.Av.map λo=>l.2.getD o.toNat 0]),((i+1:Nat):Int))) (by
         simp only[];rw[oi (show(i:Int)<(p.Ap.B.length:Int) by omega),bifT,Je E,sbind,O,sbind,d,sbind,J7,oj om,bifF,Zp hn,sbind,hMo,sbind,Je (Qsl L),sbind,hPo,sbind,A,sbind];simp only[]
         rw[oi trivial,ot,bifF,hOu,sbind,Vt (by simp[Qlo];omega) (by simp[Qlo];omega),sbind,w1 om,Qvf])]
        exact ih (i+1) n'' _ K om om oh (λb hb=>by
         rcases ym.1 hb with h | h;exact hq b h;rw[xx.1 h];intro q hq';obtain⟨o,_,rfl⟩:=xd.1 hq';exact V4 l4 om) (λb hb=>by
         rcases ym.1 hb with h | h;exact G b h
         rw[xx.1 h];simp;omega)
 have N:=key p.Ap.B.length 0 n [] (λ(t47:(List (List Qa)))=>
  (Kw n (rR U) p.Ap.B t47 (rF H)).bind λX=>
  (Jz n X lim).bind λr72=>
  bif decide (r72<(X.length:Int)) then (
   some (([]:List Qa),([]:List Qa),(⟨(6:Int),(p.Ap.B.length:Int),wrap64 ((300:Int)+r72)⟩:Jj)))
  else (
   jn (λ(j84:((List Qa))->Option _)=>
    bif decide ((0:Int)<(p.Ap.E.length:Int)) then (
     (V5 n ((rR Y).length:Int)).bind λr87=>
     (Zw n p.Ap).bind λr89=>
     (Kw n r87 r89 t47 (rF H)).bind λr91=>
     j84 r91)
    else (
     j84 ([]:List Qa))) (λ(Z:(List Qa))=>
    (Jz n Z lim).bind λr93=>
    bif decide (r93<(Z.length:Int)) then (
     some (([]:List Qa),([]:List Qa),(⟨(6:Int),wrap64 ((p.Ap.B.length:Int)+(1:Int)),wrap64 ((300:Int)+r93)⟩:Jj)))
    else (
     some (X,Z,(⟨0,0,0⟩:Jj)))))) om (by unfold big at hn;omega) rfl (λ_ h=>by cases h) (λ_ h=>by cases h)
 refine N.trans ?_;clear N key;rw[gy];unfold tdoQ;cases hst:tstagesQ (tT p.Tape) lim T H U V (rvr p.P) (List.zip (pairQ (tS p.Ap)) yss) 0 [] with
 | inl f=>rfl
 | inr z=>
   simp only[];obtain⟨y1',y2⟩:=Q4n hlim4 (λ_ h=>by cases h) rfl hst;have hout:(tT p.Tape).Av.length=U.length:=by have e:((tT p.Tape).Av.length:Int)=p.Tape.A3:=hol;omega
   have z1:∀ a∈z,a.length=U.length:=λa E=>(y1' a E).2.trans hout;have y1:∀ a∈z,QR 129 a:=λa E=>(y1' a E).1;have hzl:z.length=p.Ap.B.length:=by rw[y2,wo];unfold pairQ tS;rw[wo,J5,ou,ou,ou,yh];omega
   have hrB:=Qnv nB;have hBq:QR k (rvr p.Ap.B):=Qfy (λf B=>Fk_wd (hp.s.b f B)) om;have O:=Qgy (c:=rvr p.Ap.B) hn h0 om Q hU hBq y1 om (by rw[Wr];omega) z1 om;rw[hrB] at O;have F:=Qns hU Q hBq y1 om h0;have hfl:=Qha (H:=H) (Y:=U) (c:=rvr p.Ap.B) z1;have d:=Qad (lim:=lim) hn (show 22*k<274877906944 by omega) F om;have eB:rv (tS p.Ap).B=rvr p.Ap.B:=Qaj _;have eBl:((tS p.Ap).B.length:Int)=(p.Ap.B.length:Int):=by unfold tS;simp
   unfold tendQ;rw[eB,eBl,O,sbind,d,sbind];cases B:fitQ lim (fromQ H U (rvr p.Ap.B) z) 0 with
   | some j=>
     have hj:=Qgv B;simp only[];rw[J7,oi om,bifT,w64 om om]
   | none=>
     simp only[];rw[J7,oj om,bifF,jn_eq];by_cases hE:p.Ap.E=[]
     have hg:=(Q3k w).2 hE;rw[hE,oo hg];have h00:=Qad (k:=1) (l:=[]) (lim:=lim) hn oz (λ_ h=>by cases h) oc;have h00':Jz n [] lim=some 0:=h00;rw[oj oc,bifF];simp only[];rw[h00',sbind,oj oc,bifF];rfl;have hg:gapQ (tS p.Ap)≠[]:=λh=>hE ((Q3k w).1 h);have hEl:p.Ap.E.length≠0:=λh=>hE (ow h);have hgapl:(gapQ (tS p.Ap)).length=p.Ap.B.length:=by
      have eE:(tS p.Ap).E=p.Ap.E.map tF:=rfl;have eB2:(tS p.Ap).B=p.Ap.B.map tF:=rfl;unfold gapQ;rw[ol (by rw[eE];simpa using hE),Qf4,Qcd,J5,J5,eE,eB2];simp;omega
     have hgq:QR (2*k+2) (gapQ (tS p.Ap)):=Q6v om (Jlk hp.s);have hGap:=Qy8 hn (show 1<=k by omega) om hp.s nB nE om g2 hE;have hF2:=Qgy (k:=2*k+2) (Y:=List.replicate Y.length 0) (c:=gapQ (tS p.Ap)) hn om om (show qw H<=2*k+2 by omega) (Jx (Qpb _) om) hgq y1 om om (by simpa [hul] using z1) oh;have e0:fromQ H (List.replicate Y.length 0) (gapQ (tS p.Ap)) z=towQ H U.length (gapQ (tS p.Ap)) z:=by
      unfold fromQ;rw[ur,<-hul,Q2r (Qmv z1)]
     rw[e0] at hF2;have htl:=Qmv (H:=H) (c:=gapQ (tS p.Ap)) z1;have htb:=Qsg (m:=U.length) (show qw H<=2*k+2 by omega) hgq y1 om om;have hRow2:=Qad (lim:=lim) hn (show 20*(2*k+2)<274877906944 by omega) htb om;rw[ol hg,oi (show(0:Int)<(p.Ap.E.length:Int) by omega),bifT,J7 Y,Qj1 hn om,sbind,hGap,sbind,hF2,sbind];simp only[];rw[hRow2,sbind];cases hf2:fitQ lim (towQ H U.length (gapQ (tS p.Ap)) z) 0 with
     | some j=>
       have hj:=Qgv hf2;simp only[];rw[J7,oi om,bifT,w64 (x:=300+(j:Int)) om om,w1 om];rfl
     | none=>
       simp only[];rw[J7,oj om,bifF]
set_option maxRecDepth 100000
theorem Q7c{n:Nat}{b:Qag}(hn:big<=n):∃ v,Qd1 n b=some v/\(v=false->FL 6 2 b.U/\FL 6 2 b.V):=by
 unfold Qd1;simp only[jn_eq];obtain⟨v,a,e⟩:=Yb (l:=b.U) (many:=6) (k:=2) hn oz;obtain⟨w,d,f⟩:=Yb (l:=b.V) (many:=6) (k:=2) hn oz;rw[show((6:Nat):Int)=6 from rfl,show((2:Nat):Int)=2 from rfl] at a d;rw[a,sbind];cases v
 case true=>exact⟨true,rfl,λh=>by cases h⟩
 rw[bifF,d,sbind];cases w
 case true=>exact⟨true,rfl,λh=>by cases h⟩
 exact⟨false,rfl,λ_=>⟨e rfl,f rfl⟩⟩
set_option maxRecDepth 100000
theorem Jfb:∀ {cs:List Rat}{l:List (List Rat)}{z:List Rat},(mixQ cs l z).length<=z.length
 | [],_,z=>by simp only[mixQ];exact xn _
 | _::_,[],z=>by simp only[mixQ];exact xn _
 | c::cs,a::l,z=>by simp only[mixQ];refine xe Jfb ?_;rw[List.length_zipWith];omega
theorem Jll{p:Qn}{T H:Rat}{Y U V:List Rat}{z}(h:tiltQ p T H Y U V=.inr z):QR 129 z.2.1/\QR 129 z.2.2/\z.2.1.length<=U.length/\z.2.2.length<=U.length/\QR 129 z.1.next/\z.1.next.length=Y.length/\(Y.length:Int)=p.Tape.A3/\(Y.length:Int)<=6:=by
 obtain⟨j,w,x,a⟩:=Jfa h;obtain⟨m,q,r,s,A⟩:=Qnt j;have hd:p.Tape.A3<=6:=m.1.1.1.2;have d:limQ p.Aw<=4096:=by unfold limQ;omega
 unfold tdoQ at a;cases e:tstagesQ p.Tape (limQ p.Aw) T H U V (rv p.P) (List.zip (pairQ p.Ap) z.1.ys) 0 [] with
 | inl g=>rw[e] at a;cases a
 | inr kss=>
   rw[e] at a;simp only[] at a;unfold tendQ at a;split at a
   . cases a
   . rename_i f
     split at a
     . cases a
     . rename_i i
       have l:=(Sum.inr.inj a).symm;rw[l];refine⟨Qmw d f,Qmw d i,?_,?_,r,s,q,om⟩
       . simp only[]
         unfold fromQ addQ;rw[List.length_zipWith];omega
       . simp only[]
         split
         . simp
         . unfold towQ scaleQ
           rw[ou];refine xe Jfb ?_;rw[ur];omega
set_option maxRecDepth 100000
def SmaT(t:Qt):Prop:=FL 4 2 [t.T,t.Ax,t.H,t.A5]/\FL 8 2 t.Y
theorem Jj2{n:Nat}{h:Qh}(hn:big<=n):∃ v,Za n h 3 2=some v/\(v=false->h.Aq.length<=3/\(h.T.N.length<=2/\h.T.D.length<=2)/\FL 8 2 h.Y/\∀ t∈h.Aq,SmaT t):=by
 unfold Za Wv;simp only[jn_eq,bifd];by_cases G:(3:Int)<(h.Aq.length:Int)
 . rw[oo G];exact⟨true,rfl,λh=>by cases h⟩
 have F:=Qfi h.T 2;rw[show((2:Nat):Int)=2 from rfl] at F;rw[ol G,F,sbind];by_cases s:h.T.N.length<=2/\h.T.D.length<=2
 case neg=>rw[oj s];exact⟨true,rfl,λh=>by cases h⟩
 rw[oi s,ot,bifF];have m:∀ l,∃ v,Q9 n l 4 2=some v/\(v=false->FL 4 2 l):=λl=>Yb (many:=4) (k:=2) hn oz;have j:∀ l,∃ v,Q9 n l 8 2=some v/\(v=false->FL 8 2 l):=λl=>Yb (many:=8) (k:=2) hn oz;obtain⟨v,g1,I⟩:=j h.Y;rw[g1,sbind];cases v
 case true=>exact⟨true,rfl,λh=>by cases h⟩
 rw[bifF]
 have J:=Qkg (f:=λ(a:Int)=>
  if a<(h.Aq.length:Int) then (
   (getI h.Aq a).bind λe=>
   (some ([e.T,e.Ax,e.H,e.A5]:List Qa)).bind λA=>
   (Q9 n A 4 2).bind λB=>
   bif B then (bif true then some (Lp.out (Lp.out true)) else some (Lp.go (wrap64 (a+(1:Int)))))
   else (
    (getI h.Aq a).bind λE=>
    (Q9 n E.Y 8 2).bind λC=>
    bif C then some (Lp.out (Lp.out true)) else some (Lp.go (wrap64 (a+(1:Int))))))
  else (
   some (Lp.out (Lp.go ())))) (n:=n) (K:=λ(_:Unit)=>some false) (r:=true) (λi=>∀ t,h.Aq[i]?=some t->Q9 n [t.T,t.Ax,t.H,t.A5] 4 2=some false/\Q9 n t.Y 8 2=some false) h.Aq.length (λi hi=>by
  have hp:h.Aq[i]?=some h.Aq[i]:=oq hi;generalize h.Aq[i]=t at hp;obtain⟨v,k1,k2⟩:=m [t.T,t.Ax,t.H,t.A5];obtain⟨w,q,H⟩:=j t.Y;rw[oo om,Je hp,sbind,sbind,k1,sbind,sbind,q,sbind];cases v
  . cases w
    . rw[bifF,bifF,w1 om]
      exact⟨λ_=>rfl,λg=>absurd (λd hd=>by rw[hp] at hd;cases hd;exact⟨k1,q⟩) g⟩
    . exact⟨λg=>(by have:=(g t hp).2;rw[q] at this;cases this),λ_=>rfl⟩
  . exact⟨λg=>(by have:=(g t hp).1;rw[k1] at this;cases this),λ_=>rfl⟩) (by rw[ol om]) (by unfold big at hn;omega)
 rw[J];by_cases x:∀ i,i<h.Aq.length->∀ t,h.Aq[i]?=some t->Q9 n [t.T,t.Ax,t.H,t.A5] 4 2=some false/\Q9 n t.Y 8 2=some false
 . rw[oo x]
   refine⟨false,rfl,λ_=>⟨om,s,I rfl,λt L=>?_⟩⟩;obtain⟨i,hi⟩:=vf L;obtain⟨v,k1,k2⟩:=m [t.T,t.Ax,t.H,t.A5];obtain⟨w,q,H⟩:=j t.Y;obtain⟨a1,a2⟩:=x i (K1 hi) t hi;rw[k1] at a1;rw[q] at a2;exact⟨k2 (Option.some.inj a1),H (Option.some.inj a2)⟩
 . rw[ol x];exact⟨true,rfl,λh=>by cases h⟩
def okT(l:List Q6):List Q6:=l.filter (·.Ok)
def nT(t:Q6):Q6:=⟨toF (fv t.T),toF (fv t.Ax),toF (fv t.H),toF (fv t.A5),toR (rv t.Y),true⟩
theorem Qvl{n k:Nat}{l:List Qc}(hn:big<=n)(a:1<=k)(hk:k<1099511627776)(h:FR k l)(d:l.length<=1000000):Qi1 n l=some (toR (rv l)):=by unfold Qi1;rw[Qi8 hn,sbind,Qbe (k:=k) hn a hk (Js (by rw[Qvd];exact a)) h d,sbind,Jf,Qy1]
theorem Jdm(l:List Q6):(okT l).length<=l.length:=List.length_filter_le _ _
theorem Q2x{n k:Nat}{h:Qs}(hn:big<=n)(e:1<=k)(hk:k<1099511627776)(q:h.Aq.length<=1000000)(m:∀ t∈h.Aq,FT k t):Qjr n h=some ((okT h.Aq).map nT):=by unfold Qjr;rw[Qjy (λi=>(okT (h.Aq.take i)).map nT) h.Aq];rw[xu];rfl;intro i x d;obtain⟨g1,l,g3⟩:=m x (Jr d);have hi:=K1 d;have a:=Jdm (h.Aq.take i);rw[xk] at a;rw[Yy d];have j:okT (h.Aq.take i++[x])=okT (h.Aq.take i)++okT [x]:=List.filter_append _ _;rw[j,yf];cases f:x.Ok;rw[bifF,show okT [x]=[] from by unfold okT;simp[f],List.map_nil,vj];rw[bifT,show okT [x]=[x] from by unfold okT;simp[f]];unfold Qc3;rw[sbind,Qvl hn e hk g1 oc,sbind,show getI (toR (rv [x.T,x.Ax,x.H,x.A5])) 0=some (toF (fv x.T)) from rfl,sbind,show getI (toR (rv [x.T,x.Ax,x.H,x.A5])) 1=some (toF (fv x.Ax)) from rfl,sbind,show getI (toR (rv [x.T,x.Ax,x.H,x.A5])) 2=some (toF (fv x.H)) from rfl,sbind,show getI (toR (rv [x.T,x.Ax,x.H,x.A5])) 3=some (toF (fv x.A5)) from rfl,sbind,Qvl hn e hk l g3,sbind,Vt oh oh,sbind];rfl;rfl
def okR(l:List Qt):List Qt:=l.filter (·.Ok)
theorem Jdn(l:List Qt):(okR l).length<=l.length:=List.length_filter_le _ _
theorem Jdo(l:List Qt)(x:Qt):okR (l++[x])=if x.Ok=true then okR l++[x] else okR l:=by have e:okR (l++[x])=okR l++okR [x]:=List.filter_append _ _;rw[e];cases a:x.Ok;rw[ol oz,show okR [x]=[] from by unfold okR;simp[a],vj];rw[oo rfl,show okR [x]=[x] from by unfold okR;simp[a]]
theorem Jjt{n:Nat}{h:Qh}(hn:big<=n)(d:h.Aq.length<=1000000):Qof n h=some ((okR h.Aq).map (·.T)++[h.T],(okR h.Aq).map (·.Y)++[h.Y]):=by unfold Qof;have a:=Jdn h.Aq;rw[W1 (λi=>((okR (h.Aq.take i)).map (·.T),(okR (h.Aq.take i)).map (·.Y),(i:Int))) h.Aq.length ((okR h.Aq).map (·.T),(okR h.Aq).map (·.Y))];rw[Vt oh oh,sbind,Vt oh oh,sbind];intro i hi;have hp:h.Aq[i]?=some h.Aq[i]:=oq hi;generalize h.Aq[i]=t at hp;have a:=Jdn (h.Aq.take i);rw[xk] at a;simp only[jn_eq];rw[oi (show(i:Int)<(h.Aq.length:Int) by omega),bifT,Je hp,sbind,Yy hp,Jdo,w1 om];cases t.Ok;rw[bifF,ol oz];rw[bifT,oo rfl,sbind,Vt oh oh,sbind,sbind,Vt oh oh,sbind,yf,yf];rfl;rw[oj (show ¬(h.Aq.length:Int)<(h.Aq.length:Int) by omega),bifF,xu];unfold big at hn;omega;rfl
theorem Q5h{n:Nat}{h:Qh}(hn:big<=n)(d:h.Aq.length<=1000000):Qdh n h=some ((okR h.Aq).map (·.H)):=by unfold Qdh;rw[W1 (λi=>((okR (h.Aq.take i)).map (·.H),(i:Int))) h.Aq.length ((okR h.Aq).map (·.H))];intro i hi;have hp:h.Aq[i]?=some h.Aq[i]:=oq hi;generalize h.Aq[i]=t at hp;have a:=Jdn (h.Aq.take i);rw[xk] at a;simp only[jn_eq];rw[oi (show(i:Int)<(h.Aq.length:Int) by omega),bifT,Je hp,sbind,Yy hp,Jdo,w1 om];cases t.Ok;rw[bifF,ol oz];rw[bifT,oo rfl,sbind,Vt oh oh,sbind,yf];rfl;rw[oj om,bifF,xu];unfold big at hn;omega;rfl
set_option maxRecDepth 100000
noncomputable def alongQ(p:Qn)(V:List Rat):List Q6->Nat->List Rat->Qe ⊕ List (List Rat)
 | [],_,_=>.inr []
 | t::l,i,U=>match tiltQ p (fv t.T) (fv t.H) (rv t.Y) U V with
   | .inl f=>.inl ⟨f.Ay,((i+1:Nat):Int),f.Bb,f.At⟩
   | .inr z=>match alongQ p V l (i+1) z.2.1 with
     | .inl f=>.inl f
     | .inr r=>.inr (z.2.1::r)
def AlR(p:Qn)(h:Qs):Prop:=prbR p/\Qgm h/\(h.Y.length:Int)=p.Tape.A3
noncomputable def nodesQ(p:Qn)(h:Qs)(U V:List Rat):Qe ⊕ List (List Rat):=
 @ite _ (AlR p h/\U.length=h.Y.length/\V.length=p.P.length) (Classical.propDecidable _) (alongQ p V ((okT h.Aq).map nT) 0 U) (.inl ⟨2,0,0,0⟩)
theorem Q7d{p:Qn}{V:List Rat}(d:∀(t:Q6) (U:List Rat) f,tiltQ p (fv t.T) (fv t.H) (rv t.Y) U V=.inl f->f.Ay≠0):∀ {l:List Q6}{i:Nat}{U:List Rat}{f},alongQ p V l i U=.inl f->f.Ay≠0
 | [],i,U,f,h=>by simp only[alongQ] at h;cases h
 | t::l,i,U,f,h=>by
   simp only[alongQ] at h;cases a:tiltQ p (fv t.T) (fv t.H) (rv t.Y) U V with
   | inl g=>rw[a] at h;cases h;exact d t U g a
   | inr z=>
     rw[a] at h;simp only[] at h;cases hr:alongQ p V l (i+1) z.2.1 with
     | inl g=>rw[hr] at h;cases h;exact Q7d d hr
     | inr r=>rw[hr] at h;cases h
theorem Q99{p:Qn}{T H:Rat}{Y U V:List Rat}{f}(h:tiltQ p T H Y U V=.inl f):f.Ay≠0:=by
 unfold tiltQ at h;cases a:stepQ p T H Y with
 | inl g=>
   rw[a] at h;simp only[] at h;split at h;cases h;show(2:Int)≠0;decide;cases h;exact Q62 a
 | inr z=>
   rw[a] at h;simp only[] at h;split at h;cases h;show(2:Int)≠0;decide;cases hd:tdoQ p.Tape p.Ap (limQ p.Aw) T H U V (rv p.P) z.ys with
   | inr w=>rw[hd] at h;cases h
   | inl g=>
     rw[hd] at h;cases h;unfold tdoQ at hd;have l:∀ {r:List ((List Rat×Rat)×List Rat)}{i:Nat}{k}{e:Qe},tstagesQ p.Tape (limQ p.Aw) T H U V (rv p.P) r i k=.inl e->e.Ay≠0:=by
      intro r
      induction r with
      | nil=>intro i k e h;simp only[tstagesQ] at h;cases h
      | cons x r j=>
        intro i k e h;simp only[tstagesQ] at h;cases s:tstageQ p.Tape (limQ p.Aw) T H U V (rv p.P) x.2 x.1.1 x.1.2 i k with
        | inr w=>rw[s] at h;exact j h
        | inl g=>
          rw[s] at h;cases h;unfold tstageQ at s;split at s;cases s;show(6:Int)≠0;decide;cases hp:pfieldQ p.Tape (limQ p.Aw) (T+H*x.1.2) x.2 (rv p.P) 0 (fromQ H U x.1.1 k) V with
          | inr q=>rw[hp] at s;cases s
          | inl q=>
            rw[hp] at s;cases s;have:=Q2v hp;show q.1≠0;omega
     cases d:tstagesQ p.Tape (limQ p.Aw) T H U V (rv p.P) (List.zip (pairQ p.Ap) z.ys) 0 [] with
     | inl e=>rw[d] at hd;cases hd;exact l d
     | inr k=>
       rw[d] at hd;simp only[] at hd;unfold tendQ at hd;split at hd;cases hd;show(6:Int)≠0;decide;split at hd;cases hd;show(6:Int)≠0;decide;cases hd
theorem Jfc{j k:Nat}{t:Q6}(h:FT j t)(hk:j<=k):FT k t:=⟨W3 h.1 hk,W3 h.2.1 hk,h.2.2⟩
theorem Jju{k:Nat}{t:Q6}(h:FT k t):Fk k t.T/\Fk k t.H/\FR k t.Y:=⟨h.1 t.T oc,h.1 t.H oc,h.2.1⟩
theorem FT_nT{k:Nat}{t:Q6}(e:1<=k)(h:FT k t):FT k (nT t):=by obtain⟨a,b,c⟩:=h;refine⟨λx d=>?_,X8 (QR_rv b e),by show(toR (rv t.Y)).length<=_;rw[Kr,J5];exact c⟩;have g:∀ y∈[t.T,t.Ax,t.H,t.A5],Fk k (toF (fv y)):=λy f=>Js (qw_fv (a y f) e);rcases xg.1 d with rfl | d;exact g t.T oc;rcases xg.1 d with rfl | d;exact g t.Ax oc;rcases xg.1 d with rfl | d;exact g t.H oc;rw[xx.1 d];exact g t.A5 oc
theorem Qvm{n k:Nat}{p:Qn}{h:Qs}{u v:List Qc}(hn:big<=n)(h0:129<=k)(hk:k<8000)(T:PrbW k p)(hl:h.Aq.length<=1000)(G:∀ t∈h.Aq,FT k t)(hT:Fk k h.T)(hY:FR k h.Y)(hYl:h.Y.length<=1000)(S:FR k u)(_:u.length<=1000)(hv:FR k v):
 Qi2 n p h u v=some (match nodesQ p h (rv u) (rv v) with | .inl f=>([],f) | .inr r=>(toRR (rv u::r),⟨0,0,0,0⟩))/\∀ r,nodesQ p h (rv u) (rv v)=.inr r->∀ a∈r,QR 129 a/\a.length<=6:=by
 have hle:=Jdm h.Aq;unfold Qi2 Qph nodesQ;simp only[jn_eq];rw[Q0c hn h0 hk T,Qrv hn om om om G hT hY om,J5,J5];have noR:¬(AlR p h/\u.length=h.Y.length/\v.length=p.P.length)->∀ r,@ite (Qe ⊕ List (List Rat)) (AlR p h/\u.length=h.Y.length/\v.length=p.P.length) (Classical.propDecidable _) (alongQ p (rv v) ((okT h.Aq).map nT) 0 (rv u)) (.inl ⟨2,0,0,0⟩)=.inr r->∀ a∈r,QR 129 a/\a.length<=6:=λg r hr=>by rw[ol g] at hr;cases hr
 by_cases c1:prbR p
 case neg=>
  have g:¬(AlR p h/\u.length=h.Y.length/\v.length=p.P.length):=λg=>c1 g.1.1;exact⟨by rw[ol g,sbind,dP_f c1];rfl,noR g⟩
 by_cases e:Qgm h
 case neg=>
  have g:¬(AlR p h/\u.length=h.Y.length/\v.length=p.P.length):=λg=>e g.1.2.1;exact⟨by rw[ol g,sbind,dP_t c1,bifT,sbind,dP_f e];rfl,noR g⟩
 by_cases m:(h.Y.length:Int)=p.Tape.A3
 case neg=>
  have g:¬(AlR p h/\u.length=h.Y.length/\v.length=p.P.length):=λg=>m g.1.2.2;exact⟨by rw[ol g,sbind,dP_t c1,bifT,sbind,dP_t e,bifT,oj m];rfl,noR g⟩
 by_cases N:u.length=h.Y.length
 case neg=>
  have g:¬(AlR p h/\u.length=h.Y.length/\v.length=p.P.length):=λg=>N g.2.1;exact⟨by rw[ol g,sbind,dP_t c1,bifT,sbind,dP_t e,bifT,oi m,sbind,oj (show ¬(u.length:Int)=(h.Y.length:Int) by omega)];rfl,noR g⟩
 by_cases O:v.length=p.P.length
 case neg=>
  have g:¬(AlR p h/\u.length=h.Y.length/\v.length=p.P.length):=λg=>O g.2.2;exact⟨by rw[ol g,sbind,dP_t c1,bifT,sbind,dP_t e,bifT,oi m,sbind,oi (show(u.length:Int)=(h.Y.length:Int) by omega),oj (show ¬(v.length:Int)=(p.P.length:Int) by omega)];rfl,noR g⟩
 rw[oo ⟨⟨c1,e,m⟩,N,O⟩,sbind,dP_t c1,bifT,sbind,dP_t e,bifT,oi m,sbind,oi (show(u.length:Int)=(h.Y.length:Int) by omega),oi (show(v.length:Int)=(p.P.length:Int) by omega)];simp only[ot,bifF];rw[Qi8 hn,sbind,Qbe hn om om (Js (by rw[Qvd];omega)) S om,sbind,Jf,Qy1,Q2x hn om om om G,sbind]
 have Q:∀ t∈(okT h.Aq).map nT,FT k t/\t.Y.length<=6:=λt w=>by obtain⟨x,H,rfl⟩:=xd.1 w;have q:=(List.mem_filter.1 H).1;refine⟨FT_nT om (G x q),?_⟩;show(toR (rv x.Y)).length<=6;rw[Kr,J5,e.l.1 x q];exact e.l.2.2
 have E:((okT h.Aq).map nT).length<=1000:=by rw[ou];omega
 generalize (okT h.Aq).map nT=A at Q E
 have I:∀(l:List Q6) (i:Nat) (U:List Rat) (B:List (List Rat)) (K:(List Qc)×(List (List Qc))->Option ((List (List Qc))×Qe)),(∀ t∈l,FT k t/\t.Y.length<=6)->QR k U->i+l.length<=1000->B.length<=i+1 ->
  ((rangeL (λ(i32:Nat) (j:Q6) (s:(List Qc)×(List (List Qc)))=>
    (Qh6 n p j.T j.H j.Y s.1 v).bind λd=>
    bif !(Q7 d.2 (⟨0,0,0,0⟩:Qe)) then (
     some (Lp.out ((([]:List (List Qc)),(⟨d.2.Ay,wrap64 ((i32:Int)+(1:Int)),d.2.Bb,d.2.At⟩:Qe)))))
    else (
     (appM 24 s.2 ([d.1.Next]:List (List Qc))).bind λL=>
     some (Lp.go (d.1.Next,L)))) l i (toR U,toRR B)).bind (lpK K)=match alongQ p (rv v) l i U with | .inl f=>some ([],f) | .inr r=>K (toR (r.getLastD U),toRR (B++r)))/\∀ r,alongQ p (rv v) l i U=.inr r->∀ a∈r,QR 129 a/\a.length<=6:=by
  intro l
  induction l with
  | nil=>
    intro i U B K _ _ _ _;simp only[alongQ,rangeL];exact⟨by rw[vj];rfl,λr hr=>by cases hr;exact λ_ h=>by cases h⟩
  | cons t l ih=>
    intro i U B K w hU hi hB;rw[xm] at hi;obtain⟨ft,fl⟩:=w t (.head _);obtain⟨Y,Z,f3⟩:=Jju ft;obtain⟨P,V,W⟩:=Q32 (t:=t.T) (h:=t.H) (y:=t.Y) (u:=toR U) (v:=v) hn h0 hk T Y Z f3 (X8 hU) hv;rw[Zo] at P V W;simp only[alongQ,rangeL];rw[P,sbind];cases R:tiltQ p (fv t.T) (fv t.H) (rv t.Y) U (rv v) with
    | inl f=>
      have hf:=V f R;obtain⟨a1,a2,a3,a4⟩:=f;simp only[];rw[Yx hf,ov,bifT,sbind,w1 om];exact⟨rfl,λr hr=>by cases hr⟩
    | inr z=>
      obtain⟨_,M,b2,_⟩:=W z R;simp only[];rw[Wf,ot,bifF,Vt (by rw[Qf5];simp;omega) (by rw[Qf5];simp;omega),sbind,sbind];have X:toRR B++[toR z.2.1]=toRR (B++[z.2.1]):=by unfold toRR;rw[yf];rfl
      simp only[];rw[X];obtain⟨C,i2⟩:=ih (i+1) z.2.1 (B++[z.2.1]) K (λx H=>w x (.tail _ H)) (Jx M h0) om oh;cases hr:alongQ p (rv v) l (i+1) z.2.1 with
      | inl f=>
        rw[hr] at C;exact⟨C,λr h=>by cases h⟩
      | inr r=>
        rw[hr] at C;refine⟨?_,λr' h'=>?_⟩
        . refine C.trans ?_
          simp only[];rw[xl,List.getLastD_cons];rfl
        . cases h'
          intro a F;rcases xg.1 F with rfl | F
          . exact⟨M,om⟩
          . exact i2 r hr a F
 obtain⟨k1,k2⟩:=I A 0 (rv u) [rv u] (λJ=>some (J.2,(⟨0,0,0,0⟩:Qe))) Q (QR_rv S om) om oc;refine⟨?_,k2⟩;refine k1.trans ?_;cases alongQ p (rv v) A 0 (rv u)<;>rfl
theorem Q0k{α:Type}:∀(r:List α) (u:α),(u::r)[r.length]?=some (r.getLastD u)
 | [],u=>rfl
 | x::r,u=>by rw[List.getLastD_cons];exact Q0k r x
theorem Q2y{n k:Nat}{p:Qn}{h:Qs}{u v:List Qc}(hn:big<=n)(h0:129<=k)(hk:k<8000)(M:PrbW k p)(I:h.Aq.length<=1000)(K:∀ t∈h.Aq,FT k t)(G:Fk k h.T)(H:FR k h.Y)(s:h.Y.length<=1000)(C:FR k u)(q:u.length<=1000)(L:FR k v):
 Qgq n p h u v=some (match nodesQ p h (rv u) (rv v) with | .inl f=>([],f) | .inr r=>(toR (r.getLastD (rv u)),⟨0,0,0,0⟩))/\(∀ f,nodesQ p h (rv u) (rv v)=.inl f->f.Ay≠0)/\∀ r,nodesQ p h (rv u) (rv v)=.inr r->QR k (r.getLastD (rv u))/\r.length<=1000/\(r.getLastD (rv u)).length<=1000:=by
 obtain⟨E,F⟩:=Qvm hn h0 hk M I K G H s C q L;unfold Qgq;rw[E,sbind]
 have x:∀ f,nodesQ p h (rv u) (rv v)=.inl f->f.Ay≠0:=λf a=>by unfold nodesQ at a;split at a;exact Q7d (λt U f h=>Q99 h) a;cases a;show(2:Int)≠0;decide
 have j:∀ {l:List Q6}{i:Nat}{U:List Rat}{r},alongQ p (rv v) l i U=.inr r->r.length=l.length:=by
  intro l
  induction l with
  | nil=>intro i U r h;simp only[alongQ] at h;cases h;rfl
  | cons t l N=>
    intro i U r h;simp only[alongQ] at h;cases B:tiltQ p (fv t.T) (fv t.H) (rv t.Y) U (rv v) with
    | inl g=>rw[B] at h;cases h
    | inr z=>
      rw[B] at h;simp only[] at h;cases hr:alongQ p (rv v) l (i+1) z.2.1 with
      | inl g=>rw[hr] at h;cases h
      | inr r=>rw[hr] at h;cases h;simp[N hr]
 cases d:nodesQ p h (rv u) (rv v) with
 | inl f=>
   have a:=x f d;refine⟨?_,λg w=>by cases w;exact a,λr hr=>by cases hr⟩;obtain⟨a1,a2,a3,a4⟩:=f;simp only[];rw[Yx a,ov,bifT]
 | inr r=>
   have J:=F r d;have hr:r.length<=1000:=by unfold nodesQ at d;split at d;have:=j d;rw[ou] at this;have:=Jdm h.Aq;omega;cases d
   have hlast:QR k (r.getLastD (rv u))/\(r.getLastD (rv u)).length<=1000:=by have m:=gm (Q0k r (rv u));rcases xg.1 m with e | e;rw[e];exact⟨QR_rv C om,by rw[J5];exact q⟩;obtain⟨a1,a2⟩:=J _ e;exact⟨Jx a1 h0,om⟩
   refine⟨?_,(λg w=>by cases w),λO A=>by cases A;exact⟨hlast.1,hr,hlast.2⟩⟩;simp only[];rw[Wf,ot,bifF,Qf5,xm,w64 om om,show((r.length+1:Nat):Int) - 1=(r.length:Int) by omega,Je (show(toRR (rv u::r))[r.length]?=some (toR (r.getLastD (rv u))) by unfold toRR;rw[yr,Q0k];rfl),sbind]
set_option maxRecDepth 100000
theorem w42:Z7 big=some true:=ox
theorem Q7e{n:Nat}{p:Qq}{h:Qh}(hn:big<=n):∃ v,Qd2 n p h=some v/\(v=false->((p.Tape.Code.length<=10/\p.Tape.Av.length<=10/\∀ c∈p.Tape.Code,c.N.N.length<=2/\c.N.D.length<=2)/\(p.Ap.Bh.length<=50/\p.Ap.A.length<=4/\FL 4 4 p.Ap.B/\FL 4 4 p.Ap.C/\FL 4 4 p.Ap.E/\∀ r∈p.Ap.A,FL 4 4 r)/\FL 6 2 p.P)/\p.Aw<=400/\h.Aq.length<=5/\(h.T.N.length<=6/\h.T.D.length<=6)/\FL 8 6 h.Y/\∀ t∈h.Aq,SmaK 6 t):=by
 unfold Qd2;simp only[jn_eq];obtain⟨v,f,j⟩:=Qrp (p:=p) (a:=10) (b:=4) (k:=2) hn oz oz;rw[show((10:Nat):Int)=10 from rfl,show((4:Nat):Int)=4 from rfl,show((2:Nat):Int)=2 from rfl] at f;rw[f,sbind];cases v
 case true=>exact⟨true,rfl,λh=>by cases h⟩
 rw[bifF];by_cases c1:(3:Int)<(p.Ap.B.length:Int)
 . rw[oi c1];exact⟨true,rfl,λh=>by cases h⟩
 rw[oj c1,bifF];by_cases d:(400:Int)<p.Aw
 . rw[oi d];exact⟨true,rfl,λh=>by cases h⟩
 rw[oj d,bifF];obtain⟨v,i,l⟩:=Qvh (a:=5) (k:=6) (h:=h) hn oz oz;rw[show((5:Nat):Int)=5 from rfl,show((6:Nat):Int)=6 from rfl] at i;rw[i,sbind];cases v
 case true=>exact⟨true,rfl,λh=>by cases h⟩
 obtain⟨g1,m,g3,g4⟩:=l rfl;rw[bifF];by_cases e:(4:Int)<(h.Y.length:Int)
 . rw[oi e];exact⟨true,rfl,λh=>by cases h⟩
 rw[oj e,bifF,Q5h hn om,sbind];exact⟨_,rfl,λ_=>⟨j rfl,om,g1,m,g3,g4⟩⟩
set_option maxRecDepth 100000
theorem Qwv{n k:Nat}{a:List (List Rat)}(hn:big<=n)(hk:k<274877906944)(j:a.length<=1000000)(h:∀ x∈a,QR k x/\x.length<=1000000):Qc7 n (toRR a) (rRR a)=some true:=by unfold Qc7;simp only[Qf5,Qlo];rw[oi trivial,ot,bifF,Qkg (λ_=>True) a.length (r:=false)];rw[oo (λ_ _=>trivial)];intro i hi;refine⟨λ_=>?_,λh=>absurd trivial h⟩;have d:a[i]?=some a[i]:=oq hi;obtain⟨e,f⟩:=h a[i] (xb hi);generalize a[i]=x at d e f;rw[oi (show(i:Int)<(a.length:Int) by omega),bifT,Je (show(toRR a)[i]?=some (toR x) by unfold toRR;exact Qav toR d),sbind,Je (Qsl d),sbind,Qzc hn f hk e,sbind,oi rfl,ot,bifF,w1 om];rw[oj om,bifF];unfold big at hn;omega
theorem Jjv{p:Qn}{T H:Rat}{Y U V:List Rat}{z}(h:tiltQ p T H Y U V=.inr z):z.2.1.length=U.length:=by
 obtain⟨f,l,m,d⟩:=Jfa h;obtain⟨j,q,r,s,w⟩:=Qnt f;have i:p.Tape.Av.length=U.length:=by have:=j.1.1.2.2.1;omega
 have e:limQ p.Aw<=4096:=by unfold limQ;omega
 unfold tdoQ at d;cases a:tstagesQ p.Tape (limQ p.Aw) T H U V (rv p.P) (List.zip (pairQ p.Ap) z.1.ys) 0 [] with
 | inl g=>rw[a] at d;cases d
 | inr kss=>
   rw[a] at d;have hk:=Q4m e i (λ_ h=>by cases h) a;rw[Jig d,Qha hk]
theorem Q5i{n k:Nat}{p:Qq}{h:Qh}(hn:big<=n)(f:1<=k)(hk:k<1048576)(hp:PrbWr k p)(m:h.Aq.length<=1000000)(q:∀ t∈h.Aq,FTr k t)(j:FRr k [h.T])(l:FRr k h.Y)(d:h.Y.length<=1000000):
 Qdi n p h=some (dP (AlR (tP p) (tHis h))):=by
 unfold Qdi AlR;simp only[jn_eq];have eY:((tHis h).Y.length:Int)=(h.Y.length:Int):=by show((h.Y.map tF).length:Int)=_;simp
 have eD:(tP p).Tape.A3=p.Tape.A3:=rfl;rw[Qps hn f hk hp,sbind,eY,eD];by_cases c1:prbR (tP p)
 case neg=>rw[dP_f c1,bifF,dP_f λg=>c1 g.1]
 obtain⟨v,i,e⟩:=Qpt hn f om m q j l d;rw[dP_t c1,bifT,i,sbind];by_cases a:v=0
 case neg=>rw[oj a,bifF,dP_f λg=>a (e.2 g.2.1)]
 rw[oi a,bifT];exact Qei ⟨λg=>⟨c1,e.1 a,g⟩,λg=>g.2.2⟩
theorem Q5j{n k:Nat}{p:Qq}{h:Qh}{U V:List Rat}(hn:big<=n)(h0:129<=k)(hk:k<8000)(hp:PrbWr k p)(ha:AlR (tP p) (tHis h))(ht:∀ t∈h.Aq,FTr k t)(hU:QR k U)(w:U.length=h.Y.length)(hV:QR k V)(L:V.length=p.P.length):
 Qdj n p h (rR U) (rR V)=some (match alongQ (tP p) V ((okT (tHis h).Aq).map nT) 0 U with | .inl f=>([],⟨f.Ay,f.Step,f.Bb,f.At⟩) | .inr r=>(rRR (U::r),⟨0,0,0,0⟩)):=by
 obtain⟨hr,J,M⟩:=ha;obtain⟨⟨c1,c2⟩,pt,⟨l1,l2⟩,m200,_⟩:=Q0e.1 J;have W:(h.Y.length:Int)=p.Tape.A3:=by
  have e:((tHis h).Y.length:Int)=(h.Y.length:Int):=by show((h.Y.map tF).length:Int)=_;simp
  rw[<-e];exact M
 unfold Qdj;simp only[jn_eq]
 have N:∀(m i B:Nat) (l:List (List Rat)) (u:List Rat) (a:Nat),i+m=h.Aq.length->m<B->l.length=a->a<=i->QR k u->u.length=h.Y.length ->
  (loopM (λ(d:(List (List Qa))×Int×Int)=>
  bif decide (d.2.2<(h.Aq.length:Int)) then (
      (getI h.Aq d.2.2).bind λA=>
      bif !A.Ok then (
       some (Lp.go (d.1,d.2.1,wrap64 (d.2.2+(1:Int)))))
      else (
       (getI d.1 (wrap64 ((d.1.length:Int) - (1:Int)))).bind λP=>
       (Qar n p A.T A.H A.Y P (rR V)).bind λs=>
       bif !decide (s.2.2.a0=(0:Int)) then (
        some (Lp.out (Lp.out ((([]:List (List Qa)),(⟨s.2.2.a0,wrap64 (d.2.1+(1:Int)),s.2.2.a1,s.2.2.a2⟩:Qg0))))))
       else (
        (appM 24 d.1 ([s.1]:List (List Qa))).bind λQ=>
        some (Lp.go (Q,wrap64 (d.2.1+(1:Int)),wrap64 (d.2.2+(1:Int)))))))
  else (
   some (Lp.out (Lp.go d.1)))) B (rRR (l++[u]),(a:Int),(i:Int))).bind (lpK λ(O:(List (List Qa)))=>some (O,(⟨0,0,0,0⟩:Qg0))) =
   some (match alongQ (tP p) V ((okT ((h.Aq.drop i).map tTry)).map nT) a u with | .inl f=>([],⟨f.Ay,f.Step,f.Bb,f.At⟩) | .inr r=>(rRR (l++u::r),⟨0,0,0,0⟩)):=by
  intro m
  induction m with
  | zero=>
    intro i B l u a hi I S hc K w;rw[Vs (t:=Lp.go (rRR (l++[u]))) (by simp only[];rw[oj om,bifF]) om,xy,Xi,xf om];rfl
  | succ m X=>
    intro i B l u a hi I S hc K w;obtain⟨n'',rfl⟩:∃ n'',B=n''+1:=⟨B - 1,om⟩
    have E:h.Aq[i]?=some (h.Aq[i]' om):=oq om;have G:=xb (l:=h.Aq) (n:=i) om;generalize h.Aq[i]' om=x at E G;obtain⟨⟨p1,Z⟩,p3⟩:=pt x G;obtain⟨x1,x2,x3⟩:=ht x G;rw[Qnw E,yv];cases q:x.Ok with
    | false=>
      rw[Qb5 (s':=(rRR (l++[u]),(a:Int),((i+1:Nat):Int))) (by
       simp only[]
       rw[oi (show(i:Int)<(h.Aq.length:Int) by omega),bifT,Je E,sbind,q,ov,bifT,w1 om])]
      rw[X (i+1) n'' l u a om om S om K w];have e:okT (tTry x::(h.Aq.drop (i+1)).map tTry)=okT ((h.Aq.drop (i+1)).map tTry):=by unfold okT;rw[List.filter_cons,ol];show ¬ x.Ok=true;rw[q];decide
      rw[e]
    | true=>
      have e:okT (tTry x::(h.Aq.drop (i+1)).map tTry)=tTry x::okT ((h.Aq.drop (i+1)).map tTry):=by unfold okT;rw[List.filter_cons,oo];exact q
      rw[e,yv];simp only[alongQ];have eT:rF (fr x.T)=x.T:=Qc0.2 (Z _ oc);have eH:rF (fr x.H)=x.H:=Qc0.2 (Z _ oc);have eY:rR (rvr x.Y)=x.Y:=Q2t.2 p1;have qT:qw (fr x.T)<=k:=qw_fr (x1 _ oc) om;have qH:qw (fr x.H)<=k:=qw_fr (x1 _ oc) om;have qY:QR k (rvr x.Y):=Qfy x2 om;have f1:fv (nT (tTry x)).T=fr x.T:=by show fv (toF (fv (tF x.T)))=_;rw[Jf,fr_tF]
      have f2:fv (nT (tTry x)).H=fr x.H:=by show fv (toF (fv (tF x.H)))=_;rw[Jf,fr_tF]
      have f3:rv (nT (tTry x)).Y=rvr x.Y:=by show rv (toR (rv (x.Y.map tF)))=_;rw[Zo,Qaj]
      have j:=Q2w (T:=fr x.T) (H:=fr x.H) (Y:=rvr x.Y) (U:=u) (V:=V) hn h0 hk hp hr qT qH qY (by rw[Wr];omega) K (by rw[Wr];omega) hV L;rw[eT,eH,eY] at j;rw[f1,f2,f3];have hlast:getI (rRR (l++[u])) (wrap64 (((rRR (l++[u])).length:Int) - 1))=some (rR u):=by rw[Qvf];exact Qua (by rw[Qlo];omega)
      cases C:tiltQ (tP p) (fr x.T) (fr x.H) (rvr x.Y) u V with
      | inl f=>
        rw[C] at j;have F:=Q99 C;simp only[] at j |-
        rw[Vs (t:=Lp.out ([],⟨f.Ay,((a+1:Nat):Int),f.Bb,f.At⟩)) (by
         simp only[];rw[oi (show(i:Int)<(h.Aq.length:Int) by omega),bifT,Je E,sbind,q,ot,bifF,hlast,sbind,j,sbind];simp only[]
         rw[oj F,ov,bifT,w1 om]) om,xy,Z0]
      | inr z=>
        rw[C] at j;obtain⟨z1,_⟩:=Jll C;have z2:=Jjv C;simp only[] at j |-
        rw[Qb5 (s':=(rRR ((l++[u])++[z.2.1]),((a+1:Nat):Int),((i+1:Nat):Int))) (by
         simp only[];rw[oi (show(i:Int)<(h.Aq.length:Int) by omega),bifT,Je E,sbind,q,ot,bifF,hlast,sbind,j,sbind];simp only[]
         rw[oi trivial,ot,bifF,Vt (by simp[Qlo];omega) (by simp[Qlo];omega),sbind,w1 om,w1 om,Qvf (l++[u])])]
        rw[X (i+1) n'' (l++[u]) z.2.1 (a+1) om om oh om (Jx z1 h0) om];cases hr:alongQ (tP p) V ((okT ((h.Aq.drop (i+1)).map tTry)).map nT) (a+1) z.2.1 with
        | inl f=>rfl
        | inr r=>simp only[];rw[xl];rfl
 have R:=N h.Aq.length 0 n [] U 0 om (by unfold big at hn;omega) rfl (xn _) hU w;rw[gy] at R;exact R
theorem Q5k(p:Qq)(h:Qh)(b:Qag)(hB:X9 p)(hH:Qey h)(hb:Qq0 b):∃ n,Qah n p h b=some true:=by
 refine⟨big,?_⟩;have hn:big<=big:=xn _;unfold Qah;simp only[jn_eq];obtain⟨v,e1,J⟩:=Q7e (p:=p) (h:=h) hn;rw[e1,sbind];cases v
 case true=>rw[bifT,bifT,w42];rfl
 obtain⟨⟨⟨t1,t2,t3⟩,⟨s1,s2,s3,s4,s5,s6⟩,p1⟩,hbits,g1,Z,g3,g4⟩:=J rfl;obtain⟨v,e5,e6⟩:=Q7c (b:=b) hn;rw[bifF,e5,sbind];cases v
 case true=>rw[bifT,w42];rfl
 obtain⟨Q,R⟩:=e6 rfl;rw[bifF];obtain⟨q,s,_⟩:=hb;obtain⟨b1,S,T,_⟩:=hH;have hw:=Q8v (bits:=p.Aw) hB oz (J rfl).1;have I:=Q5d hB oz oz oz (J rfl).1;have w:∀ t∈h.Aq,FT 6 (tTry t):=λt j=>Jda (b1.2 t j) (g4 t j)
 have d:∀ t∈h.Aq,FTr 129 t:=λt j=>by
  obtain⟨q1,q2,q3⟩:=Jfc (w t j) (show 6<=129 by decide);refine⟨λf l=>?_,λf l=>?_,?_⟩
  . have:Fk 129 (tF f):=q1 (tF f) (by show _∈[tF t.T,tF t.Ax,tF t.H,tF t.A5];simp at l |-;rcases l with rfl | rfl | rfl | rfl<;>simp)
    exact Fk_wd this
  . exact Fk_wd (q2 (tF f) (ua l))
  . have:=q3
    rw[show(tTry t).Y.length=t.Y.length from ou _] at this;exact this
 have hyl:=g3.1
 have L:FRr 129 [h.T]:=λf l=>by rw[xx.1 l];exact Fk_wd (Vm (Fk_tF S Z) oz)
 have M:FRr 129 h.Y:=Qin (Qve T g3) oz;have hU:FR 129 (b.U.map tF):=W3 (FR_tF q Q) oz;have hV:FR 129 (b.V.map tF):=W3 (FR_tF s R) oz;have F:FRr 129 b.U:=Qin (Qve q Q) oz;have G:FRr 129 b.V:=Qin (Qve s R) oz;have u4:=Q.1;have v4:=R.1;have lU:(b.U.map tF).length<=6:=by rw[ou];omega
 rw[Qts hn om om om (by have:=s3.1;omega) (by have:=s4.1;omega) (by have:=s5.1;omega) (λr hr=>by have:=(s6 r hr).1;omega) (by have:=p1.1;omega),sbind,Q01 hn om om (λt j=>(d t j).2.2),sbind,Qa2 hn om,sbind,Qa2 hn om,sbind];have hTl:(tHis h).Aq.length<=5:=by show(h.Aq.map tTry).length<=5;rw[ou];exact g1
 have B:∀ t∈(tHis h).Aq,FT 129 t:=λx m=>by obtain⟨t,j,rfl⟩:=xd.1 m;exact Jfc (w t j) oz
 have C:Fk 129 (tHis h).T:=Vm (Fk_tF S Z) oz;have E:FR 129 (tHis h).Y:=W3 (FR_tF T g3) oz;have eYl:(tHis h).Y.length=h.Y.length:=by show(h.Y.map tF).length=_;rw[ou]
 have A:(tP p).P.length=p.P.length:=by unfold tP;simp
 obtain⟨U,V⟩:=Qvm (n:=big) (p:=tP p) (h:=tHis h) (u:=b.U.map tF) (v:=b.V.map tF) hn oz oz hw om B C E om hU om hV;obtain⟨W,X,Y⟩:=Q2y (n:=big) (p:=tP p) (h:=tHis h) (u:=b.U.map tF) (v:=b.V.map tF) hn oz oz hw om B C E om hU om hV;rw[Qaj,Qaj] at U V W X Y;rw[U,sbind,W,sbind,Q5i (k:=129) hn oz oz I om d L M om,sbind,bifnP]
 have i:¬(AlR (tP p) (tHis h)/\(rvr b.U).length=(tHis h).Y.length/\(rvr b.V).length=(tP p).P.length)->nodesQ (tP p) (tHis h) (rvr b.U) (rvr b.V)=.inl ⟨2,0,0,0⟩:=λg=>by unfold nodesQ;rw[ol g]
 by_cases hr:AlR (tP p) (tHis h)
 case neg=>
  rw[ol hr,bifT,i λg=>hr g.1];simp only[];simp only[Wf,bifT];rw[w42];rfl
 rw[oo hr];by_cases O:(b.U.length:Int)=(h.Y.length:Int)
 case neg=>
  rw[oj O,ov,bifT,bifT,i λg=>O (by have:=g.2.1;rw[Wr,eYl] at this;omega)];simp only[];simp only[Wf,bifT];rw[w42];rfl
 rw[oi O,ot,bifF];by_cases P:(b.V.length:Int)=(p.P.length:Int)
 case neg=>
  rw[oj P,ov,bifT,i λg=>P (by have:=g.2.2;rw[Wr,A] at this;omega)];simp only[];simp only[Wf,bifT];rw[w42];rfl
 clear i;rw[oi P,ot,bifF,Qaq hn (show 129<1099511627776 by decide) F om,sbind,Qaq hn (show 129<1099511627776 by decide) G om,sbind];have qU:=Qfy F oz;have qV:=Qfy G oz;rw[Q5j hn oz oz I hr d qU (by rw[Wr];omega) qV (by rw[Wr];omega),sbind];unfold Qfo;have N:nodesQ (tP p) (tHis h) (rvr b.U) (rvr b.V)=alongQ (tP p) (rvr b.V) ((okT (tHis h).Aq).map nT) 0 (rvr b.U):=by
  unfold nodesQ;rw[oo ⟨hr,by rw[Wr,eYl];omega,by rw[Wr,A];omega⟩]
 rw[<-N];cases K:nodesQ (tP p) (tHis h) (rvr b.U) (rvr b.V) with
 | inl g=>
   have gk:=X g K;simp only[];rw[show Qc7 big [] []=some true from Qwv (k:=1) (a:=[]) hn oz oz (λ_ h=>by cases h),sbind,ot,bifF,sbind,Wf,ot,bifF,bifF,oj gk,ov,bifT,w42];rfl
 | inr r=>
   have r1:=V r K;obtain⟨r2,r3,r4⟩:=Y r K
   have H:∀ x∈rvr b.U::r,QR 129 x/\x.length<=1000000:=λx m=>by
    rcases xg.1 m with rfl | m
    . exact⟨qU,by rw[Wr];omega⟩
    . exact⟨(r1 x m).1,by have:=(r1 x m).2;omega⟩
   simp only[];rw[Qwv (k:=129) hn oz oh H,sbind,ot,bifF,sbind,Wf,ot,bifF,bifF,oi trivial,ot,bifF];have hlast:getI (rRR (rvr b.U::r)) (wrap64 (((rRR (rvr b.U::r)).length:Int) - 1))=some (rR (r.getLastD (rvr b.U))):=by
    have e:wrap64 (((rRR (rvr b.U::r)).length:Int) - 1)=((r.length:Nat):Int):=by rw[Qlo,xm,w64 om om];omega
    rw[e];exact Je (Qsl (Q0k r _))
   rw[hlast,sbind,Qzc (k:=129) hn om oz r2,sbind,oi rfl,bifT,w42];rfl
end Go.Proofs.YtbdgngdpkdagoabGreatDoor
