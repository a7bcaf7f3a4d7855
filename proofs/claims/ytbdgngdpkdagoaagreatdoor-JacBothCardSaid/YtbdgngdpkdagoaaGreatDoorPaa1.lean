import Derived.Test.YtbdgngdpkdagoaaGreatDoorModaa
import Derived.Test.YtbdgngdpkdagoaaGreatDoorPa1
namespace Go.Proofs.YtbdgngdpkdagoaaGreatDoor
open Go Go.RowKit
set_option maxRecDepth 100000
def toD(v d:Rat):Q1:=⟨toF v,toF d⟩
def toDD(vs ds:List Rat):List Q1:=List.zipWith toD vs ds
theorem Qq5{vs ds:List Rat}(h:ds.length=vs.length):(toDD vs ds).length=vs.length:=by unfold toDD;rw[td,h,jy]
theorem Q90{vs ds:List Rat}{v d:Rat}(h:ds.length=vs.length):toDD vs ds++[toD v d]=toDD (vs++[v]) (ds++[d]):=by unfold toDD;rw[List.zipWith_append h.symm];rfl
theorem Qrt{vs ds:List Rat}{r:Int}(h:ds.length=vs.length)(d:0<=r)(e:r<(vs.length:Int)):getI (toDD vs ds) r=some (toD (vs.getD r.toNat 0) (ds.getD r.toNat 0)):=by
 obtain⟨k,rfl⟩:∃ k:Nat,r=(k:Int):=⟨r.toNat,om⟩
 have hk:k<vs.length:=om
 have a:k<ds.length:=om
 rw[Qfh,ya];unfold toDD;rw[wu,oi hk,oi a,ot,oi hk,ot,oi a];rfl
def slopeQ(x:Qv)(q T:Rat)(Y P vs ds:List Rat):Rat:=
 if x.Op=6 then -ds.getD x.A.toNat 0 else
 if x.Op=11 then ((x.B:Rat)*turnQ (vs.getD x.A.toNat 0) q x.B)*ds.getD x.A.toNat 0 else
 if x.Op=7 then ds.getD x.A.toNat 0+ds.getD x.B.toNat 0 else
 if x.Op=8 then ds.getD x.A.toNat 0 - ds.getD x.B.toNat 0 else
 if x.Op=9 then ds.getD x.A.toNat 0*vs.getD x.B.toNat 0+vs.getD x.A.toNat 0*ds.getD x.B.toNat 0 else
 if x.Op=10 then (ds.getD x.A.toNat 0 - q*ds.getD x.B.toNat 0) / vs.getD x.B.toNat 0 else
 if x.Op=1 then 0 else
 if x.Op=3 then Y.getD x.A.toNat 0 else
 if x.Op=4 then P.getD x.A.toNat 0 else T
theorem Jhv{n k:Nat}{g:Qk}{z:Int}{t:Qm}{x:Qv}{T T':Rat}{Y P Y' P' vs ds:List Rat}(hn:big<=n)(f:1<=k)(hk:k<1048576)(K:mayR t vs.length x)(U:Fk k x.N)
 (hT:qw T<=k) (hY:QR k Y) (hP:QR k P) (V:QR k vs) (hT':qw T'<=k) (G:QR k Y') (E:QR k P') (S:QR k ds) (W:ds.length=vs.length) (L:Y'.length=Y.length) (I:P'.length=P.length) (hy:(Y.length:Int)=t.A0) (hp:(P.length:Int)=t.A3) :
 ∃ v,Ve n g z x ⟨toD T T',toDD Y Y',toDD P P'⟩ (toDD vs ds)=some (match opQ x T Y P vs with | none=>(v,false) | some q=>(toD q (slopeQ x q T' Y' P' vs ds),true))/\∀ q,opQ x T Y P vs=some q->qw q<=8*k+1/\qw (slopeQ x q T' Y' P' vs ds)<=20*k+10:=by
 unfold Ve opQ slopeQ;have C:=Qmr K;have dA:x.Op=6\/x.Op=11\/x.Op=7\/x.Op=8\/x.Op=9\/x.Op=10->getI (toDD vs ds) x.A=some (toD (vs.getD x.A.toNat 0) (ds.getD x.A.toNat 0)):=λh=>Qrt W (C _ (rdT_A h)).1 (C _ (rdT_A h)).2;have dB:x.Op=7\/x.Op=8\/x.Op=9\/x.Op=10->getI (toDD vs ds) x.B=some (toD (vs.getD x.B.toNat 0) (ds.getD x.B.toNat 0)):=λh=>Qrt W (C _ (rdT_B h)).1 (C _ (rdT_B h)).2;have qA:qw (vs.getD x.A.toNat 0)<=k:=Vp V f;have qB:qw (vs.getD x.B.toNat 0)<=k:=Vp V f;have qA':qw (ds.getD x.A.toNat 0)<=k:=Vp S f;have qB':qw (ds.getD x.B.toNat 0)<=k:=Vp S f;generalize vs.getD x.A.toNat 0=a at dA qA |-;generalize vs.getD x.B.toNat 0=b at dB qB |-;generalize ds.getD x.A.toNat 0=a' at dA qA' |-;generalize ds.getD x.B.toNat 0=b' at dB qB' |-;have fA:Fk k (toF a):=Jq qA;have fB:Fk k (toF b):=Jq qB;have fA':Fk k (toF a'):=Jq qA';have fB':Fk k (toF b'):=Jq qB';have pV:∀ u w:Rat,(toD u w).V=toF u:=λ_ _=>rfl;have pD:∀ u w:Rat,(toD u w).D=toF w:=λ_ _=>rfl;simp only[bifd];by_cases o6:x.Op=6;simp only[oq o6];unfold Qh2;rw[dA om,sbind,pV,pD,Qhn hn (Fk_Fw fA om),sbind,Qhn hn (Fk_Fw fA' om),sbind,sbind,Jf,Jf];exact⟨toD 0 0,rfl,λq d=>by cases d;rw[Qjz,Qjz];omega⟩;simp only[oj o6];by_cases s:x.Op=11;simp only[oq s];unfold Qh3;simp only[jn_eq];rw[dA om,sbind,pV,pD,Qob hn f om fA,sbind,Jf];by_cases H:x.B < -8\/8<x.B\/(x.B<0/\a=0)
 simp only[oq H];exact⟨_,rfl,λq d=>by cases d⟩;simp only[oj H];rw[ou,bifF,Zp hn,sbind];have d:=Qxn qA (e:=x.B) om
 have j:∀ w:Rat,qw w<=16*k+2->turnQ a (a ^ x.B) x.B=w->((Ko n x.B).bind λO=>(W5 n O (toF w)).bind λQ=>(W5 n Q (toF a')).bind λR=>(some ((⟨toF (a ^ x.B),R⟩:Q1),true):Option (Q1×Bool)))=some (toD (a ^ x.B) (((x.B:Rat)*turnQ a (a ^ x.B) x.B)*a'),true)/\qw (((x.B:Rat)*turnQ a (a ^ x.B) x.B)*a')<=20*k+10:=λw X e=>by have qi:=Q38 (z:=x.B) om;have A:=X0 qi X;have B:=X0 A qA';rw[Qma hn om om,sbind,Yc (k:=16*k+2) hn om om (Jq om) (Jq X),sbind,Yc (k:=20*k) hn om om (Jq (by rw[Jf,Jf];omega)) (Jq om),sbind,Jf,Jf,Jf,Jf,e];exact⟨rfl,om⟩
 simp only[bifd];by_cases h0:0<x.B;have J:=Qxn qA (e:=x.B - 1) om;obtain⟨k1,k2⟩:=j (a ^ (x.B - 1)) om (by unfold turnQ;rw[oq h0]);rw[oq h0,w64 om om,Qob hn f om fA,sbind,Jf,oj (show ¬(x.B - 1 < -8\/8<x.B - 1\/(x.B - 1<0/\a=0)) by omega)];simp only[];rw[k1,sbind];exact⟨toD 0 0,rfl,λq d=>by cases d;exact⟨d,k2⟩⟩;rw[oj h0];by_cases l:x.B<0;have ha:¬ a=0:=λg=>H (.inr (.inr ⟨l,g⟩));have J:=Qqb d qA;obtain⟨k1,k2⟩:=j (a ^ x.B / a) om (by unfold turnQ;rw[oj h0,oq l]);rw[oq l,Qho (k:=8*k+1) hn om om (Jq d) (Jq om),sbind,Jf,Jf,oj ha];simp only[];rw[k1,sbind];exact⟨toD 0 0,rfl,λq d=>by cases d;exact⟨d,k2⟩⟩;obtain⟨k1,k2⟩:=j 0 (by rw[Zo];omega) (by unfold turnQ;rw[oj h0,oj l]);rw[oj l,k1,sbind];exact⟨toD 0 0,rfl,λq d=>by cases d;exact⟨d,k2⟩⟩;simp only[oj s];by_cases o7:x.Op=7;simp only[oq o7];unfold Qh4;rw[dA om,sbind,dB om,sbind,pV,pV,pD,pD,Wo hn f om fA fB,sbind,Wo hn f om fA' fB',sbind,sbind,Jf,Jf,Jf,Jf];exact⟨toD 0 0,rfl,λq d=>by cases d;have:=Zx qA qB;have:=Zx qA' qB';omega⟩;simp only[oj o7];by_cases o8:x.Op=8;simp only[oq o8];unfold Qh5;rw[dA om,sbind,dB om,sbind,pV,pV,pD,pD,Qoa hn f om fA fB,sbind,Qoa hn f om fA' fB',sbind,sbind,Jf,Jf,Jf,Jf];exact⟨toD 0 0,rfl,λq d=>by cases d;have:=Q1e qA qB;have:=Q1e qA' qB';omega⟩;simp only[oj o8];by_cases o9:x.Op=9;simp only[oq o9];unfold Qh6;have A:=X0 qA' qB;have B:=X0 qA qB';have q3:=X0 qA qB;have q4:=Zx A B;rw[dA om,sbind,dB om,sbind,pV,pV,pD,pD,Yc hn f om fA fB,sbind,Yc hn f om fA' fB,sbind,Yc hn f om fA fB',sbind,Jf,Jf,Jf,Jf,Wo (k:=2*k) hn om om (Jq om) (Jq om),sbind,sbind,Jf,Jf];exact⟨toD 0 0,rfl,λq d=>by cases d;omega⟩;simp only[oj o9];by_cases r:x.Op=10;simp only[oq r];unfold Qh7;rw[dA om,sbind,dB om,sbind,pV,pV,pD,pD,Qho hn f om fA fB,sbind,Jf,Jf];by_cases hb:b=0;simp only[oq hb];exact⟨_,rfl,λq d=>by cases d⟩;simp only[oj hb];have q0:=Qqb qA qB;have A:=X0 q0 qB';have B:=Q1e qA' A;have q3:=Qqb B qB;rw[ou,bifF,Yc (k:=2*k) hn om om (Jq om) (Jq om),sbind,Jf,Jf,Qoa (k:=3*k) hn om om (Jq om) (Jq om),sbind,Jf,Jf,Qho (k:=4*k+1) hn om om (Jq om) (Jq om),sbind,Jf,Jf,oj hb,sbind];exact⟨toD 0 0,rfl,λq d=>by cases d;omega⟩;simp only[oj r];unfold X5;simp only[bifd];by_cases Z:x.Op=1;simp only[oq Z];unfold Qi5;rw[V0 hn (Fk_Fw U om),sbind,Zp hn,sbind,sbind,sbind];exact⟨toD 0 0,rfl,λq d=>by cases d;have:=qw_fv U f;rw[Zo];omega⟩;simp only[oj Z];by_cases M:x.Op=3;simp only[oq M];obtain⟨a1,a2⟩:=Qxp K M;rw[Qrt L a1 om,sbind,sbind]
 exact⟨toD 0 0,rfl,λq d=>by cases d;have:=Vp (i:=x.A.toNat) hY f;have:=Vp (i:=x.A.toNat) G f;omega⟩;simp only[oj M];by_cases N:x.Op=4;simp only[oq N];obtain⟨a1,a2⟩:=Qxq K N;rw[Qrt I a1 om,sbind,sbind];exact⟨toD 0 0,rfl,λq d=>by cases d;have:=Vp (i:=x.A.toNat) hP f;have:=Vp (i:=x.A.toNat) E f;omega⟩;simp only[oj N];exact⟨toD 0 0,rfl,λq d=>by cases d;omega⟩
def prunQ(lim:Int)(T:Rat)(Y P:List Rat)(T':Rat)(Y' P':List Rat):List Qv->Nat->List Rat->List Rat->(Int×Int×Nat) ⊕ (List Rat×List Rat)
 | [],_,vs,ds=>.inr (vs,ds)
 | x::c,i,vs,ds=>match opQ x T Y P vs with
   | none=>.inl (3,0,i)
   | some q=>if (qz q:Int)<=lim then (if (qz (slopeQ x q T' Y' P' vs ds):Int)<=lim then prunQ lim T Y P T' Y' P' c (i+1) (vs++[q]) (ds++[slopeQ x q T' Y' P' vs ds]) else .inl (6,1,i)) else .inl (6,0,i)
theorem Jjz{n k:Nat}{g:Qk}{t:Qm}{T T':Rat}{Y P Y' P':List Rat}(hn:big<=n)(h1:129<=k)(hk:k<1048576)(ht:tapeR t)(hR:Qb2 n t=some true)(J:∀ c∈t.Code,Fk k c.N)
 (hT:qw T<=k) (hY:QR k Y) (hP:QR k P) (N:qw T'<=k) (O:QR k Y') (M:QR k P') (H:Y'.length=Y.length) (G:P'.length=P.length) (E:(Y.length:Int)=t.A0) (hp:(P.length:Int)=t.A3) (S:g.limit<=4096) :
 ∃ w,Wy n g 0 t ⟨toD T T',toDD Y Y',toDD P P'⟩=some (match prunQ g.limit T Y P T' Y' P' t.Code 0 [] [] with | .inl e=>([],⟨e.1,0,0,(e.2.2:Int)⟩,w,e.2.1) | .inr l=>(toDD l.1 l.2,⟨0,0,0,0⟩,w,0)):=by
 unfold Wy;simp only[jn_eq,hR,sbind,ou,bifF];rw[Qq5 H,Qq5 G,ol E,ol hp,ou,bifF,bifF]
 have W:∀(c:List Qv) (vs ds:List Rat) (g:Qk) (K:Qk×Int×List Q1->Option (List Q1×Qe×Qk×Int)),(∀(j:Nat) x,c[j]?=some x->mayR t (vs.length+j) x)->(∀ x∈c,Fk k x.N)->QR k vs->QR k ds->ds.length=vs.length->g.limit<=4096->vs.length+c.length<=300 ->
  ∃ w,(rangeL (λ(I:Nat) (X:Qv) (a:Qk×Int×(List Q1))=>
    (Ve n a.1 a.2.1 X ⟨toD T T',toDD Y Y',toDD P P'⟩ a.2.2).bind λB=>
    bif !B.2 then (
     some (Lp.out ((([]:List Q1),(⟨(3:Int),0,0,(I:Int)⟩:Qe),a.1,a.2.1))))
    else (
     (Qet n a.1 a.2.1 B.1).bind λs=>
     bif !s.1 then (
      some (Lp.out ((([]:List Q1),(⟨(6:Int),0,0,(I:Int)⟩:Qe),s.2.1,s.2.2))))
     else (
      (appM 112 a.2.2 ([B.1]:List Q1)).bind λZ=>
      some (Lp.go (s.2.1,s.2.2,Z))))) c vs.length (g,0,toDD vs ds)).bind (lpK K)=match prunQ g.limit T Y P T' Y' P' c vs.length vs ds with | .inl e=>some ([],⟨e.1,0,0,(e.2.2:Int)⟩,w,e.2.1) | .inr l=>K (w,0,toDD l.1 l.2):=by
  intro c
  induction c with
  | nil=>intro vs ds g K _ _ _ _ _ _ _;exact⟨g,rfl⟩
  | cons x c ih=>
    intro vs ds g K hm J hV hD f S U;simp only[rangeL,prunQ];obtain⟨v,e1,e2⟩:=Jhv (g:=g) (z:=0) hn om hk (by have:=hm 0 x rfl;rwa [xp] at this) (J x (.head _)) hT hY hP hV N O M hD f H G E hp;rw[e1,sbind];cases hq:opQ x T Y P vs with
    | none=>exact⟨g,rfl⟩
    | some q=>
      obtain⟨hqk,R⟩:=e2 q hq;simp only[ou,bifF];generalize slopeQ x q T' Y' P' vs ds=d at R |-;unfold Qet;rw[show(toD q d).V=toF q from rfl,show(toD q d).D=toF d from rfl,Qoy hn om,sbind];simp only[];by_cases L:(qz q:Int)<=g.limit;rw[ol L,oq L,ou,bifF,Qoy hn om,sbind];simp only[];by_cases A:(qz d:Int)<=g.limit;rw[ol (show(qz d:Int)<=(noteG g q).limit from A),oq A,ou,bifF,sbind];simp only[ou,bifF];rw[J5 (by rw[Qq5 f];simp at U |-;omega) (by rw[Qq5 f];simp at U |-;omega),sbind,sbind];simp only[];have V:qw q<=k:=by
       have:=qw_qz (q:=q) (b:=4096) om;omega
      have Q:qw d<=k:=by have:=qw_qz (q:=d) (b:=4096) om;omega
      have i:(vs++[q]).length=vs.length+1:=oc
      obtain⟨w,h⟩:=ih (vs++[q]) (ds++[d]) (noteG (noteG g q) d) K (λj y E=>by
       rw[i,show vs.length+1+j=vs.length+(j+1) by omega];exact hm (j+1) y (by simpa using E)) (λy E=>J y (.tail _ E)) (λz r=>by
       rcases yd.1 r with r | r;exact hV z r;rw[xk.1 r];exact V) (λz r=>by
       rcases yd.1 r with r | r;exact hD z r
       rw[xk.1 r];exact Q) (by simp;exact f) S (by rw[i];simp at U;omega)
      refine⟨w,?_⟩;rw[i] at h;rw[Q90 f];exact h;rw[oo (show ¬(qz d:Int)<=(noteG g q).limit from A),oj A,ow,bifT];unfold Qn7;rw[sbind,sbind];exact⟨noteG (noteG g q) d,rfl⟩;rw[oo L,oj L,ow,bifT,sbind];exact⟨noteG g q,rfl⟩
 obtain⟨⟨d1,d2,d3,d4⟩,m1,m2⟩:=ht;obtain⟨w,h⟩:=W t.Code [] [] g (λC=>some (C.2.2,(⟨0,0,0,0⟩:Qe),C.1,C.2.1)) (λj x hx=>by rw[show([]:List Rat).length+j=j by simp];exact m1 j x hx) J (λ_ h=>by cases h) (λ_ h=>by cases h) rfl S (by simpa using d4);refine⟨w,?_⟩;rw[show(([]:List Rat).length)=0 from rfl,show toDD [] []=[] from rfl] at h;rw[h];cases prunQ g.limit T Y P T' Y' P' t.Code 0 [] []<;>rfl
set_option maxRecDepth 100000
theorem Q8j{α:Type}{l:List α}{i:Nat}{x:α}(h:l[i]?=some x):l.take (i+1)=l.take i++[x]:=by rw[vn,h];rfl
theorem Q4e{lim T Y P T' Y' P'}(f:lim<=4096):∀ {c:List Qv}{i:Nat}{vs ds:List Rat}{l:List Rat×List Rat},QR 129 vs->QR 129 ds->ds.length=vs.length->prunQ lim T Y P T' Y' P' c i vs ds=.inr l->l.1.length=vs.length+c.length/\l.2.length=l.1.length/\QR 129 l.1/\QR 129 l.2
 | [],i,vs,ds,l,r,hd,j,h=>by simp only[prunQ] at h;cases h;exact⟨rfl,j,r,hd⟩
 | x::c,i,vs,ds,l,r,hd,j,h=>by
   simp only[prunQ] at h;cases w:opQ x T Y P vs with
   | none=>rw[w] at h;cases h
   | some q=>
     rw[w] at h;simp only[] at h;generalize slopeQ x q T' Y' P' vs ds=d at h;by_cases s:(qz q:Int)<=lim
     case neg=>rw[oj s] at h;cases h
     rw[oq s] at h;by_cases e:(qz d:Int)<=lim
     case neg=>rw[oj e] at h;cases h
     rw[oq e] at h;have G:=qw_qz (q:=q) (b:=4096) om;have H:=qw_qz (q:=d) (b:=4096) om
     obtain⟨A,B,C,E⟩:=Q4e f (λz a=>by
      rcases yd.1 a with a | a
      . exact r z a
      . rw[xk.1 a];omega) (λz a=>by
      rcases yd.1 a with a | a
      . exact hd z a
      . rw[xk.1 a];omega) (by simp;exact j) h
     exact⟨by rw[A];simp;omega,B,C,E⟩
theorem Qzd{lim T Y P T' Y' P'}:∀ {c:List Qv}{i:Nat}{vs ds:List Rat}{e},prunQ lim T Y P T' Y' P' c i vs ds=.inl e->e.1=3\/e.1=6
 | [],i,vs,ds,e,h=>by simp only[prunQ] at h;cases h
 | x::c,i,vs,ds,e,h=>by
   simp only[prunQ] at h;cases a:opQ x T Y P vs with
   | none=>rw[a] at h;cases h;exact .inl rfl
   | some q=>
     rw[a] at h;simp only[] at h;split at h;split at h;exact Qzd h;cases h;exact .inr rfl;cases h;exact .inr rfl
def pfieldQ(t:Qm)(lim:Int)(T:Rat)(Y P:List Rat)(T':Rat)(Y' P':List Rat):(Int×Int×Nat) ⊕ (List Rat×List Rat):=
 match prunQ lim T Y P T' Y' P' t.Code 0 [] [] with
 | .inl e=>.inl e
 | .inr l=>.inr (t.Az.map λo=>l.1.getD o.toNat 0,t.Az.map λo=>l.2.getD o.toNat 0)
theorem Qxy{vs ds:List Rat}(h:ds.length=vs.length)(r:vs.length<=1000000):Qk2 (toR vs) (toR ds)=some (toDD vs ds,true):=by
 unfold Qk2;rw[Jj,Jj,ol om,ou,bifF];rw[Zw (λi=>toDD (vs.take i) (ds.take i)) (toR vs)];rw[Jj,xc,<-h,xc];show some _=_;rfl;intro i x e;have hi:=Kc e;rw[Jj] at hi;have f:vs[i]?=some vs[i]:=oi hi;have j:ds[i]?=some (ds[i]' om):=oi _;generalize vs[i]=v at f;generalize ds[i]' om=d at j;have l:x=toF v:=by
  unfold toR at e;rw[xm,f] at e;exact(Option.some.inj e).symm
 have a:(ds.take i).length=(vs.take i).length:=by rw[xa,xa,h]
 have q:(vs.take i).length<=vs.length:=by rw[xa];omega
 rw[Q7 (show(toR ds)[i]?=some (toF d) by unfold toR;rw[xm,j];rfl),sbind,J5 (by rw[Qq5 a];simp;omega) (by rw[Qq5 a];simp;omega),sbind,l,show(⟨toF v,toF d⟩:Q1)=toD v d from rfl,Q90 a,Q8j f,Q8j j];rfl
theorem Q6h{n k:Nat}{t:Qm}{p q:V3}{bits:Int}(hn:big<=n)(E:129<=k)(hk:k<1048576)(G:Q1i n k t)(B:Fk k p.T)(C:FR k p.Y)(A:FR k p.P)(d:Fk k q.T)(f:FR k q.Y)(a:FR k q.P)(H:(p.Y.length:Int)=t.A0)(hp:(p.P.length:Int)=t.A3)(s:q.Y.length=p.Y.length)(j:q.P.length=p.P.length):
 Ql1 n t p q bits=some (match pfieldQ t (min (max bits 0) 4096) (fv p.T) (rv p.Y) (rv p.P) (fv q.T) (rv q.Y) (rv q.P) with | .inl e=>([],[],⟨e.1,0,e.2.1,(e.2.2:Int)⟩) | .inr l=>(toR l.1,toR l.2,⟨0,0,0,0⟩)):=by
 obtain⟨r,h,w⟩:=G;have hd:=r.1;obtain⟨⟨J,K⟩,⟨L,M⟩,N,O⟩:=hd;have eT:=qw_fv B om;have eY:=QR_rv C om;have eP:=QR_rv A om;have eT':=qw_fv d om;have eY':=QR_rv f om;have eP':=QR_rv a om;unfold Ql1 Qrg Qgp X9;simp only[jn_eq];rw[V0 hn (Fk_Fw B om),sbind,Qcx hn om C om,sbind,Qcx hn om A om,sbind,sbind,V0 hn (Fk_Fw d om),sbind,Qcx hn om f om,sbind,Qcx hn om a om,sbind,sbind];simp only[];rw[Qxy (by rw[Ji,Ji];exact s) (by rw[Ji];omega),sbind,Qxy (by rw[Ji,Ji];exact j) (by rw[Ji];omega),sbind];simp only[ou,bifF,sbind];obtain⟨P,e⟩:=Jjz (g:=⟨⟨0,0⟩,min (max bits 0) 4096⟩) hn E hk r h w eT eY eP eT' eY' eP' (by rw[Ji,Ji];exact s) (by rw[Ji,Ji];exact j) (by rw[Ji];exact H) (by rw[Ji];exact hp) (by simp only[];omega);rw[show(⟨toF (fv p.T),toF (fv q.T)⟩:Q1)=toD (fv p.T) (fv q.T) from rfl,e,sbind];unfold pfieldQ;simp only[];cases hr:prunQ (min (max bits 0) 4096) (fv p.T) (rv p.Y) (rv p.P) (fv q.T) (rv q.Y) (rv q.P) t.Code 0 [] [] with
 | inl q=>
   have hk:=Qzd hr;simp only[];rw[sbind];simp only[];rw[Ky om,ow,bifT]
 | inr l=>
   obtain⟨l1,I,R,S⟩:=Q4e om (λ_ h=>by cases h) (λ_ h=>by cases h) rfl hr;have Q:l.1.length=t.Code.length:=by simpa using l1
   simp only[];rw[sbind];simp only[];rw[Kk,ou,bifF];rw[Zw (λi=>(toR ((t.Az.take i).map λo=>l.1.getD o.toNat 0),toR ((t.Az.take i).map λo=>l.2.getD o.toNat 0))) t.Az];rw[xc];rfl;intro i o x;have hb:=r.2.2 o (Jm x);have hi:=Kc x;rw[Qrt I hb.1 om,sbind,J5 (by simp only[Jj,ov,xa,xn,yr];omega) (by simp only[Jj,ov,xa,xn,yr];omega),sbind,sbind,J5 (by simp only[Jj,ov,xa,xn,yr];omega) (by simp only[Jj,ov,xa,xn,yr];omega),sbind,Q8j x];simp only[xw,yy,List.map_nil];rw[<-Q36,<-Q36];rfl;rfl
theorem Q6i{t:Qm}{lim T Y P T' Y' P' l}(a:lim<=4096)(h:pfieldQ t lim T Y P T' Y' P'=.inr l):l.1.length=t.Az.length/\l.2.length=t.Az.length/\QR 129 l.1/\QR 129 l.2:=by
 unfold pfieldQ at h;cases hr:prunQ lim T Y P T' Y' P' t.Code 0 [] [] with
 | inl q=>rw[hr] at h;cases h
 | inr l'=>
   rw[hr] at h;cases h;obtain⟨l1,i,e,f⟩:=Q4e a (λ_ h=>by cases h) (λ_ h=>by cases h) rfl hr;refine⟨oc,oc,λq d=>?_,λq d=>?_⟩;obtain⟨o,_,rfl⟩:=xz.1 d;exact Vp e om;obtain⟨o,_,rfl⟩:=xz.1 d;exact Vp f om
theorem Q1q{t:Qm}{lim T Y P T' Y' P' e}(h:pfieldQ t lim T Y P T' Y' P'=.inl e):e.1=3\/e.1=6:=by
 unfold pfieldQ at h;cases hr:prunQ lim T Y P T' Y' P' t.Code 0 [] [] with
 | inl q=>rw[hr] at h;cases h;exact Qzd hr
 | inr l'=>rw[hr] at h;cases h
set_option maxRecDepth 100000
def tstageQ(t:Qm)(lim:Int)(T H:Rat)(U V P:List Rat)(y a:List Rat)(c:Rat)(i:Nat)(kss:List (List Rat)):Qe ⊕ List Rat:=
 match fitQ lim (fromQ H U a kss) 0 with
 | some j=>.inl ⟨6,0,(i:Int),300+(j:Int)⟩
 | none=>match pfieldQ t lim (T+H*c) y P 0 (fromQ H U a kss) V with
   | .inl e=>.inl ⟨e.1,0,(i:Int),(e.2.2:Int)⟩
   | .inr k=>.inr k.2
def tstagesQ(t:Qm)(lim:Int)(T H:Rat)(U V P:List Rat):List ((List Rat×Rat)×List Rat)->Nat->List (List Rat)->Qe ⊕ List (List Rat)
 | [],_,kss=>.inr kss
 | x::r,i,kss=>match tstageQ t lim T H U V P x.2 x.1.1 x.1.2 i kss with
   | .inl f=>.inl f
   | .inr k=>tstagesQ t lim T H U V P r (i+1) (kss++[k])
def tendQ(s:Qw)(lim:Int)(H:Rat)(U:List Rat)(kss:List (List Rat)):Qe ⊕ (List Rat×List Rat):=
 match fitQ lim (fromQ H U (rv s.B) kss) 0 with
 | some j=>.inl ⟨6,0,(s.B.length:Int),300+(j:Int)⟩
 | none=>match fitQ lim (if gapQ s=[] then [] else towQ H U.length (gapQ s) kss) 0 with
   | some j=>.inl ⟨6,0,(s.B.length:Int)+1,300+(j:Int)⟩
   | none=>.inr (fromQ H U (rv s.B) kss,if gapQ s=[] then [] else towQ H U.length (gapQ s) kss)
def tdoQ(t:Qm)(s:Qw)(lim:Int)(T H:Rat)(U V P:List Rat)(yss:List (List Rat)):Qe ⊕ (List Rat×List Rat):=
 match tstagesQ t lim T H U V P (List.zip (pairQ s) yss) 0 [] with
 | .inl f=>.inl f
 | .inr kss=>tendQ s lim H U kss
section
variable {n k:Nat}{p:Qg}{t h:Qa}{y u v:List Qa}{g:Qk}{md:Jk}{ks:List (List Qa)}
theorem Q91{c:List Qa}{kss:List (List Rat)}(hn:big<=n)(h0:129<=k)(hk:k<16384)(r:Fk k h)(q:FR k c)(e:∀ a∈kss,QR 129 a)(s:kss.length<=8)(i:c.length=kss.length)(d:∀ a∈kss,a.length=u.length)(A:u.length<=6):
 Xu n p t h u v md (toRR kss) g c=some (toR (towQ (fv h) u.length (rv c) kss)):=by
 unfold Xu;rw[Qt8,Q1h (j:=k) (k:=129) hn om om om om q (Qy6 λa f=>Vd (e a f)) om (by rw[Vi];omega),sbind,oq ⟨by rw[Vi,i],Qy6 λa f=>by rw[Jj];exact d a f⟩];rw[Qxs];have w:=Qt7 (z:=List.replicate u.length 0) (QR_rv q om) e (Qmb u.length);have x:kss.length*(k+129+1)<=8*(k+129+1):=xh _ s;have l:=Qg7 (cs:=rv c) d (show(List.replicate u.length (0:Rat)).length=u.length by simp);rw[Zq (k:=20*k) hn om om (Wg r om) (Vd (Jb w om)) (by rw[Jj,l];omega),sbind,Wn];rfl
theorem Q6j{c:List Qa}{kss:List (List Rat)}(hn:big<=n)(h0:129<=k)(hk:k<16384)(q:Fk k h)(j:FR k u)(l:FR k c)(e:∀ a∈kss,QR 129 a)(r:kss.length<=8)(f:c.length=kss.length)(d:∀ a∈kss,a.length=u.length)(s:u.length<=6):
 Qa0 n p t h u v md (toRR kss) g c=some (toR (fromQ (fv h) (rv u) (rv c) kss)):=by
 unfold Qa0;have hb:=Qtd (m:=u.length) (qw_fv q om) (QR_rv l om) e r h0;have i:=Qq2 (H:=fv h) (c:=rv c) d;rw[Q91 hn h0 hk q l e r f d s,sbind,Qfi (k:=20*k) hn om om (Vf j om) (Vd hb) om,sbind,Jj,i,oq rfl,Wn];unfold fromQ;rw[Ji]
theorem Qze{l:List Rat}{x2:Int}(hn:big<=n)(i:QR 1099511627775 l)(q:l.length<=1000):
 ∃ a,a.limit=g.limit/\Yj n p t h u v md ks g (toR l) x2=some (match fitQ g.limit l 0 with | none=>(⟨0,0,0,0⟩,a) | some j=>(⟨6,0,x2,300+(j:Int)⟩,a)):=by
 obtain⟨a,d,e⟩:=Qt9 (g:=g) hn i;refine⟨a,d,?_⟩;unfold Yj;rw[e,sbind];cases f:fitQ g.limit l 0 with
 | none=>rfl
 | some j=>
   have:=Qj1 f;simp only[ow,bifT];rw[w64 om om]
theorem Jqp{k:Nat}:Fk k ⟨⟨false,[]⟩,[]⟩:=⟨(λ_ h=>by cases h),yx _,(λ_ h=>by cases h),yx _⟩
theorem Jqq:fv ⟨⟨false,[]⟩,[]⟩=0:=by decide +kernel
theorem Je8{i:Nat}{a:List Qa}{c:Qa}{s:List Rat}{kss yss:List (List Rat)}{ks0:List (List Qa)}{nx er:List Qa}(hn:big<=n)(h0:129<=k)(hk:k<16384)(ok:PrbOK n k p t h y)(S:FR k u)(L:u.length=y.length)(hv:FR k v)(M:v.length=p.P.length)(hg:g.limit=limQ p.Ay)
 (w:p.Av.A[i]?=some a) (Q:p.Av.C[i]?=some c) (N:yss[i]?=some s) (O:QR 129 s) (T:s.length=y.length) (C:∀ a∈kss,QR 129 a) (hki:kss.length=i) (K:∀ a∈kss,a.length=y.length) :
 ∃ I,I.limit=g.limit/\∃ r,Qbt n p t h u v ⟨toRR yss,ks0,nx,er⟩ (toRR kss) g (i:Int)=some r /\
   match tstageQ p.Tape (limQ p.Ay) (fv t) (fv h) (rv u) (rv v) (rv p.P) s (rv a) (fv c) i kss with
   | .inl f=>r.1=f/\f.Ax≠0
   | .inr z=>r=(⟨0,0,0,0⟩,p,t,h,u,v,⟨toRR yss,ks0,nx,er⟩,toRR (kss++[z]),I)/\QR 129 z/\z.length=y.length:=by
 obtain⟨⟨d1,d2⟩,⟨d3,d4⟩,d5,d6⟩:=ok.tp.r.1;obtain⟨⟨g1,g2⟩,g3,g4,g5,W⟩:=ok.sr.2.1;have hi:=Kc w;have hyl:=ok.yl;have hpl:=ok.pl;have A:=ok.sw.a a (Jm w);have B:=ok.sw.c c (Jm Q);have Z:=W i a w;have d:∀ a∈kss,a.length=u.length:=λa w=>by rw[L];exact K a w
 have hb:=Qq1 (QR_rv S om) (qw_fv ok.hk om) (QR_rv A om) C om h0;have J:=Qiv (H:=fv h) (Y:=rv u) (c:=rv a) (kss:=kss) (by rw[Ji];exact d);rw[Ji] at J;unfold Qbt;rw[Q7 w,sbind,Q6j hn h0 hk ok.hk S A C om om d om,sbind];obtain⟨I,U,V⟩:=Qze (p:=p) (t:=t) (h:=h) (u:=u) (v:=v) (g:=g) (md:=⟨toRR yss,ks0,nx,er⟩) (ks:=toRR kss) (x2:=(i:Int)) hn (Jb hb (show 22*k<=1099511627775 by omega)) om;refine⟨I,U,?_⟩;rw[V,sbind,hg];unfold tstageQ;cases hf:fitQ (limQ p.Ay) (fromQ (fv h) (rv u) (rv a) kss) 0 with
 | some j=>
   simp only[];rw[Ky oz,ow,bifT];exact⟨_,rfl,rfl,oz⟩
 | none=>
   simp only[];rw[Kk,ou,bifF];have G:=X0 (qw_fv ok.hk om) (qw_fv B om);have P:=Zx (qw_fv ok.tk om) G;rw[Qwp hn h0 hk ok.tk ok.hk B Q,sbind,Q7 (show(toRR yss)[i]?=some (toR s) by unfold toRR;rw[xm,N];rfl),sbind];have X:=Q6h (k:=22*k) (t:=p.Tape) (p:=⟨toF (fv t+fv h*fv c),toR s,p.P⟩) (q:=⟨⟨⟨false,[]⟩,[]⟩,toR (fromQ (fv h) (rv u) (rv a) kss),v⟩) (bits:=p.Ay) hn om om ⟨ok.tp.r,ok.tp.h,λx hx=>Wg (ok.tp.w x hx) om⟩ (Jq om) (Vd (Jb O om)) (Vf ok.pk om) Jqp (Vd hb) (Vf hv om) (by simp only[Jj];omega) ok.pl (by simp only[Jj];omega) M;rw[X,sbind];simp only[];rw[Jf,Wn,Wn,Jqq];have E:limQ p.Ay=min (max p.Ay 0) 4096:=rfl;rw[E];cases R:pfieldQ p.Tape (min (max p.Ay 0) 4096) (fv t+fv h*fv c) s (rv p.P) 0 (fromQ (fv h) (rv u) (rv a) kss) (rv v) with
   | inl e=>
     have hkd:=Q1q R;simp only[];rw[Ky om,ow,bifT];exact⟨_,rfl,rfl,by show e.1≠0;omega⟩
   | inr l=>
     obtain⟨q1,q2,q3,q4⟩:=Q6i om R;simp only[];rw[Kk,ou,bifF,J5 (by rw[Vi];simp;omega) (by rw[Vi];simp;omega),sbind];refine⟨_,rfl,?_,q4,om⟩;unfold toRR;rw[xw];rfl
theorem Jj0{s:Qw}{yss:List (List Rat)}{i:Nat}{a:List Qa}{c:Qa}{e:List Rat}(f:s.A[i]?=some a)(j:s.C[i]?=some c)(l:yss[i]?=some e):(List.zip (pairQ s) yss).drop i=((rv a,fv c),e)::(List.zip (pairQ s) yss).drop (i+1):=by
 have d:(List.zip (pairQ s) yss)[i]?=some ((rv a,fv c),e):=by rw[gk];refine⟨?_,l⟩;unfold pairQ rv;rw[gk];simp only[xm];exact⟨by rw[f];rfl,by rw[j];rfl⟩
 have hi:=Kc d;rw[xe hi];congr 1;rw[oi hi] at d;exact Option.some.inj d
abbrev TiS:=Qg×Qa×Qa×(List Qa)×(List Qa)×Jk×(List (List Qa))×Qk
abbrev TiR:=Kd×Qe×Qg×Qa×Qa×(List Qa)×(List Qa)×Jk×(List (List Qa))×Qk
def noMv:Kd:=⟨[],[],⟨[],[],[],[]⟩⟩
def tiBody(n:Nat)(e:Nat)(_:Qa)(d:TiS):Option (Lp TiS TiR):=
    (Qbt n d.1 d.2.1 d.2.2.1 d.2.2.2.1 d.2.2.2.2.1 d.2.2.2.2.2.1 d.2.2.2.2.2.2.1 d.2.2.2.2.2.2.2 (e:Int)).bind λa=>
    bif !(Qs a.1 (⟨0,0,0,0⟩:Qe)) then (
     some (Lp.out (((⟨[],[],(⟨[],[],[],[]⟩:Jk)⟩:Kd),a.1,a.2.1,a.2.2.1,a.2.2.2.1,a.2.2.2.2.1,a.2.2.2.2.2.1,a.2.2.2.2.2.2.1,a.2.2.2.2.2.2.2.1,a.2.2.2.2.2.2.2.2))))
    else (
     some (Lp.go (a.2.1,a.2.2.1,a.2.2.2.1,a.2.2.2.2.1,a.2.2.2.2.2.1,a.2.2.2.2.2.2.1,a.2.2.2.2.2.2.2.1,a.2.2.2.2.2.2.2.2)))
def tiFin(n:Nat)(x0_p:Qg)(a:TiS)(g:Qk)(e:Kd):Option TiR:=
 (Yj n a.1 a.2.1 a.2.2.1 a.2.2.2.1 a.2.2.2.2.1 a.2.2.2.2.2.1 a.2.2.2.2.2.2.1 g e.A8 (wrap64 ((x0_p.Av.B.length:Int)+(1:Int)))).bind λd=>
 bif !(Qs d.1 (⟨0,0,0,0⟩:Qe)) then (
  some ((⟨[],[],(⟨[],[],[],[]⟩:Jk)⟩:Kd),d.1,a.1,a.2.1,a.2.2.1,a.2.2.2.1,a.2.2.2.2.1,a.2.2.2.2.2.1,a.2.2.2.2.2.2.1,d.2))
 else (
  some (e,(⟨0,0,0,0⟩:Qe),a.1,a.2.1,a.2.2.1,a.2.2.2.1,a.2.2.2.2.1,a.2.2.2.2.2.1,a.2.2.2.2.2.2.1,d.2))
def tiEnd(n:Nat)(x0_p:Qg)(x0_made:Jk)(a:TiS):Option TiR:=
 (Qa0 n a.1 a.2.1 a.2.2.1 a.2.2.2.1 a.2.2.2.2.1 a.2.2.2.2.2.1 a.2.2.2.2.2.2.1 a.2.2.2.2.2.2.2 x0_p.Av.B).bind λe=>
 (Yj n a.1 a.2.1 a.2.2.1 a.2.2.2.1 a.2.2.2.2.1 a.2.2.2.2.2.1 a.2.2.2.2.2.2.1 a.2.2.2.2.2.2.2 e (x0_p.Av.B.length:Int)).bind λd=>
 bif !(Qs d.1 (⟨0,0,0,0⟩:Qe)) then (
  some ((⟨[],[],(⟨[],[],[],[]⟩:Jk)⟩:Kd),d.1,a.1,a.2.1,a.2.2.1,a.2.2.2.1,a.2.2.2.2.1,a.2.2.2.2.2.1,a.2.2.2.2.2.2.1,d.2))
 else (
  jn (λ(f:(Kd)->Option _)=>
   (Qfd n x0_p.Av).bind λi=>
   bif decide ((0:Int)<(i.length:Int)) then (
    (Xu n a.1 a.2.1 a.2.2.1 a.2.2.2.1 a.2.2.2.2.1 a.2.2.2.2.2.1 a.2.2.2.2.2.2.1 d.2 i).bind λj=>
    f ⟨e,j,x0_made⟩)
   else (
    f ⟨e,[],x0_made⟩)) (tiFin n x0_p a d.2))
theorem Jj1(ks):Qeu n p t h u v md ks g=(rangeL (tiBody n) p.Av.B 0 (p,t,h,u,v,md,ks,g)).bind (lpK (tiEnd n p md)):=wm (wm rfl)
theorem Jj2{yss:List (List Rat)}{ks0:List (List Qa)}{nx er:List Qa}(hn:big<=n)(h0:129<=k)(hk:k<8000)(ok:PrbOK n k p t h y)(hu:FR k u)(R:u.length=y.length)(hv:FR k v)(hvl:v.length=p.P.length)(N:g.limit=limQ p.Ay)
 (hys:∀ a∈yss,QR 129 a/\a.length=y.length) (hysl:yss.length=p.Av.B.length) :
 ∃ r,Qeu n p t h u v ⟨toRR yss,ks0,nx,er⟩ [] g=some r /\
   match tdoQ p.Tape p.Av (limQ p.Ay) (fv t) (fv h) (rv u) (rv v) (rv p.P) yss with
   | .inl f=>r.1=noMv/\r.2.1=f/\f.Ax≠0
   | .inr z=>r.1=⟨toR z.1,toR z.2,⟨toRR yss,ks0,nx,er⟩⟩/\r.2.1=⟨0,0,0,0⟩/\QR 129 z.1/\z.1.length=u.length:=by
 obtain⟨⟨d1,d2⟩,⟨d3,d4⟩,d5,d6⟩:=ok.tp.r.1;obtain⟨⟨g1,g2⟩,g3,g4,G,g6⟩:=ok.sr.2.1;have hyl:=ok.yl;rw[Jj1]
 have key:∀(B:List Qa) (i:Nat) (g:Qk) (kss:List (List Rat)) (K:TiS->Option TiR),
  i+B.length=p.Av.B.length->kss.length=i->(∀ a∈kss,QR 129 a)->(∀ a∈kss,a.length=y.length)->g.limit=limQ p.Ay ->
  match tstagesQ p.Tape (limQ p.Ay) (fv t) (fv h) (rv u) (rv v) (rv p.P) ((List.zip (pairQ p.Av) yss).drop i) i kss with
  | .inl f=>∃ r,(rangeL (tiBody n) B i (p,t,h,u,v,⟨toRR yss,ks0,nx,er⟩,toRR kss,g)).bind (lpK K)=some r/\r.1=noMv/\r.2.1=f/\f.Ax≠0
  | .inr z=>∃ w,w.limit=limQ p.Ay/\(rangeL (tiBody n) B i (p,t,h,u,v,⟨toRR yss,ks0,nx,er⟩,toRR kss,g)).bind (lpK K)=K (p,t,h,u,v,⟨toRR yss,ks0,nx,er⟩,toRR z,w)/\z.length=p.Av.B.length/\(∀ a∈z,QR 129 a)/\∀ a∈z,a.length=y.length:=by
  intro B
  induction B with
  | nil=>
    intro i g kss K hi P U T N;simp only[yr,xp] at hi;have l:(List.zip (pairQ p.Av) yss).drop i=[]:=by apply tg;rw[gp];omega
    rw[l];simp only[tstagesQ];exact⟨g,N,rfl,om,U,T⟩
  | cons b B ih=>
    intro i g kss K hi P U T N;rw[xn] at hi;have d:p.Av.A[i]?=some (p.Av.A[i]' om):=oi om;have hc:p.Av.C[i]?=some (p.Av.C[i]' om):=oi om;have x:yss[i]?=some (yss[i]' om):=oi om;have A:=hys (yss[i]' om) (xi _);generalize p.Av.A[i]' om=a at d;generalize p.Av.C[i]' om=c at hc;generalize yss[i]' om=yi at x A;rw[Jj0 d hc x];simp only[tstagesQ,rangeL];obtain⟨w,e1,r,W,E⟩:=Je8 (g:=g) (ks0:=ks0) (nx:=nx) (er:=er) hn h0 om ok hu R hv hvl N d hc x A.1 A.2 U P T
    have eb:tiBody n i b (p,t,h,u,v,⟨toRR yss,ks0,nx,er⟩,toRR kss,g)=(bif !(Qs r.1 (⟨0,0,0,0⟩:Qe)) then (
     some (Lp.out ((noMv,r.1,r.2.1,r.2.2.1,r.2.2.2.1,r.2.2.2.2.1,r.2.2.2.2.2.1,r.2.2.2.2.2.2.1,r.2.2.2.2.2.2.2.1,r.2.2.2.2.2.2.2.2))))
     else (
      some (Lp.go (r.2.1,r.2.2.1,r.2.2.2.1,r.2.2.2.2.1,r.2.2.2.2.2.1,r.2.2.2.2.2.2.1,r.2.2.2.2.2.2.2.1,r.2.2.2.2.2.2.2.2)))):=by
     unfold tiBody;rw[W,sbind];rfl
    rw[eb];cases hs:tstageQ p.Tape (limQ p.Ay) (fv t) (fv h) (rv u) (rv v) (rv p.P) yi (rv a) (fv c) i kss with
    | inl f=>
      rw[hs] at E;obtain⟨C,S⟩:=E;obtain⟨⟨f1,f2,f3,f4⟩,r⟩:=r;simp only[] at C;subst C;simp only[];rw[Ky S,ow,bifT,sbind];exact⟨_,rfl,rfl,rfl,S⟩
    | inr z=>
      rw[hs] at E;obtain⟨C,S,e6⟩:=E;subst C;simp only[];rw[Kk,ou,bifF,sbind]
      exact ih (i+1) w (kss++[z]) K om oh (λa d=>by
       rcases yd.1 d with d | d;exact U a d;rw[xk.1 d];exact S) (λa d=>by
       rcases yd.1 d with d | d;exact T a d
       rw[xk.1 d];exact e6) om
 have I:=key p.Av.B 0 g [] (tiEnd n p ⟨toRR yss,ks0,nx,er⟩) om rfl (λ_ h=>by cases h) (λ_ h=>by cases h) N;unfold tdoQ;rw[dt] at I;cases hs:tstagesQ p.Tape (limQ p.Ay) (fv t) (fv h) (rv u) (rv v) (rv p.P) (List.zip (pairQ p.Av) yss) 0 [] with
 | inl f=>
   rw[hs] at I;exact I
 | inr kss=>
   rw[hs] at I;obtain⟨w,q1,q2,q4,V,q6⟩:=I;simp only[];rw[show([]:List (List Qa))=toRR [] from rfl,q2];unfold tiEnd;simp only[];have q:∀ a∈kss,a.length=u.length:=λa d=>by rw[R];exact q6 a d
   have Z:=Qq1 (QR_rv hu om) (qw_fv ok.hk om) (QR_rv ok.sw.b om) V om h0;have Q:=Qiv (H:=fv h) (Y:=rv u) (c:=rv p.Av.B) (kss:=kss) (by rw[Ji];exact q);rw[Ji] at Q;have O:=Jc9 (k:=k) (s:=p.Av) om ok.sw;rw[Q6j hn h0 om ok.hk hu ok.sw.b V om om q om,sbind];obtain⟨e,e1,W⟩:=Qze (p:=p) (t:=t) (h:=h) (u:=u) (v:=v) (g:=w) (md:=⟨toRR yss,ks0,nx,er⟩) (ks:=toRR kss) (x2:=(p.Av.B.length:Int)) hn (Jb Z (show 22*k<=1099511627775 by omega)) om;rw[W,sbind,q1];unfold tendQ;cases hf:fitQ (limQ p.Ay) (fromQ (fv h) (rv u) (rv p.Av.B) kss) 0 with
   | some j=>
     simp only[];rw[Ky oz,ow,bifT];exact⟨_,rfl,rfl,rfl,oz⟩
   | none=>
     simp only[];rw[Kk,ou,bifF,jn_eq,Qvm hn om om ok.sw ok.sr,sbind,Jj];have hE:((Xu n p t h u v ⟨toRR yss,ks0,nx,er⟩ (toRR kss) e (toR (gapQ p.Av)))=some (toR (towQ (fv h) u.length (gapQ p.Av) kss))\/gapQ p.Av=[])/\QR (41*k+1000) (if gapQ p.Av=[] then [] else towQ (fv h) u.length (gapQ p.Av) kss)/\(if gapQ p.Av=[] then [] else towQ (fv h) u.length (gapQ p.Av) kss).length<=1000:=by
      by_cases l:gapQ p.Av=[]
      rw[oq l];exact⟨.inr l,λ_ h=>(by cases h),oc⟩;have M:p.Av.E.length=p.Av.B.length:=by rcases G with G | G;exact G;exact absurd (by unfold gapQ;rw[oq (xx G)]) l
      have hgl:(gapQ p.Av).length=p.Av.B.length:=by unfold gapQ;rw[oj (λh=>by rw[h] at M;simp at M;omega),Zl,W6,Ji,Ji];omega
      rw[oj l];have ht:=Q91 (k:=2*k+2) (p:=p) (t:=t) (h:=h) (u:=u) (v:=v) (g:=e) (md:=⟨toRR yss,ks0,nx,er⟩) (c:=toR (gapQ p.Av)) (kss:=kss) hn om om (Wg ok.hk om) (Vd O) V om (by rw[Jj];omega) q om;rw[Wn] at ht;refine⟨.inl ht,Jb (Qtd (k:=2*k+2) (xo (qw_fv ok.hk om) om) O V om om) om,?_⟩;rw[Qq2 q];omega
     obtain⟨X,J,L⟩:=hE;have hj:∀ {β:Type}(f:Kd->Option β),(bif decide ((0:Int)<((gapQ p.Av).length:Int)) then (Xu n p t h u v ⟨toRR yss,ks0,nx,er⟩ (toRR kss) e (toR (gapQ p.Av))).bind λr34=>f ⟨toR (fromQ (fv h) (rv u) (rv p.Av.B) kss),r34,⟨toRR yss,ks0,nx,er⟩⟩ else f ⟨toR (fromQ (fv h) (rv u) (rv p.Av.B) kss),[],⟨toRR yss,ks0,nx,er⟩⟩)=f ⟨toR (fromQ (fv h) (rv u) (rv p.Av.B) kss),toR (if gapQ p.Av=[] then [] else towQ (fv h) u.length (gapQ p.Av) kss),⟨toRR yss,ks0,nx,er⟩⟩:=by
      intro β f;by_cases l:gapQ p.Av=[]
      rw[oq l,l];rfl;have:(gapQ p.Av).length≠0:=λh=>l (xx h);rw[oj l,ol om,bifT,X.resolve_right l,sbind]
     rw[hj (tiFin n p (p,t,h,u,v,⟨toRR yss,ks0,nx,er⟩,toRR kss,w) e)];unfold tiFin;rw[w1 om,Ji];generalize (if gapQ p.Av=[] then [] else towQ (fv h) u.length (gapQ p.Av) kss)=er' at J L |-;simp only[];obtain⟨g3',E,C⟩:=Qze (p:=p) (t:=t) (h:=h) (u:=u) (v:=v) (g:=e) (md:=⟨toRR yss,ks0,nx,er⟩) (ks:=toRR kss) (x2:=((p.Av.B.length+1:Nat):Int)) hn (Jb J (show 41*k+1000<=1099511627775 by omega)) L;rw[C,sbind,show e.limit=limQ p.Ay by omega];cases hf2:fitQ (limQ p.Ay) er' 0 with
     | some j=>
       simp only[];rw[Ky oz,ow,bifT];exact⟨_,rfl,rfl,rfl,by show(6:Int)≠0;decide⟩
     | none=>
       simp only[];rw[Kk,ou,bifF];exact⟨_,rfl,rfl,rfl,Qk6 (by unfold limQ;omega) hf,Q⟩
end
noncomputable def tiltQ(p:Qg)(T H:Rat)(Y U V:List Rat):Qe ⊕ (MadeQ×List Rat×List Rat):=
 match stepQ p T H Y with
 | .inl f=>if f.Ax=2\/U.length≠Y.length\/V.length≠p.P.length then .inl ⟨2,0,0,0⟩ else .inl f
 | .inr z=>if U.length≠Y.length\/V.length≠p.P.length then .inl ⟨2,0,0,0⟩ else match tdoQ p.Tape p.Av (limQ p.Ay) T H U V (rv p.P) z.ys with
   | .inl f=>.inl f
   | .inr w=>.inr (z,w.1,w.2)
theorem Q20{n k:Nat}{p:Qg}{t h:Qa}{y u v:List Qa}(hn:big<=n)(h0:129<=k)(hk:k<8000)(B:PrbW k p)(A:Fk k t)(x:Fk k h)(C:FR k y)(M:FR k u)(N:FR k v):
 Qgx n p t h y u v=some (match tiltQ p (fv t) (fv h) (rv y) (rv u) (rv v) with | .inl f=>(noMv,f) | .inr z=>(⟨toR z.2.1,toR z.2.2,toM z.1⟩,⟨0,0,0,0⟩))/\(∀ f,tiltQ p (fv t) (fv h) (rv y) (rv u) (rv v)=.inl f->f.Ax≠0)/\∀ z,tiltQ p (fv t) (fv h) (rv y) (rv u) (rv v)=.inr z->stepQ p (fv t) (fv h) (rv y)=.inr z.1/\QR 129 z.2.1/\z.2.1.length=y.length/\u.length=y.length/\v.length=p.P.length:=by
 obtain⟨G,H⟩:=Qqd hn h0 hk B A x C;unfold Qgx tiltQ;simp only[jn_eq];rw[G,sbind];cases hs:stepQ p (fv t) (fv h) (rv y) with
 | inl f=>
   have s:=H f hs;obtain⟨K,R,f3,f4⟩:=f;simp only[];rw[Ji,Ji,Ji,bifd];by_cases c1:K=2
   . rw[oq c1,oq (Or.inl c1)]
     exact⟨rfl,(λf h=>by cases h;show(2:Int)≠0;decide),λz h=>by cases h⟩
   rw[oj c1];by_cases d:u.length=y.length
   case neg=>
    rw[oo (show ¬(u.length:Int)=(y.length:Int) by omega),oq (.inr (.inl d))];exact⟨rfl,(λf h=>by cases h;show(2:Int)≠0;decide),λz h=>by cases h⟩
   rw[ol (show(u.length:Int)=(y.length:Int) by omega),ou,bifF];by_cases e:v.length=p.P.length
   case neg=>
    rw[oo (show ¬(v.length:Int)=(p.P.length:Int) by omega),oq (.inr (.inr e))];exact⟨rfl,(λf h=>by cases h;show(2:Int)≠0;decide),λz h=>by cases h⟩
   rw[ol (show(v.length:Int)=(p.P.length:Int) by omega),ou,bifF,Ky s,ow,bifT,oj (by rintro(g | g | g)<;>contradiction)];exact⟨rfl,(λf h=>by cases h;exact s),λz h=>by cases h⟩
 | inr z=>
   obtain⟨O,E,S,T,U⟩:=Qg8 hs;obtain⟨P,Q⟩:=Qy7 hs;rw[Ji] at E;simp only[];rw[Ji,Ji,Ji,show decide ((0:Int)=2)=false from rfl,bifF];by_cases d:u.length=y.length
   case neg=>
    rw[oo (show ¬(u.length:Int)=(y.length:Int) by omega),oq (.inl d)];exact⟨rfl,(λf h=>by cases h;show(2:Int)≠0;decide),λz h=>by cases h⟩
   rw[ol (show(u.length:Int)=(y.length:Int) by omega),ou,bifF];by_cases e:v.length=p.P.length
   case neg=>
    rw[oo (show ¬(v.length:Int)=(p.P.length:Int) by omega),oq (.inr e)];exact⟨rfl,(λf h=>by cases h;show(2:Int)≠0;decide),λz h=>by cases h⟩
   rw[ol (show(v.length:Int)=(p.P.length:Int) by omega),ou,bifF,Kk,ou,bifF,oj (by rintro(g | g)<;>contradiction)];unfold X9;rw[sbind];have ok:=B.ok hn hk O A x C E;obtain⟨r,I,i⟩:=Jj2 (g:=⟨⟨0,0⟩,min (max p.Ay 0) 4096⟩) (yss:=z.ys) (ks0:=toRR z.ks) (nx:=toR z.next) (er:=toR z.err) hn h0 hk ok M d N e rfl (λa L=>by have:=P a L;rwa [Ji] at this) Q;rw[show toM z=⟨toRR z.ys,toRR z.ks,toR z.next,toR z.err⟩ from rfl,I,sbind];cases hd:tdoQ p.Tape p.Av (limQ p.Ay) (fv t) (fv h) (rv u) (rv v) (rv p.P) z.ys with
   | inl f=>
     rw[hd] at i;obtain⟨j,l,q⟩:=i;refine⟨by simp only[];rw[j,l],(λf h=>by cases h;exact q),λz h=>by cases h⟩
   | inr w=>
     rw[hd] at i;obtain⟨j,l,q,J⟩:=i;refine⟨by simp only[];rw[j,l];rfl,(λf h=>by cases h),λz h=>by cases h;exact⟨rfl,q,J.trans d,d,e⟩⟩
set_option maxRecDepth 100000
theorem Q92{s:Qw}{lim:Int}{H:Rat}{U:List Rat}{kss:List (List Rat)}{w}(h:tendQ s lim H U kss=.inr w):w.1=fromQ H U (rv s.B) kss:=by unfold tendQ at h;split at h;cases h;split at h;cases h;cases h;rfl
theorem Q3m{t:Qm}{lim:Int}{T H:Rat}{P U V:List Rat}(d:lim<=4096)(B:t.Az.length=U.length):∀ {r:List ((List Rat×Rat)×List Rat)}{i:Nat}{k z},(∀ a∈k,a.length=U.length)->tstagesQ t lim T H U V P r i k=.inr z->∀ a∈z,a.length=U.length
 | [],i,k,z,g,h=>by simp only[tstagesQ] at h;cases h;exact g
 | x::r,i,k,z,g,h=>by
   simp only[tstagesQ] at h;cases s:tstageQ t lim T H U V P x.2 x.1.1 x.1.2 i k with
   | inl f=>rw[s] at h;cases h
   | inr w=>
     rw[s] at h;have C:w.length=U.length:=by
      unfold tstageQ at s;cases A:fitQ lim (fromQ H U x.1.1 k) 0 with
      | some j=>rw[A] at s;cases s
      | none=>
        rw[A] at s;simp only[] at s;cases hp:pfieldQ t lim (T+H*x.1.2) x.2 P 0 (fromQ H U x.1.1 k) V with
        | inl e=>rw[hp] at s;cases s
        | inr q=>rw[hp] at s;cases s;rw[(Q6i d hp).2.1];exact B
     exact Q3m d B (λa l=>by
      rcases yd.1 l with l | l;exact g a l
      rw[xk.1 l];exact C) h
theorem Jf1{p:Qg}{T H:Rat}{Y U V:List Rat}{z}(h:tiltQ p T H Y U V=.inr z):stepQ p T H Y=.inr z.1/\U.length=Y.length/\V.length=p.P.length/\tdoQ p.Tape p.Av (limQ p.Ay) T H U V (rv p.P) z.1.ys=.inr z.2:=by
 unfold tiltQ at h;cases hs:stepQ p T H Y with
 | inl f=>
   rw[hs] at h;simp only[] at h;split at h<;>cases h
 | inr w=>
   rw[hs] at h;simp only[] at h;split at h;cases h;rename_i a;cases hd:tdoQ p.Tape p.Av (limQ p.Ay) T H U V (rv p.P) w.ys with
   | inl f=>rw[hd] at h;cases h
   | inr x=>
     rw[hd] at h;cases h;refine⟨rfl,?_,?_,hd⟩;exact Decidable.not_not.1 λg=>a (.inl g);exact Decidable.not_not.1 λg=>a (.inr g)
set_option maxRecDepth 100000
noncomputable def alongQ(p:Qg)(V:List Rat):List Q9->Nat->List Rat->Qe ⊕ List (List Rat)
 | [],_,_=>.inr []
 | t::l,i,U=>match tiltQ p (fv t.T) (fv t.H) (rv t.Y) U V with
   | .inl f=>.inl ⟨f.Ax,((i+1:Nat):Int),f.A4,f.At⟩
   | .inr z=>match alongQ p V l (i+1) z.2.1 with
     | .inl f=>.inl f
     | .inr r=>.inr (z.2.1::r)
noncomputable def nodesQ(p:Qg)(h:Qt)(U V:List Rat):Qe ⊕ List (List Rat):=
 @ite _ (AlR p h/\U.length=h.Y.length/\V.length=p.P.length) (Classical.propDecidable _) (alongQ p V ((okT h.Aw).map nT) 0 U) (.inl ⟨2,0,0,0⟩)
theorem Q6k{p:Qg}{V:List Rat}(a:∀(t:Q9) (U:List Rat) f,tiltQ p (fv t.T) (fv t.H) (rv t.Y) U V=.inl f->f.Ax≠0):∀ {l:List Q9}{i:Nat}{U:List Rat}{f},alongQ p V l i U=.inl f->f.Ax≠0
 | [],i,U,f,h=>by simp only[alongQ] at h;cases h
 | t::l,i,U,f,h=>by
   simp only[alongQ] at h;cases hs:tiltQ p (fv t.T) (fv t.H) (rv t.Y) U V with
   | inl g=>rw[hs] at h;cases h;exact a t U g hs
   | inr z=>
     rw[hs] at h;simp only[] at h;cases hr:alongQ p V l (i+1) z.2.1 with
     | inl g=>rw[hr] at h;cases h;exact Q6k a hr
     | inr r=>rw[hr] at h;cases h
theorem Jj3{p:Qg}{T H:Rat}{Y U V:List Rat}{f}(h:tiltQ p T H Y U V=.inl f):f.Ax≠0:=by
 unfold tiltQ at h;cases hs:stepQ p T H Y with
 | inl g=>
   rw[hs] at h;simp only[] at h;split at h;cases h;show(2:Int)≠0;decide;cases h;exact Qs4 hs
 | inr z=>
   rw[hs] at h;simp only[] at h;split at h;cases h;show(2:Int)≠0;decide;cases hd:tdoQ p.Tape p.Av (limQ p.Ay) T H U V (rv p.P) z.ys with
   | inr w=>rw[hd] at h;cases h
   | inl g=>
     rw[hd] at h;cases h;unfold tdoQ at hd;have st:∀ {r:List ((List Rat×Rat)×List Rat)}{i:Nat}{k}{e:Qe},tstagesQ p.Tape (limQ p.Ay) T H U V (rv p.P) r i k=.inl e->e.Ax≠0:=by
      intro r
      induction r with
      | nil=>intro i k e h;simp only[tstagesQ] at h;cases h
      | cons x r d=>
        intro i k e h;simp only[tstagesQ] at h;cases s:tstageQ p.Tape (limQ p.Ay) T H U V (rv p.P) x.2 x.1.1 x.1.2 i k with
        | inr w=>rw[s] at h;exact d h
        | inl g=>
          rw[s] at h;cases h;unfold tstageQ at s;split at s;cases s;show(6:Int)≠0;decide;cases hp:pfieldQ p.Tape (limQ p.Ay) (T+H*x.1.2) x.2 (rv p.P) 0 (fromQ H U x.1.1 k) V with
          | inr q=>rw[hp] at s;cases s
          | inl q=>
            rw[hp] at s;cases s;have:=Q1q hp;show q.1≠0;omega
     cases a:tstagesQ p.Tape (limQ p.Ay) T H U V (rv p.P) (List.zip (pairQ p.Av) z.ys) 0 [] with
     | inl e=>rw[a] at hd;cases hd;exact st a
     | inr k=>
       rw[a] at hd;simp only[] at hd;unfold tendQ at hd;split at hd;cases hd;show(6:Int)≠0;decide;split at hd;cases hd;show(6:Int)≠0;decide;cases hd
theorem Jlr{k:Nat}{t:Q9}(h:FT k t):Fk k t.T/\Fk k t.H/\FR k t.Y:=⟨h.1 t.T oc,h.1 t.H oc,h.2.1⟩
theorem FT_nT{k:Nat}{t:Q9}(e:1<=k)(h:FT k t):FT k (nT t):=by obtain⟨a,b,c⟩:=h;refine⟨λx d=>?_,Vd (QR_rv b e),by show(toR (rv t.Y)).length<=_;rw[Jj,Ji];exact c⟩;have g:∀ y∈[t.T,t.A1,t.H,t.A8],Fk k (toF (fv y)):=λy f=>Jq (qw_fv (a y f) e);rcases xu.1 d with rfl | d;exact g t.T oc;rcases xu.1 d with rfl | d;exact g t.A1 oc;rcases xu.1 d with rfl | d;exact g t.H oc;rw[xk.1 d];exact g t.A8 oc
theorem Q4f{n k:Nat}{p:Qg}{h:Qt}{u v:List Qa}(hn:big<=n)(h0:129<=k)(hk:k<8000)(V:PrbW k p)(hl:h.Aw.length<=1000)(I:∀ t∈h.Aw,FT k t)(hT:Fk k h.T)(hY:FR k h.Y)(hYl:h.Y.length<=1000)(T:FR k u)(_:u.length<=1000)(hv:FR k v):
 Qko n p h u v=some (match nodesQ p h (rv u) (rv v) with | .inl f=>([],f) | .inr r=>(toRR (rv u::r),⟨0,0,0,0⟩))/\∀ r,nodesQ p h (rv u) (rv v)=.inr r->∀ a∈r,QR 129 a/\a.length<=6:=by
 have hle:=Qn1 h.Aw;unfold Qko Qfx nodesQ;simp only[jn_eq];rw[Qms hn h0 hk V,Qqe hn om om om I hT hY om,Ji,Ji];have noR:¬(AlR p h/\u.length=h.Y.length/\v.length=p.P.length)->∀ r,@ite (Qe ⊕ List (List Rat)) (AlR p h/\u.length=h.Y.length/\v.length=p.P.length) (Classical.propDecidable _) (alongQ p (rv v) ((okT h.Aw).map nT) 0 (rv u)) (.inl ⟨2,0,0,0⟩)=.inr r->∀ a∈r,QR 129 a/\a.length<=6:=λg r hr=>by rw[oj g] at hr;cases hr
 by_cases c1:prbR p
 case neg=>
  have g:¬(AlR p h/\u.length=h.Y.length/\v.length=p.P.length):=λg=>c1 g.1.1;exact⟨by rw[oj g,sbind,dP_f c1];rfl,noR g⟩
 by_cases e:Qkr h
 case neg=>
  have g:¬(AlR p h/\u.length=h.Y.length/\v.length=p.P.length):=λg=>e g.1.2.1;exact⟨by rw[oj g,sbind,dP_t c1,bifT,sbind,dP_f e];rfl,noR g⟩
 by_cases q:(h.Y.length:Int)=p.Tape.A0
 case neg=>
  have g:¬(AlR p h/\u.length=h.Y.length/\v.length=p.P.length):=λg=>q g.1.2.2;exact⟨by rw[oj g,sbind,dP_t c1,bifT,sbind,dP_t e,bifT,oo q];rfl,noR g⟩
 by_cases P:u.length=h.Y.length
 case neg=>
  have g:¬(AlR p h/\u.length=h.Y.length/\v.length=p.P.length):=λg=>P g.2.1;exact⟨by rw[oj g,sbind,dP_t c1,bifT,sbind,dP_t e,bifT,ol q,sbind,oo (show ¬(u.length:Int)=(h.Y.length:Int) by omega)];rfl,noR g⟩
 by_cases Q:v.length=p.P.length
 case neg=>
  have g:¬(AlR p h/\u.length=h.Y.length/\v.length=p.P.length):=λg=>Q g.2.2;exact⟨by rw[oj g,sbind,dP_t c1,bifT,sbind,dP_t e,bifT,ol q,sbind,ol (show(u.length:Int)=(h.Y.length:Int) by omega),oo (show ¬(v.length:Int)=(p.P.length:Int) by omega)];rfl,noR g⟩
 rw[oq ⟨⟨c1,e,q⟩,P,Q⟩,sbind,dP_t c1,bifT,sbind,dP_t e,bifT,ol q,sbind,ol (show(u.length:Int)=(h.Y.length:Int) by omega),ol (show(v.length:Int)=(p.P.length:Int) by omega)];simp only[ou,bifF];rw[Qf0 hn,sbind,Zq hn om om (Jq (by rw[Qxu];omega)) T om,sbind,Jf,Qxt,Qmc hn om om om I,sbind]
 have S:∀ t∈(okT h.Aw).map nT,FT k t/\t.Y.length<=6:=λt C=>by obtain⟨x,J,rfl⟩:=xz.1 C;have s:=(dm.1 J).1;refine⟨FT_nT om (I x s),?_⟩;show(toR (rv x.Y)).length<=6;rw[Jj,Ji,e.l.1 x s];exact e.l.2.2
 have G:((okT h.Aw).map nT).length<=1000:=by rw[ov];omega
 generalize (okT h.Aw).map nT=A at S G
 have L:∀(l:List Q9) (i:Nat) (U:List Rat) (B:List (List Rat)) (K:(List Qa)×(List (List Qa))->Option ((List (List Qa))×Qe)),(∀ t∈l,FT k t/\t.Y.length<=6)->QR k U->i+l.length<=1000->B.length<=i+1 ->
  ((rangeL (λ(i32:Nat) (j:Q9) (w:(List Qa)×(List (List Qa)))=>
    (Qgx n p j.T j.H j.Y w.1 v).bind λd=>
    bif !(Qs d.2 (⟨0,0,0,0⟩:Qe)) then (
     some (Lp.out ((([]:List (List Qa)),(⟨d.2.Ax,wrap64 ((i32:Int)+(1:Int)),d.2.A4,d.2.At⟩:Qe)))))
    else (
     (appM 24 w.2 ([d.1.Next]:List (List Qa))).bind λN=>
     some (Lp.go (d.1.Next,N)))) l i (toR U,toRR B)).bind (lpK K)=match alongQ p (rv v) l i U with | .inl f=>some ([],f) | .inr r=>K (toR (r.getLastD U),toRR (B++r)))/\∀ r,alongQ p (rv v) l i U=.inr r->∀ a∈r,QR 129 a/\a.length<=6:=by
  intro l
  induction l with
  | nil=>
    intro i U B K _ _ _ _;simp only[alongQ,rangeL];exact⟨by rw[uh];rfl,λr hr=>by cases hr;exact λ_ h=>by cases h⟩
  | cons t l ih=>
    intro i U B K C hU hi hB;rw[xn] at hi;obtain⟨ft,fl⟩:=C t (.head _);obtain⟨Z,f2,f3⟩:=Jlr ft;obtain⟨R,W,X⟩:=Q20 (t:=t.T) (h:=t.H) (y:=t.Y) (u:=toR U) (v:=v) hn h0 hk V Z f2 f3 (Vd hU) hv;rw[Wn] at R W X;simp only[alongQ,rangeL];rw[R,sbind];cases hs:tiltQ p (fv t.T) (fv t.H) (rv t.Y) U (rv v) with
    | inl f=>
      have hf:=W f hs;obtain⟨a1,a2,a3,a4⟩:=f;simp only[];rw[Ky hf,ow,bifT,sbind,w1 om];exact⟨rfl,λr hr=>by cases hr⟩
    | inr z=>
      obtain⟨_,O,b2,_⟩:=X z hs;simp only[];rw[Kk,ou,bifF,J5 (by rw[Vi];simp;omega) (by rw[Vi];simp;omega),sbind,sbind];have Y:toRR B++[toR z.2.1]=toRR (B++[z.2.1]):=by unfold toRR;rw[xw];rfl
      simp only[];rw[Y];obtain⟨E,i2⟩:=ih (i+1) z.2.1 (B++[z.2.1]) K (λx J=>C x (.tail _ J)) (Jb O h0) om oh;cases hr:alongQ p (rv v) l (i+1) z.2.1 with
      | inl f=>
        rw[hr] at E;exact⟨E,λr h=>by cases h⟩
      | inr r=>
        rw[hr] at E;refine⟨?_,λr' h'=>?_⟩
        . refine E.trans ?_
          simp only[];rw[xf,List.getLastD_cons];rfl
        . cases h'
          intro a H;rcases xu.1 H with rfl | H
          . exact⟨O,om⟩
          . exact i2 r hr a H
 obtain⟨k1,k2⟩:=L A 0 (rv u) [rv u] (λM=>some (M.2,(⟨0,0,0,0⟩:Qe))) S (QR_rv T om) om oc;refine⟨?_,k2⟩;refine k1.trans ?_;cases alongQ p (rv v) A 0 (rv u)<;>rfl
theorem Q4g{α:Type}:∀(r:List α) (u:α),(u::r)[r.length]?=some (r.getLastD u)
 | [],u=>rfl
 | x::r,u=>by rw[List.getLastD_cons];exact Q4g r x
theorem Q1r{n k:Nat}{p:Qg}{h:Qt}{u v:List Qa}(hn:big<=n)(h0:129<=k)(hk:k<8000)(N:PrbW k p)(J:h.Aw.length<=1000)(L:∀ t∈h.Aw,FT k t)(H:Fk k h.T)(I:FR k h.Y)(w:h.Y.length<=1000)(C:FR k u)(s:u.length<=1000)(M:FR k v):
 Qcv n p h u v=some (match nodesQ p h (rv u) (rv v) with | .inl f=>([],f) | .inr r=>(toR (r.getLastD (rv u)),⟨0,0,0,0⟩))/\(∀ f,nodesQ p h (rv u) (rv v)=.inl f->f.Ax≠0)/\∀ r,nodesQ p h (rv u) (rv v)=.inr r->QR k (r.getLastD (rv u))/\r.length<=1000/\(r.getLastD (rv u)).length<=1000:=by
 obtain⟨E,G⟩:=Q4f hn h0 hk N J L H I w C s M;unfold Qcv;rw[E,sbind]
 have A:∀ f,nodesQ p h (rv u) (rv v)=.inl f->f.Ax≠0:=λf a=>by unfold nodesQ at a;split at a;exact Q6k (λt U f h=>Jj3 h) a;cases a;show(2:Int)≠0;decide
 have j:∀ {l:List Q9}{i:Nat}{U:List Rat}{r},alongQ p (rv v) l i U=.inr r->r.length=l.length:=by
  intro l
  induction l with
  | nil=>intro i U r h;simp only[alongQ] at h;cases h;rfl
  | cons t l O=>
    intro i U r h;simp only[alongQ] at h;cases hs:tiltQ p (fv t.T) (fv t.H) (rv t.Y) U (rv v) with
    | inl g=>rw[hs] at h;cases h
    | inr z=>
      rw[hs] at h;simp only[] at h;cases hr:alongQ p (rv v) l (i+1) z.2.1 with
      | inl g=>rw[hr] at h;cases h
      | inr r=>rw[hr] at h;cases h;simp[O hr]
 cases d:nodesQ p h (rv u) (rv v) with
 | inl f=>
   have a:=A f d;refine⟨?_,λg x=>by cases x;exact a,λr hr=>by cases hr⟩;obtain⟨a1,a2,a3,a4⟩:=f;simp only[];rw[Ky a,ow,bifT]
 | inr r=>
   have K:=G r d;have hr:r.length<=1000:=by unfold nodesQ at d;split at d;have:=j d;rw[ov] at this;have:=Qn1 h.Aw;omega;cases d
   have hlast:QR k (r.getLastD (rv u))/\(r.getLastD (rv u)).length<=1000:=by have q:=ud (Q4g r (rv u));rcases xu.1 q with e | e;rw[e];exact⟨QR_rv C om,by rw[Ji];exact s⟩;obtain⟨a1,a2⟩:=K _ e;exact⟨Jb a1 h0,om⟩
   refine⟨?_,(λg x=>by cases x),λP B=>by cases B;exact⟨hlast.1,hr,hlast.2⟩⟩;simp only[];rw[Kk,ou,bifF,Vi,xn,w64 om om,show((r.length+1:Nat):Int) - 1=(r.length:Int) by omega,Q7 (show(toRR (rv u::r))[r.length]?=some (toR (r.getLastD (rv u))) by unfold toRR;rw[xm,Q4g];rfl),sbind]
set_option maxRecDepth 100000
theorem Q4h{lim:Int}{code:List Qv}{vs:List Rat}:∀ {i:Nat}{s z},pullQ lim code vs i s=.inr z->SameL s z
 | 0,s,z,h=>by simp only[pullQ] at h;cases h;exact⟨rfl,rfl,rfl⟩
 | i+1,s,z,h=>by
   simp only[pullQ] at h;cases a:code[i]? with
   | none=>rw[a] at h;cases h;exact⟨rfl,rfl,rfl⟩
   | some x=>
     rw[a] at h;simp only[] at h;split at h
     case isFalse=>cases h
     have:=Q4h h;obtain⟨a1,a2,a3⟩:=Qkk (x:=x) (c:=s.co.getD i 0) (r:=vs.getD i 0) (vs:=vs) (s:=s);exact⟨by rw[this.c,a1],by rw[this.y,a2],by rw[this.p,a3]⟩
theorem Jds{t:Qm}{lim:Int}{T:Rat}{Y P w:List Rat}{z}(h:backQ t lim T Y P w=.inr z):z.2.1.length=t.A0.toNat/\z.2.2.length=t.A3.toNat:=by obtain⟨vs,x,_,a,rfl⟩:=Q4c h;have:=Q4h a;exact⟨by rw[this.y];simp,by rw[this.p];simp⟩
theorem Q3n{p:Qg}{T H:Rat}{Y W:List Rat}{z}(h:backThQ p T H Y W=.inr z):W.length=p.Tape.A0.toNat/\(rv p.P).length=p.Tape.A3.toNat:=by obtain⟨a1,a2,_⟩:=Qvq h;obtain⟨a,d,_⟩:=Qg8 a1;have:=a.2.2;rw[Ji];omega
set_option maxRecDepth 100000
theorem Q4i{f g:Nat->Rat}{c:Rat}:∀ {i:Nat},sumN (λj=>f j+c*g j) i=sumN f i+c*sumN g i
 | 0=>by simp only[sumN];grind
 | i+1=>by rw[sumN,sumN,sumN,Q4i];grind
theorem Qzf{f:Nat->Rat}{c:Rat}:∀ {i:Nat},sumN (λj=>c*f j) i=c*sumN f i
 | 0=>by simp only[sumN];grind
 | i+1=>by rw[sumN,sumN,Qzf];grind
theorem Yf{a b:List Rat}{i:Nat}:psum a b i=psum b a i:=Qgl λ_ _=>Rat.mul_comm _ _
theorem Q4j{c:Rat}{a b d:List Rat}{i:Nat}(h:b.length=a.length):psum d (linQ c a b) i=c*psum d a i+psum d b i:=by unfold psum;rw[Rat.add_comm,<-Q4i];refine Qgl λj _=>?_;rw[Qmd h];grind
theorem Quk{a b d:List Rat}{i:Nat}(h:b.length=a.length):psum d (addQ a b) i=psum d a i+psum d b i:=by
 have e:addQ a b=linQ 1 a b:=by unfold addQ linQ;congr 1;funext x y;rw[Rat.one_mul]
 rw[e,Q4j h,Rat.one_mul]
theorem Qmu{c:Rat}{a d:List Rat}{i:Nat}:psum d (scaleQ c a) i=c*psum d a i:=by
 unfold psum;rw[<-Qzf];refine Qgl λj _=>?_;have e:(scaleQ c a).getD j 0=c*a.getD j 0:=by
  unfold scaleQ;rw[ot,ot,xm];cases a[j]? with
  | none=>show(0:Rat)=c*0;rw[Rat.mul_zero]
  | some x=>rfl
 rw[e];grind
theorem Qj4{d:List Rat}{m i:Nat}:psum d (List.replicate m 0) i=0:=by
 unfold psum
 induction i with
 | zero=>rfl
 | succ i a=>rw[sumN,a,Jdh];grind
theorem Qul{m i:Nat}{d:List Rat}:∀ {cs:List Rat}{l:List (List Rat)}{z:List Rat},cs.length=l.length->(∀ a∈l,a.length=m)->z.length=m ->
 psum d (mixQ cs l z) i=psum d z i+sumN (λj=>cs.getD j 0*psum d (l.getD j []) i) l.length
 | [],[],z,_,_,_=>by simp only[mixQ,yr,sumN];grind
 | [],_::_,_,h,_,_=>by simp at h
 | _::_,[],_,h,_,_=>by simp at h
 | c::cs,a::l,z,h,e,w=>by
   have q:List.zipWith (λx o=>o+c*x) a z=linQ c a z:=by unfold linQ;congr 1;funext x o;rw[Rat.add_comm]
   have s:=e a (.head _);simp only[mixQ];rw[q,Qul (by simpa using h) (λf r=>e f (.tail _ r)) (by rw[Q2m om];exact s),Q4j om,xn,Q1o];simp only[List.getD_cons_zero,List.getD_cons_succ];grind
theorem Qtf{l d:List Rat}{a:Int}{c:Rat}:∀ {i:Nat},a.toNat<i->a.toNat<l.length->psum (addAt l a c) d i=psum l d i+c*d.getD a.toNat 0
 | 0,h,_=>om
 | i+1,h,f=>by
   rw[Qrs,Qrs,Qzb];by_cases e:a.toNat=i;have:psum (addAt l a c) d i=psum l d i:=Qgl λj q=>by rw[Qzb,oj om]
   rw[this,oq ⟨e.symm,om⟩,e];grind;rw[Qtf om f,oj om];grind
section
variable {t:Qm}{lim:Int}{T':Rat}{Y' P' vs ds:List Rat}
def inn(T':Rat)(Y' P' ds:List Rat)(s:BkS)(i:Nat):Rat:=psum s.co ds i+s.T*T'+psum s.Y Y' s.Y.length+psum s.P P' s.P.length
theorem Jls{x:Qv}{i:Nat}{s:BkS}(d:mayR t i x)(hs:ds.getD i 0=slopeQ x (vs.getD i 0) T' Y' P' vs ds)(l:i<=s.co.length)(w:(s.Y.length:Int)=t.A0)(hp:(s.P.length:Int)=t.A3):
 inn T' Y' P' ds s (i+1)=inn T' Y' P' ds (Yx x (s.co.getD i 0) (vs.getD i 0) vs s) i:=by
 have f:=Qmr d;have dA:x.Op=6\/x.Op=11\/x.Op=7\/x.Op=8\/x.Op=9\/x.Op=10->0<=x.A/\x.A<(i:Int):=λh=>f _ (rdT_A h);have dB:x.Op=7\/x.Op=8\/x.Op=9\/x.Op=10->0<=x.B/\x.B<(i:Int):=λh=>f _ (rdT_B h);rw[Q6e];unfold inn;rw[Qrs,hs];generalize s.co.getD i 0=c;generalize vs.getD i 0=r;have one:∀ q:Rat,x.A.toNat<i->psum (addAt s.co x.A q) ds i=psum s.co ds i+q*ds.getD x.A.toNat 0:=λq h=>Qtf h om
 have a:∀ q q':Rat,x.A.toNat<i->x.B.toNat<i->psum (addAt (addAt s.co x.A q) x.B q') ds i=psum s.co ds i+q*ds.getD x.A.toNat 0+q'*ds.getD x.B.toNat 0:=λq q' h j=>by rw[Qtf j (by rw[Yw];omega),one q h]
 rcases Q4a d with o | o | o | o | o | o | o | o | o | o<;>simp only[bk1,slopeQ,o,Int.reduceEq,↓reduceIte];grind;grind;have:=Qxp d o;rw[Yw,Qtf om om];grind;have:=Qxq d o;rw[Yw,Qtf om om];grind;rw[one _ (by have:=dA om;omega)];generalize ds.getD x.A.toNat 0=d1;grind;rw[a _ _ (by have:=dA om;omega) (by have:=dB om;omega)];generalize ds.getD x.A.toNat 0=d1;generalize ds.getD x.B.toNat 0=d2;grind;rw[a _ _ (by have:=dA om;omega) (by have:=dB om;omega)];generalize ds.getD x.A.toNat 0=d1;generalize ds.getD x.B.toNat 0=d2;grind;rw[a _ _ (by have:=dA om;omega) (by have:=dB om;omega)];generalize ds.getD x.A.toNat 0=d1;generalize ds.getD x.B.toNat 0=d2;generalize vs.getD x.A.toNat 0=v1;generalize vs.getD x.B.toNat 0=v2;grind;rw[a _ _ (by have:=dA om;omega) (by have:=dB om;omega)];simp only[db];generalize ds.getD x.A.toNat 0=d1;generalize ds.getD x.B.toNat 0=d2;generalize (vs.getD x.B.toNat 0)⁻¹=v2;grind;rw[one _ (by have:=dA om;omega)];generalize ds.getD x.A.toNat 0=d1;generalize turnQ (vs.getD x.A.toNat 0) r x.B=tq;generalize (x.B:Rat)=e;grind
theorem Jdt{code:List Qv}:∀ {i:Nat}{s z},i<=code.length->i<=s.co.length->(s.Y.length:Int)=t.A0->(s.P.length:Int)=t.A3 ->
 (∀(j:Nat) x,code[j]?=some x->mayR t j x/\ds.getD j 0=slopeQ x (vs.getD j 0) T' Y' P' vs ds)->pullQ lim code vs i s=.inr z->inn T' Y' P' ds s i=inn T' Y' P' ds z 0
 | 0,s,z,_,_,_,_,_,h=>by simp only[pullQ] at h;cases h;rfl
 | i+1,s,z,hi,q,e,hp,d,h=>by
   have a:code[i]?=some (code[i]' om):=oi _;generalize code[i]' om=x at a;obtain⟨f,l⟩:=d i x a;simp only[pullQ,a] at h;split at h
   case isFalse=>cases h
   obtain⟨a1,a2,a3⟩:=Qkk (x:=x) (c:=s.co.getD i 0) (r:=vs.getD i 0) (vs:=vs) (s:=s);rw[Jls f l om e hp];exact Jdt om om (by rw[a2];exact e) (by rw[a3];exact hp) d h
end
theorem Jhw{t:Qm}{x:Qv}{i:Nat}{q T:Rat}{Y P vs ds:List Rat}(a:mayR t i x):slopeQ x q T Y P (vs.take i) (ds.take i)=slopeQ x q T Y P vs ds:=by
 have d:=Qmr a;have dA:x.Op=6\/x.Op=11\/x.Op=7\/x.Op=8\/x.Op=9\/x.Op=10->0<=x.A/\x.A<(i:Int):=λh=>d _ (rdT_A h);have dB:x.Op=7\/x.Op=8\/x.Op=9\/x.Op=10->0<=x.B/\x.B<(i:Int):=λh=>d _ (rdT_B h);rcases Q4a a with o | o | o | o | o | o | o | o | o | o<;>simp only[slopeQ,o,Int.reduceEq,↓reduceIte]
 . rw[Qdz (by have:=dA om;omega)]
 all_goals first
  | rw[Qdz (by have:=dA om;omega),Qdz (by have:=dB om;omega),Qdz (by have:=dA om;omega),Qdz (by have:=dB om;omega)]
  | rw[Qdz (by have:=dA om;omega),Qdz (by have:=dB om;omega),Qdz (by have:=dB om;omega)]
  | rw[Qdz (by have:=dA om;omega),Qdz (by have:=dB om;omega)]
  | rw[Qdz (by have:=dA om;omega),Qdz (by have:=dA om;omega)]
theorem Jdu{lim:Int}{T:Rat}{Y P:List Rat}{T':Rat}{Y' P':List Rat}:∀ {c:List Qv}{i:Nat}{vs ds:List Rat}{l},ds.length=vs.length->prunQ lim T Y P T' Y' P' c i vs ds=.inr l ->
 (∃ e,l.1=vs++e)/\(∃ e,l.2=ds++e)/\runQ lim T Y P c i vs=.inr l.1/\∀(q:Nat) x,c[q]?=some x->l.2.getD (vs.length+q) 0=slopeQ x (l.1.getD (vs.length+q) 0) T' Y' P' (l.1.take (vs.length+q)) (l.2.take (vs.length+q))
 | [],i,vs,ds,l,hd,h=>by simp only[prunQ] at h;cases h;exact⟨⟨[],oc⟩,⟨[],oc⟩,rfl,λq x G=>by simp at G⟩
 | x::c,i,vs,ds,l,hd,h=>by
   simp only[prunQ] at h;simp only[runQ];cases s:opQ x T Y P vs with
   | none=>rw[s] at h;cases h
   | some q=>
     rw[s] at h;simp only[] at h |-;split at h
     case isFalse=>cases h
     rename_i E;split at h
     case isFalse=>cases h
     rw[oq E];obtain⟨⟨a,j⟩,⟨d,r⟩,B,C⟩:=Jdu (by simp;exact hd) h;refine⟨⟨q::a,by rw[j];simp⟩,⟨_::d,by rw[r];simp;rfl⟩,B,λk y f=>?_⟩;cases k with
     | zero=>
       simp only[ja,Option.some.injEq] at f;subst f;rw[xp,j,r];have g1:(vs++[q]++a).getD vs.length 0=q:=by rw[xf,ot,yz (xr _),gh];rfl
       have A:∀ w:Rat,(ds++[w]++d).getD vs.length 0=w:=λw=>by rw[xf,ot,<-hd,yz (xr _),gh];rfl
       have g3:(vs++[q]++a).take vs.length=vs:=by rw[xf,List.take_left]
       have g4:∀ w:Rat,(ds++[w]++d).take vs.length=ds:=λw=>by rw[xf,<-hd,List.take_left]
       rw[g1,A,g3,g4]
     | succ k=>
       have:=C k y (by simpa using f);rw[yn,uy,show vs.length+1+k=vs.length+(k+1) by omega] at this;exact this
theorem Jf2{ds:List Rat}{m:Nat}:∀ {os:List Int}{w a:List Rat},w.length=os.length->(∀ o∈os,o.toNat<m)->a.length=m ->
 psum ((List.zip os w).foldl (λco z=>addAt co z.1 z.2) a) ds m=psum a ds m+psum w (os.map λo=>ds.getD o.toNat 0) w.length
 | [],[],a,_,_,_=>by simp[psum,sumN];grind
 | [],_::_,_,h,_,_=>by simp at h
 | _::_,[],_,h,_,_=>by simp at h
 | o::os,x::w,a,h,d,f=>by have h0:=d o (.head _);simp only[List.zip_cons_cons,dr,yy,xn];rw[Jf2 (by simpa using h) (λi e=>d i (.tail _ e)) (by rw[Yw];exact f),Qtf h0 om,Q1p];grind
theorem Jlt{t:Qm}{lim:Int}{T T':Rat}{Y P Y' P' w:List Rat}{z l}(r:tapeR t)(J:w.length=t.Az.length)(hb:backQ t lim T Y P w=.inr z)(hp:pfieldQ t lim T Y P T' Y' P'=.inr l):
 psum w l.2 w.length=z.1*T'+psum z.2.1 Y' t.A0.toNat+psum z.2.2 P' t.A3.toNat:=by
 obtain⟨⟨M,N⟩,⟨O,Q⟩,R,S⟩:=r.1;unfold pfieldQ at hp;cases hr:prunQ lim T Y P T' Y' P' t.Code 0 [] [] with
 | inl e=>rw[hr] at hp;cases hp
 | inr q=>
   rw[hr] at hp;cases hp;obtain⟨_,_,C,L⟩:=Jdu rfl hr;obtain⟨vs,x,f,A,rfl⟩:=Q4c hb;rw[C] at f;injection f with f
   subst f;have I:q.1.length=t.Code.length:=by
    have:∀ {c:List Qv}{i:Nat}{vs l:List Rat},runQ lim T Y P c i vs=.inr l->l.length=vs.length+c.length:=by
     intro c
     induction c with
     | nil=>intro i vs l h;simp only[runQ] at h;cases h;rfl
     | cons x c K=>
       intro i vs l h;simp only[runQ] at h;cases B:opQ x T Y P vs with
       | none=>rw[B] at h;cases h
       | some q=>
         rw[B] at h;simp only[] at h;split at h;rw[K h];simp;omega;cases h
    have:=this C
    simpa using this
   have hs:=Q4h A
   have d:=Jdt (t:=t) (T':=T') (Y':=Y') (P':=P') (ds:=q.2) om (by simp only[Q8c];omega) oh oh (λj x s=>⟨r.2.1 j x s,by
    have:=L j x s;rw[yr,xg,Jhw (r.2.1 j x s)] at this
    exact this⟩) A
   unfold inn at d;simp only[] at d;unfold coQ at d;rw[Jf2 J (λo H=>by have:=r.2.2 o H;omega) oc,Yf,Qj4,Yf (a:=List.replicate t.A0.toNat 0),Qj4,Yf (a:=List.replicate t.A3.toNat 0),Qj4] at d;have E:=hs.y;have G:=hs.p;simp only[yt] at E G;rw[E,G,show psum x.co q.2 0=0 from rfl] at d;simp only[];grind
theorem Jj4{k:Nat}:Fk k noH.T:=⟨(by intro x h;cases h),yx _,(by intro x h;cases h),yx _⟩
set_option maxRecDepth 100000
theorem Q3o{t:Qm}{lim:Int}{T H:Rat}{U V P:List Rat}:∀ {r:List ((List Rat×Rat)×List Rat)}{i:Nat}{kss z},tstagesQ t lim T H U V P r i kss=.inr z ->
 (∃ e,z=kss++e)/\z.length=kss.length+r.length/\∀(q:Nat) x,r[q]?=some x->∃ l,pfieldQ t lim (T+H*x.1.2) x.2 P 0 (fromQ H U x.1.1 (z.take (kss.length+q))) V=.inr l/\z[kss.length+q]?=some l.2
 | [],i,kss,z,h=>by simp only[tstagesQ] at h;cases h;exact⟨⟨[],oc⟩,rfl,λq x C=>by simp at C⟩
 | x::r,i,kss,z,h=>by
   simp only[tstagesQ] at h;cases hs:tstageQ t lim T H U V P x.2 x.1.1 x.1.2 i kss with
   | inl f=>rw[hs] at h;cases h
   | inr w=>
     rw[hs] at h;simp only[] at h;obtain⟨⟨e,a⟩,A,B⟩:=Q3o h;refine⟨⟨w::e,by rw[a];simp⟩,by rw[A];simp;omega,λq y d=>?_⟩;cases q with
     | zero=>
       simp only[ja,Option.some.injEq] at d;subst d;unfold tstageQ at hs;cases s:fitQ lim (fromQ H U x.1.1 kss) 0 with
       | some j=>rw[s] at hs;cases hs
       | none=>
         rw[s] at hs;simp only[] at hs;cases hp:pfieldQ t lim (T+H*x.1.2) x.2 P 0 (fromQ H U x.1.1 kss) V with
         | inl e=>rw[hp] at hs;cases hs
         | inr l=>
           rw[hp] at hs;cases hs;refine⟨l,?_,?_⟩;rw[xp,a,xf,List.take_left];exact hp;rw[xp,a,xf,yz (xr _),gh];rfl
     | succ q=>
       have:=B q y (by simpa using d);rw[yn,uy,show kss.length+1+q=kss.length+(q+1) by omega] at this;exact this
theorem Jhx{l:List (List Rat)}{i j:Nat}(h:j<i):(l.take i).getD j []=l.getD j []:=by rw[ot,ot,ur,oq h]
def gQ(s:Qw)(H:Rat)(W:List Rat)(j i:Nat)(ls:List (List Rat)):List Rat:=
 scaleQ H (mixQ (((s.A.map rv).drop i).map λa=>a.getD j 0) ls (scaleQ ((rv s.B).getD j 0) W))
theorem Jny{s:Qw}{H:Rat}{W u:List Rat}{i j m:Nat}{ls:List (List Rat)}{x d:List Rat}{a:List Qa}(w:s.A[i]?=some a)(G:ls.length+(i+1)=s.A.length)(r:∀ x∈ls,x.length=m)(C:x.length=m)(B:W.length=m):
 psum d (gQ s H W j i (x::ls)) m=psum d (gQ s H W j (i+1) ls) m+H*((rv a).getD j 0*psum d x m):=by
 have hi:=Kc w;have e:(s.A.map rv).drop i=rv a::(s.A.map rv).drop (i+1):=by
  have q:(s.A.map rv)[i]?=some (rv a):=by rw[xm,w];rfl
  have l:=Kc q;rw[xe l];rw[oi l] at q;rw[Option.some.inj q]
 have E:(scaleQ ((rv s.B).getD j 0) W).length=m:=by rw[W6];exact B
 have A:∀(c:Rat) (a z:List Rat),List.zipWith (λx o=>o+c*x) a z=linQ c a z:=λc a z=>by unfold linQ;congr 1;funext x o;rw[Rat.add_comm]
 have f:(((s.A.map rv).drop (i+1)).map λa=>a.getD j 0).length=ls.length:=by rw[ov,uc,ov];omega
 unfold gQ;rw[Qmu,Qmu,e,yy];simp only[mixQ];rw[A,Qul (m:=m) f r (by rw[Q2m om];exact C),Qul (m:=m) f r E,Q4j om];grind
theorem Q3p{t:Qm}{s:Qw}{lim:Int}{T H:Rat}{P W U V:List Rat}{yss kss:List (List Rat)}(N:tapeR t)(hs:schR s)(K:U.length=t.A0.toNat)(I:W.length=t.A0.toNat)
 (L:kss.length=s.B.length) (E:∀ a∈kss,a.length=t.A0.toNat) (O:yss.length=s.B.length)
 (hk:∀(q:Nat) x,(List.zip (pairQ s) yss)[q]?=some x->∃ l,pfieldQ t lim (T+H*x.1.2) x.2 P 0 (fromQ H U x.1.1 (kss.take q)) V=.inr l/\kss[q]?=some l.2):∀ {i:Nat}{a z},i<=s.B.length->a.ls.length+i=s.B.length->BdL t.A0.toNat t.A3.toNat a ->
 bstagesQ t s lim T H P W yss i a=.inr z->psum z.Y U t.A0.toNat+psum z.P V t.A3.toNat=psum a.Y U t.A0.toNat+psum a.P V t.A3.toNat+sumN (λj=>psum (kss.getD j []) (gQ s H W j i a.ls) t.A0.toNat) i
 | 0,a,z,_,_,_,h=>by simp only[bstagesQ] at h;cases h;simp only[sumN];grind
 | i+1,a,z,hi,hal,g,h=>by
   obtain⟨⟨d1,d2⟩,⟨d3,d4⟩,d5,d6⟩:=N.1;obtain⟨⟨g1,g2⟩,g3,g4,g5,g6⟩:=hs.2.1;simp only[bstagesQ] at h;obtain⟨A,r⟩:∃ x,s.A[i]?=some x:=⟨s.A[i]' om,oi _⟩
   obtain⟨ci,C⟩:∃ x,s.C[i]?=some x:=⟨s.C[i]' om,oi _⟩
   obtain⟨R,G⟩:∃ x,yss[i]?=some x:=⟨yss[i]' om,oi _⟩
   have hz:(List.zip (pairQ s) yss)[i]?=some ((rv A,fv ci),R):=by rw[gk];refine⟨?_,G⟩;unfold pairQ rv;rw[gk];simp only[xm];exact⟨by rw[r];rfl,by rw[C];rfl⟩
   obtain⟨l,k1,k2⟩:=hk i _ hz;have ey:yss.getD i []=R:=by rw[ot,G];rfl
   rw[ey,Qmt C,show bslQ (s.A.map rv) ((rv s.B).getD i 0) H W i a.ls=gQ s H W i (i+1) a.ls from rfl] at h;have J:(gQ s H W i (i+1) a.ls).length=t.A0.toNat:=by have:=Qza (As:=s.A.map rv) (b:=(rv s.B).getD i 0) (H:=H) (i:=i) (W:=W) (l:=a.ls) (by rw[I];exact g.l);rw[I] at this;exact this
   cases s1:bstageQ t lim T H P R (fv ci) (gQ s H W i (i+1) a.ls) i with
   | inl f=>rw[s1] at h;cases h
   | inr w=>
     rw[s1] at h;obtain⟨x,S,rfl⟩:=Qwr s1;obtain⟨l1,Z⟩:=Jds S;simp only[] at h;have Q:=Q3p N hs K I L E O hk om (by show a.ls.length+1+i=_;omega) (g.step l1 Z) h;have d:=Jlt N om S k1;rw[J,Rat.mul_zero,dg] at d;simp only[] at d;have ek:kss.getD i []=l.2:=by rw[ot,k2];rfl
     have X:=g6 i A r;have M:(kss.take i).length=i:=by rw[xa];omega
     have e:∀ a∈kss.take i,a.length=t.A0.toNat:=λa B=>E a (ym B);have hx:psum x.2.1 (fromQ H U (rv A) (kss.take i)) t.A0.toNat=psum x.2.1 U t.A0.toNat+H*sumN (λj=>(rv A).getD j 0*psum (kss.getD j []) x.2.1 t.A0.toNat) i:=by unfold fromQ towQ;rw[Quk (by rw[W6,Qg7 (m:=U.length) (λa B=>by rw[e a B,K]) oc]),Qmu,Qul (m:=U.length) (by rw[Ji];omega) (λa B=>by rw[e a B,K]) oc,Qj4,dg,M];congr 2;refine Qgl λj Y=>?_;rw[Yf,Jhx Y]
     have hS:sumN (λj=>psum (kss.getD j []) (gQ s H W j i (x.2.1::a.ls)) t.A0.toNat) i=sumN (λj=>psum (kss.getD j []) (gQ s H W j (i+1) a.ls) t.A0.toNat) i+H*sumN (λj=>(rv A).getD j 0*psum (kss.getD j []) x.2.1 t.A0.toNat) i:=by rw[<-Q4i];refine Qgl λj Y=>?_;exact Jny (u:=U) r om g.l l1 I
     rw[hS] at Q;simp only[] at Q;rw[Yf (a:=addQ a.Y x.2.1),Quk (by rw[l1,g.y]),Yf (a:=addQ a.P x.2.2),Quk (by rw[Z,g.p])] at Q;rw[hx,Yf (b:=l.2),<-ek] at d;rw[sumN,Yf (a:=a.Y),Yf (a:=a.P)];rw[Yf (a:=x.2.1),Yf (a:=x.2.2)] at d;grind
theorem Jlu{t:Qm}{s:Qw}{lim:Int}{T H:Rat}{P W U V:List Rat}{yss:List (List Rat)}{z x}(w:lim<=4096)(G:tapeR t)(hs:schR s)(C:U.length=t.A0.toNat)(E:W.length=t.A0.toNat)(K:P.length=t.A3.toNat)(B:yss.length=s.B.length)
 (i:tdoQ t s lim T H U V P yss=.inr z) (J:bdoQ t s lim T H P W yss=.inr x):psum W z.1 t.A0.toNat=psum x.1 U t.A0.toNat+psum x.2 V t.A3.toNat:=by
 obtain⟨⟨N,O⟩,⟨Q,R⟩,S,X⟩:=G.1;obtain⟨⟨g1,Y⟩,g3,g4,Z,g6⟩:=hs.2.1;obtain⟨y,I,rfl⟩:=Q4d J;unfold tdoQ at i;cases hk:tstagesQ t lim T H U V P (List.zip (pairQ s) yss) 0 [] with
 | inl f=>rw[hk] at i;cases i
 | inr kss=>
   rw[hk] at i;simp only[] at i;rw[Q92 i];obtain⟨_,k2,M⟩:=Q3o hk;have d:=Q3m w om (λ_ h=>by cases h) hk;have r:kss.length=s.B.length:=by rw[k2,yr,xg,gp];unfold pairQ;rw[gp,ov,Ji];omega
   have gB:BdL t.A0.toNat t.A3.toNat ⟨[],W,List.replicate P.length 0⟩:=⟨E,by simp;exact K,λ_ h=>by cases h⟩
   have A:=Q3p G hs C E r (λa l=>by rw[d a l,C]) B (λq x L=>by
    have:=M q x L
    rwa [yr,xg] at this) (xr _) oc gB I
   simp only[] at A |-;rw[A,Yf (a:=List.replicate P.length 0),Qj4];unfold fromQ towQ;rw[Quk (by rw[W6,Qg7 (m:=U.length) (λa l=>d a l) oc]),Qmu,Qul (m:=U.length) (by rw[Ji];omega) (λa l=>d a l) oc,Qj4,dg,ui,r,<-Qzf];congr 1;refine Qgl λj hj=>?_;have e:gQ s H W j s.B.length []=scaleQ H (scaleQ ((rv s.B).getD j 0) W):=by unfold gQ;cases ((s.A.map rv).drop s.B.length).map λa=>a.getD j 0<;>rfl
   rw[e,Qmu,Qmu,Yf (a:=W)]
theorem backTilt{p:Qg}{T H:Rat}{Y W U V:List Rat}{z x}(i:tiltQ p T H Y U V=.inr z)(e:backThQ p T H Y W=.inr x):psum W z.2.1 p.Tape.A0.toNat=psum x.2.1 U p.Tape.A0.toNat+psum x.2.2 V p.Tape.A3.toNat:=by
 obtain⟨a1,a2,a3,a4⟩:=Jf1 i;obtain⟨l1,j⟩:=Q3n e;obtain⟨a,q,d⟩:=Qvq e;rw[a1] at a;injection a with a
 rw[<-a] at d;obtain⟨f,r,_⟩:=Qg8 a1;obtain⟨s,l⟩:=Qy7 a1;exact Jlu (by unfold limQ;omega) f.1 f.2.1 om l1 j l a4 d
def AC(p:Qg)(V:List Rat):List Tri->List Rat->List Rat->Prop
 | [],U,E=>E=U
 | x::l,U,E=>∃ z,tiltQ p x.1 x.2.1 x.2.2 U V=.inr z/\AC p V l z.2.1 E
theorem AC_of{p:Qg}{V:List Rat}:∀ {l:List Q9}{i:Nat}{U:List Rat}{r},alongQ p V l i U=.inr r->AC p V (l.map triT) U (r.getLastD U)
 | [],i,U,r,h=>by simp only[alongQ] at h;cases h;rfl
 | t::l,i,U,r,h=>by
   simp only[alongQ] at h;cases hs:tiltQ p (fv t.T) (fv t.H) (rv t.Y) U V with
   | inl f=>rw[hs] at h;cases h
   | inr z=>
     rw[hs] at h;simp only[] at h;cases hr:alongQ p V l (i+1) z.2.1 with
     | inl f=>rw[hr] at h;cases h
     | inr a=>
       rw[hr] at h;cases h;refine⟨z,hs,?_⟩;have:=AC_of hr;rw[List.getLastD_cons];exact this
theorem Jf3{p:Qg}{V:List Rat}{x:Tri}:∀ {l:List Tri}{U E:List Rat},AC p V (l++[x]) U E->∃ U',AC p V l U U'/\∃ z,tiltQ p x.1 x.2.1 x.2.2 U' V=.inr z/\E=z.2.1
 | [],U,E,h=>by obtain⟨z,a,d⟩:=h;exact⟨U,rfl,z,a,d⟩
 | y::l,U,E,h=>by obtain⟨z,a,d⟩:=h;obtain⟨U',e,f⟩:=Jf3 d;exact⟨U',⟨z,a,e⟩,f⟩
theorem Q3q{p:Qg}{V U:List Rat}{A:List Tri}{g:List Rat×List Rat}(q:∀ T H Y W b,backThQ p T H Y W=.inr b->b.2.2.length=p.P.length):∀(n:Nat) (w s Un:List Rat),n<=A.length->s.length=p.P.length->AC p V (A.take n) U Un->swQ p 0 A (A.map (·.2.2)) n (w,s)=.inr g ->
 psum w Un p.Tape.A0.toNat+psum s V p.Tape.A3.toNat=psum g.1 U p.Tape.A0.toNat+psum g.2 V p.Tape.A3.toNat
 | 0,w,s,Un,_,_,d,h=>by simp only[swQ] at h;cases h;have j:Un=U:=d;rw[j]
 | n+1,w,s,Un,hn,hs,d,h=>by
   have i:A[n]?=some (A[n]' om):=oi om;generalize A[n]' om=x at i;rw[X4 i] at d;obtain⟨U',B,z,C,rfl⟩:=Jf3 d;simp only[swQ] at h;rw[ot,i,ot,xm,i] at h;simp only[gz,Option.map_some,bstQ] at h;cases hb:backThQ p x.1 x.2.1 x.2.2 w with
   | inl f=>rw[hb] at h;cases h
   | inr b=>
     rw[hb] at h;simp only[] at h;cases r:fitQ (limQ p.Ay) (addQ s b.2.2) 0 with
     | some a=>rw[r] at h;cases h
     | none=>
       rw[r] at h;have E:=q _ _ _ _ _ hb;have G:=Q3q q n b.2.1 (addQ s b.2.2) U' om (by rw[Zl];omega) B h;have l:=backTilt C hb;have e:psum (addQ s b.2.2) V p.Tape.A3.toNat=psum s V p.Tape.A3.toNat+psum b.2.2 V p.Tape.A3.toNat:=by rw[Yf,Quk om,Yf,Yf (a:=V) (b:=b.2.2)]
       rw[l,<-G,e];grind
theorem Q3r{t:Qm}{s:Qw}{lim:Int}{T H:Rat}{P W:List Rat}{yss:List (List Rat)}:∀ {i:Nat}{a z},BdL t.A0.toNat t.A3.toNat a->bstagesQ t s lim T H P W yss i a=.inr z->BdL t.A0.toNat t.A3.toNat z
 | 0,a,z,d,h=>by simp only[bstagesQ] at h;cases h;exact d
 | i+1,a,z,d,h=>by
   simp only[bstagesQ] at h;cases hs:bstageQ t lim T H P (yss.getD i []) ((rv s.C).getD i 0) (bslQ (s.A.map rv) ((rv s.B).getD i 0) H W i a.ls) i with
   | inl f=>rw[hs] at h;cases h
   | inr g=>
     rw[hs] at h;have e:g.1.length=t.A0.toNat/\g.2.length=t.A3.toNat:=by obtain⟨x,j,l⟩:=Qwr hs;rw[l];exact Jds j
     exact Q3r (d.step e.1 e.2) h
theorem Jhy{p:Qg}{T H:Rat}{Y W:List Rat}{z}(h:backThQ p T H Y W=.inr z):z.2.2.length=p.P.length:=by obtain⟨e,a⟩:=Q3n h;obtain⟨_,_,hb⟩:=Qvq h;obtain⟨x,d,f⟩:=Q4d hb;have:=Q3r ⟨e,by simp only[yt];exact a,λ_ h=>by cases h⟩ d;rw[f];show x.P.length=_;rw[this.p,<-a,Ji]
theorem Jqr(l:List Q9):(l.map nT).map triT=l.map triT:=by rw[yo];refine vt λt _=>?_;show(fv (toF (fv t.T)),fv (toF (fv t.H)),rv (toR (rv t.Y)))=_;rw[Jf,Jf,Wn];rfl
set_option maxRecDepth 100000
def prunP(T:Rat)(Y P:List Rat)(T':Rat)(Y' P':List Rat):List Qv->List Rat->List Rat->List Rat
 | [],_,ds=>ds
 | x::c,vs,ds=>match opQ x T Y P vs with
   | none=>ds
   | some q=>prunP T Y P T' Y' P' c (vs++[q]) (ds++[slopeQ x q T' Y' P' vs ds])
theorem Q93{lim:Int}{T:Rat}{Y P:List Rat}{T':Rat}{Y' P':List Rat}:∀ {cd:List Qv}{i:Nat}{vs ds:List Rat}{l},prunQ lim T Y P T' Y' P' cd i vs ds=.inr l->l.2=prunP T Y P T' Y' P' cd vs ds
 | [],i,vs,ds,l,h=>by simp only[prunQ] at h;cases h;rfl
 | x::cd,i,vs,ds,l,h=>by
   simp only[prunQ] at h;simp only[prunP];cases a:opQ x T Y P vs with
   | none=>rw[a] at h;cases h
   | some q=>
     rw[a] at h;simp only[] at h |-;split at h
     case isFalse=>cases h
     split at h
     case isFalse=>cases h
     exact Q93 h
def pfieldP(t:Qm)(T:Rat)(Y P:List Rat)(T':Rat)(Y' P':List Rat):List Rat:=t.Az.map λo=>(prunP T Y P T' Y' P' t.Code [] []).getD o.toNat 0
theorem Je9{t:Qm}{lim:Int}{T:Rat}{Y P:List Rat}{T':Rat}{Y' P':List Rat}{l}(h:pfieldQ t lim T Y P T' Y' P'=.inr l):l.2=pfieldP t T Y P T' Y' P':=by
 unfold pfieldQ at h;cases r:prunQ lim T Y P T' Y' P' t.Code 0 [] [] with
 | inl e=>rw[r] at h;cases h
 | inr w=>rw[r] at h;cases h;unfold pfieldP;rw[<-Q93 r]
theorem Jfa{t:Qm}{T:Rat}{Y P:List Rat}{T':Rat}{Y' P':List Rat}:(pfieldP t T Y P T' Y' P').length=t.Az.length:=by unfold pfieldP;rw[ov]
def tstagesP(t:Qm)(T H:Rat)(U V P:List Rat):List ((List Rat×Rat)×List Rat)->List (List Rat)->List (List Rat)
 | [],kss=>kss
 | x::r,kss=>tstagesP t T H U V P r (kss++[pfieldP t (T+H*x.1.2) x.2 P 0 (fromQ H U x.1.1 kss) V])
theorem Q1s{t:Qm}{lim:Int}{T H:Rat}{P U V:List Rat}:∀ {r:List ((List Rat×Rat)×List Rat)}{i:Nat}{k z},tstagesQ t lim T H U V P r i k=.inr z->z=tstagesP t T H U V P r k
 | [],i,k,z,h=>by simp only[tstagesQ] at h;cases h;rfl
 | x::r,i,k,z,h=>by
   simp only[tstagesQ] at h;cases s:tstageQ t lim T H U V P x.2 x.1.1 x.1.2 i k with
   | inl f=>rw[s] at h;cases h
   | inr w=>
     rw[s] at h;have d:w=pfieldP t (T+H*x.1.2) x.2 P 0 (fromQ H U x.1.1 k) V:=by
      unfold tstageQ at s;cases a:fitQ lim (fromQ H U x.1.1 k) 0 with
      | some j=>rw[a] at s;cases s
      | none=>
        rw[a] at s;simp only[] at s;cases hp:pfieldQ t lim (T+H*x.1.2) x.2 P 0 (fromQ H U x.1.1 k) V with
        | inl e=>rw[hp] at s;cases s
        | inr q=>rw[hp] at s;cases s;exact Je9 hp
     rw[d] at h;simp only[tstagesP];exact Q1s (show tstagesQ t lim T H U V P r (i+1) _=.inr z from h)
theorem Q1t{t:Qm}{T H:Rat}{P U V:List Rat}(e:t.Az.length=U.length):∀ {r:List ((List Rat×Rat)×List Rat)}{k:List (List Rat)},(∀ a∈k,a.length=U.length)->∀ a∈tstagesP t T H U V P r k,a.length=U.length
 | [],k,g=>g
 | x::r,k,g=>by simp only[tstagesP];refine Q1t e λa d=>?_;rcases yd.1 d with d | d;exact g a d;rw[xk.1 d,Jfa];exact e
def tnextP(t:Qm)(s:Qw)(T H:Rat)(U V P:List Rat)(yss:List (List Rat)):List Rat:=fromQ H U (rv s.B) (tstagesP t T H U V P (List.zip (pairQ s) yss) [])
theorem Jlv{t:Qm}{s:Qw}{lim:Int}{T H:Rat}{P U V:List Rat}{yss:List (List Rat)}{w}(h:tdoQ t s lim T H U V P yss=.inr w):w.1=tnextP t s T H U V P yss:=by
 unfold tdoQ at h;cases r:tstagesQ t lim T H U V P (List.zip (pairQ s) yss) 0 [] with
 | inl e=>rw[r] at h;cases h
 | inr z=>
   rw[r] at h;simp only[] at h;rw[Q92 h,Q1s r];rfl
theorem Jhz{t:Qm}{s:Qw}{T H:Rat}{P U V:List Rat}{yss:List (List Rat)}(a:t.Az.length=U.length):(tnextP t s T H U V P yss).length=U.length:=
 Qiv (Q1t a λ_ h=>by cases h)
noncomputable def movP(p:Qg)(T H:Rat)(Y U V:List Rat):List Rat:=match stepQ p T H Y with
 | .inl _=>U
 | .inr z=>tnextP p.Tape p.Av T H U V (rv p.P) z.ys
theorem Jj5{p:Qg}{T H:Rat}{Y U V:List Rat}{z}(h:tiltQ p T H Y U V=.inr z):z.2.1=movP p T H Y U V:=by obtain⟨a1,a2,a3,a4⟩:=Jf1 h;unfold movP;rw[a1];exact Jlv a4
theorem Jlw{p:Qg}{T H:Rat}{Y U V:List Rat}(a:p.Tape.Az.length=U.length):(movP p T H Y U V).length=U.length:=by
 unfold movP;cases stepQ p T H Y with
 | inl f=>rfl
 | inr z=>exact Jhz a
noncomputable def alongP(p:Qg)(V:List Rat):List Q9->List Rat->List Rat
 | [],U=>U
 | t::l,U=>alongP p V l (movP p (fv t.T) (fv t.H) (rv t.Y) U V)
theorem Q6l{p:Qg}{V:List Rat}:∀ {l:List Q9}{i:Nat}{U:List Rat}{r},alongQ p V l i U=.inr r->r.getLastD U=alongP p V l U
 | [],i,U,r,h=>by simp only[alongQ] at h;cases h;rfl
 | t::l,i,U,r,h=>by
   simp only[alongQ] at h;cases hs:tiltQ p (fv t.T) (fv t.H) (rv t.Y) U V with
   | inl g=>rw[hs] at h;cases h
   | inr z=>
     rw[hs] at h;simp only[] at h;cases hr:alongQ p V l (i+1) z.2.1 with
     | inl g=>rw[hr] at h;cases h
     | inr w=>
       rw[hr] at h;cases h;rw[List.getLastD_cons,Q6l hr,Jj5 hs];rfl
theorem Qzg{p:Qg}{V:List Rat}:∀ {l:List Q9}{U:List Rat},p.Tape.Az.length=U.length->(alongP p V l U).length=U.length
 | [],U,h=>rfl
 | t::l,U,h=>by have e:=Jlw (T:=fv t.T) (H:=fv t.H) (Y:=rv t.Y) (V:=V) h;simp only[alongP];rw[Qzg (by rw[e];exact h),e]
section
variable {F:List Rat->List Rat->List Rat}{n k m:Nat}
end
set_option maxRecDepth 100000
def colQ(L:List (List Rat))(m:Nat):List (List Rat):=(List.range m).map λi=>L.map (·.getD i 0)
def colH(L:List (List Rat))(m i j:Nat):List (List Rat):=(List.range m).map λk=>(L.take (if k<j then i+1 else i)).map (·.getD k 0)
theorem Jdv{L:List (List Rat)}{m i j:Nat}:(colH L m i j).length=m:=by simp[colH]
theorem Jlx{L:List (List Rat)}{m i:Nat}:colH L m i m=colH L m (i+1) 0:=by unfold colH;apply vt;intro k hk;have:=gu.1 hk;rw[oq this,oj (ww _)]
theorem Jly{L:List (List Rat)}{m i j:Nat}(h:j<m):(colH L m i j)[j]?=some ((L.take i).map (·.getD j 0)):=by unfold colH;rw[xm,jc h];simp
theorem Jf4{L:List (List Rat)}{m i j k:Nat}(h:k<(colH L m i j).length):(colH L m i j)[k]=(L.take (if k<j then i+1 else i)).map (·.getD k 0):=by simp[colH]
theorem Jlz{L:List (List Rat)}{m i j:Nat}{c:List Rat}(_:j<m)(d:L[i]?=some c):(colH L m i j).set j ((L.take i).map (·.getD j 0)++[c.getD j 0])=colH L m i (j+1):=by apply vh;simp[colH];intro k f a;rw[Jf4 a,List.getElem_set];by_cases e:j=k;subst e;rw[oq rfl,oq (Nat.lt_succ_self j),vn,d];simp;rw[oj e,Jf4];by_cases c1:k<j;rw[oq c1,oq om];rw[oj c1,oj om]
theorem Jl0{L:List (List Rat)}{m:Nat}(q:∀ c∈L,c.length=m)(C:m<=1000)(B:L.length<=1000):Qqu (toRR L) (m:Int)=some (toRR (colQ L m)):=by
 unfold Qqu;rw[Qev om om,sbind];rw[Zw (λi=>toRR (colH L m i 0)) (toRR L)];rw[Vn,Vi];have e:colH L m L.length 0=colQ L m:=by unfold colH colQ;apply vt;intro k _;rw[oj (ww _),xc]
 rw[e];intro i x a;unfold toRR at a;rw[xm] at a;cases d:L[i]? with
 | none=>rw[d] at a;cases a
 | some c=>
   rw[d] at a;cases a;have r:=q c (Jm d);have hi:=Kc d;rw[Zw (λj=>toRR (colH L m i j)) (toRR (colH L m i 0))];rw[Vn,Vi,Jdv,Jlx];intro j y s;have f:j<m:=by have:=Kc s;rw[Vi,Jdv] at this;exact this
   have g1:(toRR (colH L m i j))[j]?=some (toR ((L.take i).map (·.getD j 0))):=by unfold toRR;rw[xm,Jly f];rfl
   have l:(toR c)[j]?=some (toF (c.getD j 0)):=by unfold toR;rw[xm,ot,oi om];rfl
   have g3:(toR ((L.take i).map (·.getD j 0))).length<=1000:=by rw[Jj,ov,xa];omega
   rw[Q7 g1,sbind,Q7 l,sbind,J5 (by simp only[uy];omega) (by simp only[uy];omega),sbind,ya,<-Jlz f d];unfold toRR;rw[List.map_set];unfold toR;rw[xw];rfl;rfl
 show List.replicate m ([]:List Qa)=_;have e:colH L m 0 0=List.replicate m []:=by apply vh;simp[colH];intro k w A;simp[colH]
 rw[e];unfold toRR;rw[List.map_replicate];rfl
theorem Jj6{x0:List (List Qa)}{a:Int}:Qfn x0 a=Qqu x0 a:=wm (wm rfl)
theorem Q6m{L:List (List Rat)}{m:Nat}(a:∀ c∈L,c.length=m)(e:m<=1000)(d:L.length<=1000):Qfn (toRR L) (m:Int)=some (toRR (colQ L m)):=by rw[Jj6];exact Jl0 a e d
set_option maxRecDepth 100000
theorem Jqs{n:Nat}:FR 129 (toR (zerQ n)):=Vd (Jb (Qmb n) oz)
set_option maxRecDepth 100000
noncomputable def aF(p:Qg)(h:Qt)(U V:List Rat):List Rat:=alongP p V ((okT h.Aw).map nT) U
theorem Qzh{p:Qg}{h:Qt}{U V:List Rat}{r}(g:nodesQ p h U V=.inr r):(AlR p h/\U.length=h.Y.length/\V.length=p.P.length)/\r.getLastD U=aF p h U V:=by unfold nodesQ at g;split at g;rename_i a;exact⟨a,Q6l g⟩;cases g
def dirV(n k i:Nat):List Rat:=if n<=i then uniQ k (i - n) else zerQ k
theorem Jnz{n k i:Nat}:FR 129 (toR (dirV n k i)):=by unfold dirV;split;exact Qxx;exact Jqs
noncomputable def asM(p:Qg)(h:Qt)(n k i:Nat):List (List Rat):=(List.range i).map λj=>aF p h (uniQ n j) (dirV n k j)
theorem Jl1{p:Qg}{h:Qt}{n k i:Nat}:asM p h n k (i+1)=asM p h n k i++[aF p h (uniQ n i) (dirV n k i)]:=by unfold asM;rw[List.range_succ,xw];rfl
theorem Jf5{p:Qg}{h:Qt}{n k i:Nat}:(asM p h n k i).length=i:=by simp[asM]
theorem Jl2{p:Qg}{h:Qt}{n k:Nat}:(asM p h n k (n+k)).take n=(List.range n).map λj=>aF p h (uniQ n j) (zerQ k):=by
 apply vh;simp[asM];intro i d a;have hi:i<n:=by simpa using a
 simp only[asM,List.getElem_take,gy,gq];unfold dirV;rw[oj om]
theorem Jl3{p:Qg}{h:Qt}{n k:Nat}:(asM p h n k (n+k)).drop n=(List.range k).map λj=>aF p h (zerQ n) (uniQ k j):=by apply vh;simp[asM];intro i a d;simp only[asM,List.getElem_drop,gy,gq];unfold dirV;rw[oq om,Q8h om,show n+i - n=i by omega]
def okA(p:Qg)(h:Qt)(k N K i:Nat):Prop:=QR k (aF p h (uniQ N i) (dirV N K i))/\∃ r,nodesQ p h (uniQ N i) (dirV N K i)=.inr r
theorem Qsm{n k:Nat}{p:Qg}{h:Qt}(hn:big<=n)(h0:129<=k)(hk:k<8000)(U:PrbW k p)(hl:h.Aw.length<=1000)(T:∀ t∈h.Aw,FT k t)(R:Fk k h.T)(S:FR k h.Y)(hyl:h.Y.length<=200)(hpl:p.P.length<=200):
 ∃ r,Qjk n p h=some r/\((r.2.2.Ax≠0/\r.1=[]/\r.2.1=[]) \/
   (r.2.2=⟨0,0,0,0⟩/\AlR p h/\(∀ i,i<h.Y.length+p.P.length->okA p h k h.Y.length p.P.length i) /\
     r.1=toRR (colQ ((List.range h.Y.length).map λj=>aF p h (uniQ h.Y.length j) (zerQ p.P.length)) h.Y.length)/\r.2.1=toRR (colQ ((List.range p.P.length).map λj=>aF p h (zerQ h.Y.length) (uniQ p.P.length j)) h.Y.length))):=by
 unfold Qjk;have hr:Qfx n p h=some (dP (AlR p h)):=by
  have hle:=Qn1 h.Aw;unfold Qfx;simp only[jn_eq];rw[Qms hn h0 hk U,Qqe hn om om om T R S om];by_cases c1:prbR p
  case neg=>rw[sbind,dP_f c1,dP_f (λg:AlR p h=>c1 g.1)];rfl
  by_cases C:Qkr h
  case neg=>rw[sbind,dP_t c1,bifT,sbind,dP_f C,dP_f (λg:AlR p h=>C g.2.1)];rfl
  by_cases M:(h.Y.length:Int)=p.Tape.A0
  case neg=>rw[sbind,dP_t c1,bifT,sbind,dP_t C,bifT,oo M,dP_f (λg:AlR p h=>M g.2.2)]
  rw[sbind,dP_t c1,bifT,sbind,dP_t C,bifT,ol M,dP_t (show AlR p h from⟨c1,C,M⟩)]
 rw[hr,sbind];by_cases E:AlR p h
 case neg=>
  rw[dP_f E,ow,bifT];exact⟨_,rfl,.inl ⟨by show(2:Int)≠0;decide,rfl,rfl⟩⟩
 rw[dP_t E,ou,bifF,w64 (x:=(h.Y.length:Int)+(p.P.length:Int)) om om]
 have one:∀ i:Nat,i<h.Y.length+p.P.length->∃ r,((Z5 n (h.Y.length:Int) (i:Int)).bind λq=>(Z5 n (p.P.length:Int) (wrap64 ((i:Int) - (h.Y.length:Int)))).bind λA=>Qcv n p h q A)=some r /\
  (r.2.Ax≠0\/(r.2=⟨0,0,0,0⟩/\r.1=toR (aF p h (uniQ h.Y.length i) (dirV h.Y.length p.P.length i))/\okA p h k h.Y.length p.P.length i)):=by
  intro i hi;rw[Qod hn om,sbind,oq om,ya,w64 om om,Qod hn om,sbind];have e:(if 0<=(i:Int) - (h.Y.length:Int) then uniQ p.P.length ((i:Int) - (h.Y.length:Int)).toNat else zerQ p.P.length)=dirV h.Y.length p.P.length i:=by
   unfold dirV;by_cases c:h.Y.length<=i
   . rw[oq om,oq c];congr 1;omega
   . rw[oj om,oj c]
  rw[e];obtain⟨Y,W,X⟩:=Q1r (n:=n) (p:=p) (h:=h) (u:=toR (uniQ h.Y.length i)) (v:=toR (dirV h.Y.length p.P.length i)) hn h0 hk U hl T R S om (Vf Qxx h0) (by rw[Jj,Qfr];omega) (Vf Jnz h0);refine⟨_,Y,?_⟩;rw[Wn,Wn] at W X |-;cases hs:nodesQ p h (uniQ h.Y.length i) (dirV h.Y.length p.P.length i) with
  | inl f=>exact .inl (W f hs)
  | inr w=>
    obtain⟨_,g⟩:=Qzh hs;obtain⟨V,_⟩:=X w hs;rw[g] at V;exact .inr ⟨rfl,by show toR (w.getLastD _)=_;rw[g],V,w,hs⟩
 generalize hN:h.Y.length=N at *;generalize hK:p.P.length=K at *
 let body:(List (List Qa))×Int->Option (Lp ((List (List Qa))×Int) (Lp (List (List Qa)) ((List (List Qa))×(List (List Qa))×Qe))):=λs=>
  bif decide (s.2<((N:Int)+(K:Int))) then
   (Z5 n (N:Int) s.2).bind λq=>
    (Z5 n (K:Int) (wrap64 (s.2 - (N:Int)))).bind λA=>
    (Qcv n p h q A).bind λl=>
    bif !(Qs l.2 (⟨0,0,0,0⟩:Qe)) then (
     some (Lp.out (Lp.out ((([]:List (List Qa)),([]:List (List Qa)),l.2)))))
    else (
     (appM 24 s.1 ([l.1]:List (List Qa))).bind λB=>
     some (Lp.go (B,wrap64 (s.2+(1:Int)))))
  else some (Lp.out (Lp.go s.1))
 have hbody:∀ i:Nat,i<N+K->(∃ f:Qe,f.Ax≠0/\body (toRR (asM p h N K i),(i:Int))=some (.out (.out ([],[],f)))) \/
  (okA p h k N K i/\body (toRR (asM p h N K i),(i:Int))=some (.go (toRR (asM p h N K (i+1)),((i+1:Nat):Int)))):=by
  intro i hi;obtain⟨r,Z,e2⟩:=one i hi
  have e3:body (toRR (asM p h N K i),(i:Int))=(((Z5 n (N:Int) (i:Int)).bind λq=>(Z5 n (K:Int) (wrap64 ((i:Int) - (N:Int)))).bind λA=>Qcv n p h q A).bind λl=>
   bif !(Qs l.2 (⟨0,0,0,0⟩:Qe)) then (
    some (Lp.out (Lp.out ((([]:List (List Qa)),([]:List (List Qa)),l.2)))))
   else (
    (appM 24 (toRR (asM p h N K i)) ([l.1]:List (List Qa))).bind λB=>
    some (Lp.go (B,wrap64 ((i:Int)+(1:Int)))))):=by
   show(bif decide ((i:Int)<((N:Int)+(K:Int))) then _ else _)=_;rw[ol om,bifT];rw[Option.bind_assoc];congr 1;funext q;rw[Option.bind_assoc]
  rw[e3,Z,sbind];rcases e2 with hk0 | ⟨G,hx,hq⟩
  . left
    obtain⟨r1,k1,a,b,c⟩:=r;refine⟨⟨k1,a,b,c⟩,hk0,?_⟩;simp only[];rw[Ky hk0,ow,bifT]
  . right
    refine⟨hq,?_⟩;have I:(toRR (asM p h N K i)).length=i:=by rw[Vi,Jf5]
    rw[G,Kk,ou,bifF,hx,w1 om,J5 (by simp only[I,uy];omega) (by simp only[I,uy];omega),sbind,Jl1];unfold toRR;rw[xw];rfl
 have loop:∀(d i m:Nat),i+d=N+K->d<m->(∀ j,j<i->okA p h k N K j) ->
  (∃ f:Qe,f.Ax≠0/\loopM body m (toRR (asM p h N K i),(i:Int))=some (.out ([],[],f))) \/
  ((∀ j,j<N+K->okA p h k N K j)/\loopM body m (toRR (asM p h N K i),(i:Int))=some (.go (toRR (asM p h N K (N+K))))):=by
  intro d
  induction d with
  | zero=>
    intro i m hi L H;right;have:i=N+K:=om
    subst this;refine⟨H,?_⟩;refine Kz ?_ L;show(bif decide (((N+K:Nat):Int)<((N:Int)+(K:Int))) then _ else _)=_;rw[oo om,bifF]
  | succ d ih=>
    intro i m hi L H;cases m with
    | zero=>omega
    | succ m=>
      rcases hbody i om with ⟨f,G,e⟩ | ⟨Q,e⟩
      . exact .inl ⟨f,G,Kz e om⟩
      . rw[Qau e]
        exact ih (i+1) m om om λj hj2=>by
         by_cases c:j<i
         . exact H j c
         . have:j=i:=om
           subst this;exact Q
 have J:=loop (N+K) 0 n om (by unfold big at hn;omega) (λj H=>absurd H (ww _));rw[show toRR (asM p h N K 0)=[] by simp[asM,toRR],show(((0:Nat)):Int)=(0:Int) from rfl] at J;change ∃ r,((loopM body n ([],(0:Int))).bind _)=some r/\_;rcases J with ⟨f,G,e⟩ | ⟨Q,e⟩
 . rw[e,sbind,Yz]
   exact⟨_,rfl,.inl ⟨G,rfl,rfl⟩⟩
 . rw[e,sbind,Vn]
   have P:(toRR (asM p h N K (N+K))).length=N+K:=by rw[Vi,Jf5]
   have L:p.Tape.Az.length=N:=by have h1:=E.1.1.1;have:=h1.2.2.1;have:=E.2.2;omega
   have t1:(toRR (asM p h N K (N+K))).take N=toRR ((List.range N).map λj=>aF p h (uniQ N j) (zerQ K)):=by rw[<-Jl2];unfold toRR;rw[wc]
   have t2:(toRR (asM p h N K (N+K))).drop N=toRR ((List.range K).map λj=>aF p h (zerQ N) (uniQ K j)):=by rw[<-Jl3];unfold toRR;rw[wt]
   have l1:∀ c∈(List.range N).map λj=>aF p h (uniQ N j) (zerQ K),c.length=N:=λc O=>by obtain⟨j,_,rfl⟩:=xz.1 O;unfold aF;rw[Qzg (by rw[Qfr];exact L),Qfr]
   have l2:∀ c∈(List.range K).map λj=>aF p h (zerQ N) (uniQ K j),c.length=N:=λc O=>by obtain⟨j,_,rfl⟩:=xz.1 O;unfold aF;rw[Qzg (by rw[Qbz];exact L),Qbz]
   rw[Qyy om,sbind,t1,Q6m l1 om oh,sbind,P,show((N+K:Nat):Int)=((N+K:Nat):Int) from rfl,Qs7 om om,sbind,xb om,t2,Q6m l2 om oh,sbind];exact⟨_,rfl,.inr ⟨rfl,E,Q,rfl,rfl⟩⟩
theorem Qum{n i:Nat}{E:List Rat}(hi:i<n):∀ {m:Nat},psum (uniQ n i) E m=if i<m then E.getD i 0 else 0
 | 0=>rfl
 | m+1=>by rw[Qrs,Qum hi,Jdo hi];by_cases h:m=i;subst h;rw[oj om,oq rfl,oq om];grind;rw[oj h];by_cases a:i<m;rw[oq a,oq om];grind;rw[oj a,oj om];grind
theorem Jdw{n m:Nat}{E:List Rat}:psum (zerQ n) E m=0:=by rw[Yf];exact Qj4
theorem Qxz{n k:Nat}{M:List (List Rat)}(hn:big<=n)(d:1<=k)(hk:k<1099511627776)(h:∀ r∈M,QR k r):Qgr n (toRR M) (toRR M)=some true:=by unfold Qgr;rw[ol rfl,ou,bifF,Q9u];intro i x a;have e:getI (toRR M) (i:Int)=some x:=Q7 a;obtain⟨r,hr,rfl⟩:=xz.1 (ud a);rw[e,sbind,Qsh (k:=k) hn d hk (Vd (h r hr)) (Vd (h r hr)),sbind,ol rfl,ou,bifF]
theorem entry{p:Qg}{h:Qt}{W U V E:List Rat}{c:Nat}{g:List Rat×List Rat}{w s:Rat}{x B:List Rat}(G:1<=c)(I:MCh p w x (tri h) s B)(f:sweepQ p h W c=.inr g){r}(e:nodesQ p h U V=.inr r)(C:r.getLastD U=E):
 psum W E p.Tape.A0.toNat=psum g.1 U p.Tape.A0.toNat+psum g.2 V p.Tape.A3.toNat:=by
 have q:SwR p h W:=by refine Classical.byContradiction λd=>?_;unfold sweepQ at f;rw[oj d] at f;cases f
 have l:AlR p h/\U.length=h.Y.length/\V.length=p.P.length:=by refine Classical.byContradiction λd=>?_;unfold nodesQ at e;rw[oj d] at e;cases e
 unfold sweepQ at f;rw[oq q,Q6g I G] at f;unfold nodesQ at e;rw[oq l] at e;have i:=AC_of e;rw[Jqr] at i;have j:=Q3q (p:=p) (V:=V) (U:=U) (A:=tri h) (g:=g) (λT H Y W b h=>Jhy h) (tri h).length W (List.replicate p.P.length 0) (r.getLastD U) (xr _) oc (by rw[xc];exact i) f;rw[Yf (a:=List.replicate p.P.length 0),Qj4,ui,C] at j;exact j
theorem Jn0{k:Nat}{p:Qg}{h:Qt}{c:Nat}{G:List (List Rat×List Rat)}{M L:Rat}{N O:List Rat}(J:1<=c)(K:MCh p M N (tri h) L O)(E:AlR p h)(x:G.length=h.Y.length)(A:∀(i:Nat) g,G[i]?=some g->sweepQ p h (uniQ h.Y.length i) c=.inr g/\g.1.length=h.Y.length/\g.2.length=p.P.length)
 (q:∀ i,i<h.Y.length+p.P.length->okA p h k h.Y.length p.P.length i) :
 G.map (·.1)=colQ ((List.range h.Y.length).map λj=>aF p h (uniQ h.Y.length j) (zerQ p.P.length)) h.Y.length/\G.map (·.2)=colQ ((List.range p.P.length).map λj=>aF p h (zerQ h.Y.length) (uniQ p.P.length j)) h.Y.length:=by
 have H:p.Tape.A0.toNat=h.Y.length:=by have:=E.2.2;omega
 have I:p.Tape.A3.toNat=p.P.length:=by have:=E.1.2.2;omega
 have row:∀(i:Nat) g,G[i]?=some g->(∀ j,j<h.Y.length->g.1.getD j 0=(aF p h (uniQ h.Y.length j) (zerQ p.P.length)).getD i 0)/\∀ j,j<p.P.length->g.2.getD j 0=(aF p h (zerQ h.Y.length) (uniQ p.P.length j)).getD i 0:=by
  intro i g hi;obtain⟨l,C,R⟩:=A i g hi;have d:i<h.Y.length:=by rw[<-x];exact(ug.1 hi).1
  constructor;intro j f;obtain⟨_,r,hr⟩:=q j om;have e:=entry J K l hr (Qzh hr).2;have w:dirV h.Y.length p.P.length j=zerQ p.P.length:=by unfold dirV;rw[oj om]
  rw[w] at e;rw[H,I,Qum d,oq d,Yf (a:=g.1),Qum f,oq f,Yf (a:=g.2),Jdw,ui] at e;exact e.symm;intro j f;obtain⟨_,r,hr⟩:=q (h.Y.length+j) om;have e:=entry J K l hr (Qzh hr).2;have w:dirV h.Y.length p.P.length (h.Y.length+j)=uniQ p.P.length j:=by unfold dirV;rw[oq om,show h.Y.length+j - h.Y.length=j by omega]
  have P:uniQ h.Y.length (h.Y.length+j)=zerQ h.Y.length:=Q8h om;rw[w,P] at e;rw[H,I,Qum d,oq d,Yf (a:=g.1),Jdw,dg,Yf (a:=g.2),Qum f,oq f] at e;exact e.symm
 constructor;apply vh;simp[colQ,x];intro i l C;have hi:i<G.length:=by simpa using l
 obtain⟨B,_⟩:=row i _ (oi hi);obtain⟨_,l1,_⟩:=A i _ (oi hi);simp only[gy,colQ,gq];apply vh;simp[l1];intro j s Q;have f:j<h.Y.length:=by rw[<-l1];exact s
 have:=B j f;rw[ot,oi s] at this;simp only[gy,gq];exact this;apply vh;simp[colQ,x];intro i l C;have hi:i<G.length:=by simpa using l
 obtain⟨_,B⟩:=row i _ (oi hi);obtain⟨_,_,l1⟩:=A i _ (oi hi);simp only[gy,colQ,gq];apply vh;simp[l1];intro j s Q;have f:j<p.P.length:=by rw[<-l1];exact s
 have:=B j f;rw[ot,oi s] at this;simp only[gy,gq];exact this
theorem Jh0{n k:Nat}{p:Qg}{x:Int}(hn:big<=n)(h0:129<=k)(hk:k<8000)(e:PrbW k p):∃ r,Qdh n p noH x=some r:=by
 unfold Qdh;obtain⟨a,_,_⟩:=Qif (n:=n) (k:=k) (p:=p) (h:=noH) (w:=toR (uniQ 0 0)) (x:=x) hn h0 hk e (yx _) (by intro t h;cases h) Jj4 (by intro t h;cases h) (yx _) (Vf Qxx h0) (by rw[Jj,Qfr];omega);have hs:sweepQ p noH (rv (toR (uniQ 0 0))) (cutI x)=.inl ⟨2,0,0,0⟩:=by unfold sweepQ;rw[oj];rintro⟨_,hp,_⟩;have:=hp.l.2.1;exact absurd this oz
 rw[hs] at a;have d:Z5 n ((noH.Y.length:Nat):Int) ((0:Nat):Int)=some (toR (uniQ 0 0)):=by rw[Qod hn oz,oq om];rfl
 rw[Kz (t:=Lp.out (⟨[],[]⟩,⟨2,0,0,0⟩)) (by
  simp only[];rw[show decide ((0:Int)<max ((noH.Y.length:Nat):Int) 1)=true from rfl,bifT,show(0:Int)=((0:Nat):Int) from rfl,d,sbind,a,sbind];simp only[]
  rfl) (by unfold big at hn;omega),sbind,Yz]
 exact⟨_,rfl⟩
theorem Jfb(x:Wx)(I:Int)(V:Qfm x):∃ n,Qbr n x I=some true:=by
 refine⟨big,?_⟩;have hn:big<=big:=xr _;obtain⟨p,f,sizes,w⟩:=x;obtain⟨hB,R,X,P,_⟩:=V;simp only[] at hB R X P;unfold Qbr Qbd;simp only[jn_eq];obtain⟨v,J,Q⟩:=Qqc (p:=p) (a:=10) (b:=4) (k:=2) hn oz oz;rw[show((10:Nat):Int)=10 from rfl,show((4:Nat):Int)=4 from rfl,show((2:Nat):Int)=2 from rfl] at J;rw[J,sbind];cases v
 case true=>rw[bifT,sbind,bifT,w45];rfl
 obtain⟨⟨t1,t2,t3⟩,⟨s1,s2,s3,s4,s5,s6⟩,p1⟩:=Q rfl;rw[bifF];by_cases c0:(3:Int)<(p.Av.B.length:Int)
 . rw[ol c0,bifT,sbind,bifT,w45];rfl
 rw[oo c0,bifF];obtain⟨v,e3,e4⟩:=Qvp (f:=f) hn;rw[e3,sbind];cases v
 case true=>rw[bifT,sbind,bifT,w45];rfl
 obtain⟨U,f2,f3⟩:=e4 rfl;obtain⟨v,e5,e6⟩:=Xi (l:=sizes) (many:=3) (k:=2) hn oz;rw[show((3:Nat):Int)=3 from rfl,show((2:Nat):Int)=2 from rfl] at e5;rw[bifF,e5,sbind];cases v
 case true=>rw[bifT,sbind,bifT,w45];rfl
 have z1:=e6 rfl;obtain⟨v,e7,e8⟩:=Xi (l:=w) (many:=6) (k:=2) hn oz;rw[show((6:Nat):Int)=6 from rfl,show((2:Nat):Int)=2 from rfl] at e7;rw[bifF,e7,sbind,sbind];cases v
 case true=>rw[bifT,w45];rfl
 have u1:=e8 rfl;rw[bifF];have C:=(Q79 (bits:=2000) hB oz (Q rfl)).mono (k:=900) oz;have Y:Fk 129 (tF f.T):=Wg (Fk_tF R.1 U) oz;have hY:FR 129 (f.Y.map tF):=Vf (FR_tF R.2.2.1 f3) oz;have hZ:FR 2 (sizes.map tF):=FR_tF X z1;have hW:FR 129 (w.map tF):=Vf (FR_tF P u1) oz;have hYr:FRr 129 f.Y:=Q39 (Q58 R.2.2.1 f3) oz;have hZr:FRr 2 sizes:=Q58 X z1;have hTr:=Fk_wd Y;have f4:=f3.1;have u4:=u1.1;have z2:=z1.1;have hyl:(f.Y.map tF).length<=1000:=oh
 have M:(f.Y.length:Int)=(((f.Y.map tF).length:Nat):Int):=oc
 rw[Qsj hn om om om (by have:=s3.1;omega) (by have:=s4.1;omega) (by have:=s5.1;omega) (λr hr=>by have:=(s6 r hr).1;omega) (by have:=p1.1;omega),sbind];have to:∀ x:Qb,Kw x=some (tF x):=λ_=>rfl;rw[to,sbind,Z8 hn om,sbind,Z8 hn om,sbind,M];rw[show(⟨(tP p).Tape,(tP p).Av,(tP p).P,2000⟩:Qg)=⟨tT p.Tape,tS p.Av,p.P.map tF,2000⟩ from rfl];have B:(⟨tT p.Tape,tS p.Av,p.P.map tF,2000⟩:Qg).P.length<=200:=by show(p.P.map tF).length<=200;rw[ov];have:=p1.1;omega
 generalize (⟨tT p.Tape,tS p.Av,p.P.map tF,2000⟩:Qg)=q at C B |-;have lZ:(sizes.map tF).length<=3:=by rw[ov];omega
 have lY:(f.Y.map tF).length<=6:=by rw[ov];omega
 clear f4 u4 z2 hTr hYr hZr M;generalize f.Y.map tF=y at *;generalize sizes.map tF=S at *;generalize tF f.T=t at *;obtain⟨a1,a2⟩:=Quh (p:=q) (a:=129) (j:=2) (k:=900) (t:=t) (y:=y) (hs:=S) hn oz oz oz oz C Y hY hyl hZ;rw[a1,sbind];unfold Qpm;obtain⟨n1,n2⟩:=Jh0 (x:=I) hn (show 129<=900 by decide) oz C;obtain⟨n3,n4,_⟩:=Qsm (n:=big) (k:=900) (p:=q) (h:=noH) hn oz oz C (yx _) (by intro t h;cases h) Jj4 (by intro t h;cases h) (yx _) B;by_cases E:mayQ q (rv y) (rv S)
 case neg=>
  rw[oj E];simp only[];rw[n2,sbind,n4,sbind,sbind,show Qs ⟨2,0,0,0⟩ ⟨0,0,0,0⟩=false from Ky oz,ow,bifT,bifT,w45];rfl
 rw[oq E];cases T:marchQ q (rv S) 0 (fv t) (rv y) [] with
 | inl g=>
   have hk:=a2 E g T;simp only[];rw[n2,sbind,n4,sbind,sbind,show Qs g ⟨0,0,0,0⟩=false by obtain⟨g1,g2,g3,g4⟩:=g;exact Ky hk,ow,bifT,bifT,w45];rfl
 | inr z=>
   clear n2 n4;have qT:=qw_fv Y oz;have qY:=QR_rv hY oz;have qZ:=QR_rv hZ oz;obtain⟨q1,q2,q3,q4⟩:=Q4b (a:=129) (j:=2) om qZ (Jb qY oz) E.2.1 T;rw[Ji] at q1 q4;have O:=Qwq (K:=900) (m:=(rv y).length) (a:=129) (j:=2) oz (by rw[Ji];omega) oz om qZ (Jb qY oz) rfl (λ_ h=>by cases h) T;rw[Ji] at O;obtain⟨l,l1,l2,l3⟩:=Qws T;rw[yw] at l1;rw[<-l1] at l3
   have W:∀ t∈(⟨z.1.map toTry,toF z.2.1,toR z.2.2⟩:Qt).Aw,FT 900 t:=λt ht=>by obtain⟨u,hu,rfl⟩:=xz.1 ht;exact FT_TQ (O u hu) om
   have L:(⟨z.1.map toTry,toF z.2.1,toR z.2.2⟩:Qt).Aw.length<=200:=by show(z.1.map toTry).length<=200;rw[ov,q4];simp;omega
   obtain⟨⟨⟨i1,i2⟩,_⟩,_⟩:=E.1.1;have hi1:1<=q.Tape.A0:=i1;have hi2:q.Tape.A0<=6:=i2;have hyD:=E.2.1;rw[Ji] at hyD;have Z:Fk 900 (toF z.2.1):=Jq om;have hY2:FR 900 (toR z.2.2):=Vd (Jb q2 oz);have hY3:(⟨z.1.map toTry,toF z.2.1,toR z.2.2⟩:Qt).Y.length=y.length:=by show(toR z.2.2).length=_;rw[Jj];omega
   have l3':MCh q (fv t) (rv y) (tri ⟨z.1.map toTry,toF z.2.1,toR z.2.2⟩) z.2.1 z.2.2:=by rw[Q9y];exact l3
   simp only[];have d:Fk 900 (⟨z.1.map toTry,toF z.2.1,toR z.2.2⟩:Qt).T:=Z;have s:FR 900 (⟨z.1.map toTry,toF z.2.1,toR z.2.2⟩:Qt).Y:=hY2;generalize (⟨z.1.map toTry,toF z.2.1,toR z.2.2⟩:Qt)=H at *;obtain⟨r1,b1,b2⟩:=Q9z (n:=big) (k:=900) (p:=q) (h:=H) (x:=I) hn oz oz C L W d s om om;obtain⟨r2,c1,c2⟩:=Qsm (n:=big) (k:=900) (p:=q) (h:=H) hn oz oz C om W d s om B;rw[b1,sbind,c1,sbind,sbind,Kk,ou,bifF];simp only[];rcases b2 with e | ⟨J,G,g1,g2,g3⟩
   . obtain⟨x0,x1,x2,x3,x4⟩:=r1
     rw[Ky e,ow,bifT,bifT,w45];rfl
   rcases c2 with ⟨e,_⟩ | ⟨Q,hA,hok,m1,m2⟩
   . obtain⟨y0,y1,x1,x2,x3,x4⟩:=r2
     rw[J,Kk,ou,bifF,Ky e,ow,bifT,w45];rfl
   have N:∀(i:Nat) g,G[i]?=some g->sweepQ q H (uniQ H.Y.length i) (cutI I)=.inr g/\g.1.length=H.Y.length/\g.2.length=q.P.length/\QR 900 g.1/\QR 129 g.2:=λi g hi=>by have hs:=g2 i g hi;obtain⟨_,_,b3⟩:=Qif (n:=big) (k:=900) (p:=q) (h:=H) (w:=toR (uniQ H.Y.length i)) (x:=I) hn oz oz C L W d s om (Vf Qxx oz) (by rw[Jj,Qfr];omega);rw[Wn] at b3;obtain⟨x1,x2,x3,x4⟩:=b3 g hs;exact⟨hs,x3,x4,x1,x2⟩
   obtain⟨U,f2⟩:=Jn0 (cut_b I).1 l3' hA g1 (λi g hi=>⟨(N i g hi).1,(N i g hi).2.1,(N i g hi).2.2.1⟩) hok
   have hq1:∀ r∈G.map (·.1),QR 900 r:=λr hr=>by obtain⟨g,A,rfl⟩:=xz.1 hr;obtain⟨i,hi⟩:=yg A;exact(N i g hi).2.2.2.1
   have hq2:∀ r∈G.map (·.2),QR 129 r:=λr hr=>by obtain⟨g,A,rfl⟩:=xz.1 hr;obtain⟨i,hi⟩:=yg A;exact(N i g hi).2.2.2.2
   rw[J,Q,Kk,ou,bifF,bifF];unfold Qh8;simp only[jn_eq];rw[g3,m1,m2,<-U,<-f2];simp only[];rw[Qxz hn oz oz hq1,sbind,bifT,Qxz hn oz oz hq2,sbind,sbind,bifT,Vi,ov,g1,hY3,ol rfl,bifT,w45];rfl
end Go.Proofs.YtbdgngdpkdagoaaGreatDoor
