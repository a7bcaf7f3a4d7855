import Derived.Test.YtjmfkenegjhohaaGreatDoorModb
import Derived.Test.YtjmfkenegjhohaaGreatDoorP2
namespace Go.Proofs.YtjmfkenegjhohaaGreatDoor
open Go Go.RowKit
set_option maxRecDepth 100000
def toD(v d:Rat):Q5:=⟨toF v,toF d⟩
def toDD(vs ds:List Rat):List Q5:=List.zipWith toD vs ds
theorem Qqm{vs ds:List Rat}(h:ds.length=vs.length):(toDD vs ds).length=vs.length:=by unfold toDD;rw[List.length_zipWith,h,dt]
theorem Q8k{vs ds:List Rat}{v d:Rat}(h:ds.length=vs.length):toDD vs ds++[toD v d]=toDD (vs++[v]) (ds++[d]):=by unfold toDD;rw[List.zipWith_append h.symm];rfl
theorem Qq7{vs ds:List Rat}{r:Int}(h:ds.length=vs.length)(d:0<=r)(e:r<(vs.length:Int)):getI (toDD vs ds) r=some (toD (vs.getD r.toNat 0) (ds.getD r.toNat 0)):=by
 obtain⟨k,rfl⟩:∃ k:Nat,r=(k:Int):=⟨r.toNat,om⟩
 have hk:k<vs.length:=om
 have a:k<ds.length:=om
 rw[Qgf,yh];unfold toDD;rw[jh,oi hk,oi a,ou,oi hk,ou,oi a];rfl
def slopeQ(x:Q2)(q T:Rat)(Y P vs ds:List Rat):Rat:=
 if x.Op=6 then -ds.getD x.A.toNat 0 else
 if x.Op=11 then ((x.B:Rat)*turnQ (vs.getD x.A.toNat 0) q x.B)*ds.getD x.A.toNat 0 else
 if x.Op=7 then ds.getD x.A.toNat 0+ds.getD x.B.toNat 0 else
 if x.Op=8 then ds.getD x.A.toNat 0 - ds.getD x.B.toNat 0 else
 if x.Op=9 then ds.getD x.A.toNat 0*vs.getD x.B.toNat 0+vs.getD x.A.toNat 0*ds.getD x.B.toNat 0 else
 if x.Op=10 then (ds.getD x.A.toNat 0 - q*ds.getD x.B.toNat 0) / vs.getD x.B.toNat 0 else
 if x.Op=1 then 0 else
 if x.Op=3 then Y.getD x.A.toNat 0 else
 if x.Op=4 then P.getD x.A.toNat 0 else T
theorem Jfj{n k:Nat}{g:Qj}{z:Int}{t:Qp}{x:Q2}{T T':Rat}{Y P Y' P' vs ds:List Rat}(hn:big<=n)(f:1<=k)(hk:k<1048576)(H:mayR t vs.length x)(Q:Fk k x.N)
 (hT:qw T<=k) (hY:QR k Y) (hP:QR k P) (R:QR k vs) (hT':qw T'<=k) (C:QR k Y') (B:QR k P') (O:QR k ds) (S:ds.length=vs.length) (I:Y'.length=Y.length) (F:P'.length=P.length) (hy:(Y.length:Int)=t.Ax) (hp:(P.length:Int)=t.A1) :
 ∃ v,Vh n g z x ⟨toD T T',toDD Y Y',toDD P P'⟩ (toDD vs ds)=some (match opQ x T Y P vs with | none=>(v,false) | some q=>(toD q (slopeQ x q T' Y' P' vs ds),true))/\∀ q,opQ x T Y P vs=some q->qw q<=8*k+1/\qw (slopeQ x q T' Y' P' vs ds)<=20*k+10:=by
 unfold Vh opQ slopeQ;have A:=Qmf H;have dA:x.Op=6\/x.Op=11\/x.Op=7\/x.Op=8\/x.Op=9\/x.Op=10->getI (toDD vs ds) x.A=some (toD (vs.getD x.A.toNat 0) (ds.getD x.A.toNat 0)):=λh=>Qq7 S (A _ (rdT_A h)).1 (A _ (rdT_A h)).2;have dB:x.Op=7\/x.Op=8\/x.Op=9\/x.Op=10->getI (toDD vs ds) x.B=some (toD (vs.getD x.B.toNat 0) (ds.getD x.B.toNat 0)):=λh=>Qq7 S (A _ (rdT_B h)).1 (A _ (rdT_B h)).2;have qA:qw (vs.getD x.A.toNat 0)<=k:=Vt R f;have qB:qw (vs.getD x.B.toNat 0)<=k:=Vt R f;have qA':qw (ds.getD x.A.toNat 0)<=k:=Vt O f;have qB':qw (ds.getD x.B.toNat 0)<=k:=Vt O f;generalize vs.getD x.A.toNat 0=a at dA qA |-;generalize vs.getD x.B.toNat 0=b at dB qB |-;generalize ds.getD x.A.toNat 0=a' at dA qA' |-;generalize ds.getD x.B.toNat 0=b' at dB qB' |-;have fA:Fk k (toF a):=Jq qA;have fB:Fk k (toF b):=Jq qB;have fA':Fk k (toF a'):=Jq qA';have fB':Fk k (toF b'):=Jq qB';have pV:∀ u w:Rat,(toD u w).V=toF u:=λ_ _=>rfl;have pD:∀ u w:Rat,(toD u w).D=toF w:=λ_ _=>rfl;simp only[bifd];by_cases W:x.Op=6;simp only[oq W];unfold Qhr;rw[dA om,sbind,pV,pD,Qg7 hn (Fk_Fw fA om),sbind,Qg7 hn (Fk_Fw fA' om),sbind,sbind,Jc,Jc];exact⟨toD 0 0,rfl,λq d=>by cases d;rw[Qjk,Qjk];omega⟩;simp only[ol W];by_cases m:x.Op=11;simp only[oq m];unfold Qhs;simp only[jn_eq];rw[dA om,sbind,pV,pD,Qnv hn f om fA,sbind,Jc];by_cases E:x.B < -8\/8<x.B\/(x.B<0/\a=0)
 simp only[oq E];exact⟨_,rfl,λq d=>by cases d⟩;simp only[ol E];rw[ov,bifF,X4 hn,sbind];have d:=Qwq qA (e:=x.B) om
 have key:∀ w:Rat,qw w<=16*k+2->turnQ a (a ^ x.B) x.B=w->((Ky n x.B).bind λL=>(Wn n L (toF w)).bind λM=>(Wn n M (toF a')).bind λN=>(some ((⟨toF (a ^ x.B),N⟩:Q5),true):Option (Q5×Bool)))=some (toD (a ^ x.B) (((x.B:Rat)*turnQ a (a ^ x.B) x.B)*a'),true)/\qw (((x.B:Rat)*turnQ a (a ^ x.B) x.B)*a')<=20*k+10:=λw U e=>by have qi:=Q20 (z:=x.B) om;have r:=Xl qi U;have s:=Xl r qA';rw[Qlz hn om om,sbind,Xo (k:=16*k+2) hn om om (Jq om) (Jq U),sbind,Xo (k:=20*k) hn om om (Jq (by rw[Jc,Jc];omega)) (Jq om),sbind,Jc,Jc,Jc,Jc,e];exact⟨rfl,om⟩
 simp only[bifd];by_cases h0:0<x.B;have G:=Qwq qA (e:=x.B - 1) om;obtain⟨k1,k2⟩:=key (a ^ (x.B - 1)) om (by unfold turnQ;rw[oq h0]);rw[oq h0,w64 om om,Qnv hn f om fA,sbind,Jc,ol (show ¬(x.B - 1 < -8\/8<x.B - 1\/(x.B - 1<0/\a=0)) by omega)];simp only[];rw[k1,sbind];exact⟨toD 0 0,rfl,λq d=>by cases d;exact⟨d,k2⟩⟩;rw[ol h0];by_cases j:x.B<0;have ha:¬ a=0:=λg=>E (.inr (.inr ⟨j,g⟩));have G:=Qpn d qA;obtain⟨k1,k2⟩:=key (a ^ x.B / a) om (by unfold turnQ;rw[ol h0,oq j]);rw[oq j,Qg9 (k:=8*k+1) hn om om (Jq d) (Jq om),sbind,Jc,Jc,ol ha];simp only[];rw[k1,sbind];exact⟨toD 0 0,rfl,λq d=>by cases d;exact⟨d,k2⟩⟩;obtain⟨k1,k2⟩:=key 0 (by rw[Y8];omega) (by unfold turnQ;rw[ol h0,ol j]);rw[ol j,k1,sbind];exact⟨toD 0 0,rfl,λq d=>by cases d;exact⟨d,k2⟩⟩;simp only[ol m];by_cases X:x.Op=7;simp only[oq X];unfold Qht;rw[dA om,sbind,dB om,sbind,pV,pV,pD,pD,Vy hn f om fA fB,sbind,Vy hn f om fA' fB',sbind,sbind,Jc,Jc,Jc,Jc];exact⟨toD 0 0,rfl,λq d=>by cases d;have:=Yz qA qB;have:=Yz qA' qB';omega⟩;simp only[ol X];by_cases Z:x.Op=8;simp only[oq Z];unfold Qhu;rw[dA om,sbind,dB om,sbind,pV,pV,pD,pD,Qnu hn f om fA fB,sbind,Qnu hn f om fA' fB',sbind,sbind,Jc,Jc,Jc,Jc];exact⟨toD 0 0,rfl,λq d=>by cases d;have:=Q0a qA qB;have:=Q0a qA' qB';omega⟩;simp only[ol Z];by_cases o9:x.Op=9;simp only[oq o9];unfold Qhv;have r:=Xl qA' qB;have s:=Xl qA qB';have q3:=Xl qA qB;have q4:=Yz r s;rw[dA om,sbind,dB om,sbind,pV,pV,pD,pD,Xo hn f om fA fB,sbind,Xo hn f om fA' fB,sbind,Xo hn f om fA fB',sbind,Jc,Jc,Jc,Jc,Vy (k:=2*k) hn om om (Jq om) (Jq om),sbind,sbind,Jc,Jc];exact⟨toD 0 0,rfl,λq d=>by cases d;omega⟩;simp only[ol o9];by_cases l:x.Op=10;simp only[oq l];unfold Qhw;rw[dA om,sbind,dB om,sbind,pV,pV,pD,pD,Qg9 hn f om fA fB,sbind,Jc,Jc];by_cases hb:b=0;simp only[oq hb];exact⟨_,rfl,λq d=>by cases d⟩;simp only[ol hb];have q0:=Qpn qA qB;have r:=Xl q0 qB';have s:=Q0a qA' r;have q3:=Qpn s qB;rw[ov,bifF,Xo (k:=2*k) hn om om (Jq om) (Jq om),sbind,Jc,Jc,Qnu (k:=3*k) hn om om (Jq om) (Jq om),sbind,Jc,Jc,Qg9 (k:=4*k+1) hn om om (Jq om) (Jq om),sbind,Jc,Jc,ol hb,sbind];exact⟨toD 0 0,rfl,λq d=>by cases d;omega⟩;simp only[ol l];unfold Xx;simp only[bifd];by_cases V:x.Op=1;simp only[oq V];unfold Qiu;rw[Vs hn (Fk_Fw Q om),sbind,X4 hn,sbind,sbind,sbind];exact⟨toD 0 0,rfl,λq d=>by cases d;have:=qw_fv Q f;rw[Y8];omega⟩;simp only[ol V];by_cases J:x.Op=3;simp only[oq J];obtain⟨a1,a2⟩:=Qwr H J;rw[Qq7 I a1 om,sbind,sbind]
 exact⟨toD 0 0,rfl,λq d=>by cases d;have:=Vt (i:=x.A.toNat) hY f;have:=Vt (i:=x.A.toNat) C f;omega⟩;simp only[ol J];by_cases K:x.Op=4;simp only[oq K];obtain⟨a1,a2⟩:=Qws H K;rw[Qq7 F a1 om,sbind,sbind];exact⟨toD 0 0,rfl,λq d=>by cases d;have:=Vt (i:=x.A.toNat) hP f;have:=Vt (i:=x.A.toNat) B f;omega⟩;simp only[ol K];exact⟨toD 0 0,rfl,λq d=>by cases d;omega⟩
def prunQ(lim:Int)(T:Rat)(Y P:List Rat)(T':Rat)(Y' P':List Rat):List Q2->Nat->List Rat->List Rat->(Int×Int×Nat) ⊕ (List Rat×List Rat)
 | [],_,vs,ds=>.inr (vs,ds)
 | x::c,i,vs,ds=>match opQ x T Y P vs with
   | none=>.inl (3,0,i)
   | some q=>if (qz q:Int)<=lim then (if (qz (slopeQ x q T' Y' P' vs ds):Int)<=lim then prunQ lim T Y P T' Y' P' c (i+1) (vs++[q]) (ds++[slopeQ x q T' Y' P' vs ds]) else .inl (6,1,i)) else .inl (6,0,i)
theorem Jhn{n k:Nat}{g:Qj}{t:Qp}{T T':Rat}{Y P Y' P':List Rat}(hn:big<=n)(h1:129<=k)(hk:k<1048576)(ht:tapeR t)(hR:Qbs n t=some true)(H:∀ c∈t.Code,Fk k c.N)
 (hT:qw T<=k) (hY:QR k Y) (hP:QR k P) (L:qw T'<=k) (M:QR k Y') (J:QR k P') (F:Y'.length=Y.length) (E:P'.length=P.length) (C:(Y.length:Int)=t.Ax) (hp:(P.length:Int)=t.A1) (Q:g.limit<=4096) :
 ∃ s,Wu n g 0 t ⟨toD T T',toDD Y Y',toDD P P'⟩=some (match prunQ g.limit T Y P T' Y' P' t.Code 0 [] [] with | .inl e=>([],⟨e.1,0,0,(e.2.2:Int)⟩,s,e.2.1) | .inr l=>(toDD l.1 l.2,⟨0,0,0,0⟩,s,0)):=by
 unfold Wu;simp only[jn_eq,hR,sbind,ov,bifF];rw[Qqm F,Qqm E,oo C,oo hp,ov,bifF,bifF]
 have key:∀(c:List Q2) (vs ds:List Rat) (g:Qj) (K:Qj×Int×List Q5->Option (List Q5×Qe×Qj×Int)),(∀(j:Nat) x,c[j]?=some x->mayR t (vs.length+j) x)->(∀ x∈c,Fk k x.N)->QR k vs->QR k ds->ds.length=vs.length->g.limit<=4096->vs.length+c.length<=300 ->
  ∃ s,(rangeL (λ(G:Nat) (U:Q2) (a:Qj×Int×(List Q5))=>
    (Vh n a.1 a.2.1 U ⟨toD T T',toDD Y Y',toDD P P'⟩ a.2.2).bind λA=>
    bif !A.2 then (
     some (Lp.out ((([]:List Q5),(⟨(3:Int),0,0,(G:Int)⟩:Qe),a.1,a.2.1))))
    else (
     (Qep n a.1 a.2.1 A.1).bind λr=>
     bif !r.1 then (
      some (Lp.out ((([]:List Q5),(⟨(6:Int),0,0,(G:Int)⟩:Qe),r.2.1,r.2.2))))
     else (
      (appM 112 a.2.2 ([A.1]:List Q5)).bind λV=>
      some (Lp.go (r.2.1,r.2.2,V))))) c vs.length (g,0,toDD vs ds)).bind (lpK K)=match prunQ g.limit T Y P T' Y' P' c vs.length vs ds with | .inl e=>some ([],⟨e.1,0,0,(e.2.2:Int)⟩,s,e.2.1) | .inr l=>K (s,0,toDD l.1 l.2):=by
  intro c
  induction c with
  | nil=>intro vs ds g K _ _ _ _ _ _ _;exact⟨g,rfl⟩
  | cons x c ih=>
    intro vs ds g K Z H X W f Q R;simp only[rangeL,prunQ];obtain⟨v,e1,e2⟩:=Jfj (g:=g) (z:=0) hn om hk (by have:=Z 0 x rfl;rwa [xp] at this) (H x (.head _)) hT hY hP X L M J W f F E C hp;rw[e1,sbind];cases hq:opQ x T Y P vs with
    | none=>exact⟨g,rfl⟩
    | some q=>
      obtain⟨hqk,O⟩:=e2 q hq;simp only[ov,bifF];generalize slopeQ x q T' Y' P' vs ds=d at O |-;unfold Qep;rw[show(toD q d).V=toF q from rfl,show(toD q d).D=toF d from rfl,Qog hn om,sbind];simp only[];by_cases I:(qz q:Int)<=g.limit;rw[oo I,oq I,ov,bifF,Qog hn om,sbind];simp only[];by_cases w:(qz d:Int)<=g.limit;rw[oo (show(qz d:Int)<=(noteG g q).limit from w),oq w,ov,bifF,sbind];simp only[ov,bifF];rw[J9 (by rw[Qqm f];simp at R |-;omega) (by rw[Qqm f];simp at R |-;omega),sbind,sbind];simp only[];have S:qw q<=k:=by
       have:=qw_qz (q:=q) (b:=4096) om;omega
      have N:qw d<=k:=by have:=qw_qz (q:=d) (b:=4096) om;omega
      have i:(vs++[q]).length=vs.length+1:=oc
      obtain⟨s,h⟩:=ih (vs++[q]) (ds++[d]) (noteG (noteG g q) d) K (λj y C=>by
       rw[i,show vs.length+1+j=vs.length+(j+1) by omega];exact Z (j+1) y (by simpa using C)) (λy C=>H y (.tail _ C)) (λz m=>by
       rcases yr.1 m with m | m;exact X z m;rw[xj.1 m];exact S) (λz m=>by
       rcases yr.1 m with m | m;exact W z m
       rw[xj.1 m];exact N) (by simp;exact f) Q (by rw[i];simp at R;omega)
      refine⟨s,?_⟩;rw[i] at h;rw[Q8k f];exact h;rw[oj (show ¬(qz d:Int)<=(noteG g q).limit from w),ol w,ow,bifT];unfold Qnq;rw[sbind,sbind];exact⟨noteG (noteG g q) d,rfl⟩;rw[oj I,ol I,ow,bifT,sbind];exact⟨noteG g q,rfl⟩
 obtain⟨⟨d1,d2,d3,d4⟩,m1,m2⟩:=ht;obtain⟨s,h⟩:=key t.Code [] [] g (λB=>some (B.2.2,(⟨0,0,0,0⟩:Qe),B.1,B.2.1)) (λj x hx=>by rw[show([]:List Rat).length+j=j by simp];exact m1 j x hx) H (λ_ h=>by cases h) (λ_ h=>by cases h) rfl Q (by simpa using d4);refine⟨s,?_⟩;rw[show(([]:List Rat).length)=0 from rfl,show toDD [] []=[] from rfl] at h;rw[h];cases prunQ g.limit T Y P T' Y' P' t.Code 0 [] []<;>rfl
set_option maxRecDepth 100000
theorem Q7c{α:Type}{l:List α}{i:Nat}{x:α}(h:l[i]?=some x):l.take (i+1)=l.take i++[x]:=by rw[vj,h];rfl
theorem Q3m{lim T Y P T' Y' P'}(f:lim<=4096):∀ {c:List Q2}{i:Nat}{vs ds:List Rat}{l:List Rat×List Rat},QR 129 vs->QR 129 ds->ds.length=vs.length->prunQ lim T Y P T' Y' P' c i vs ds=.inr l->l.1.length=vs.length+c.length/\l.2.length=l.1.length/\QR 129 l.1/\QR 129 l.2
 | [],i,vs,ds,l,m,hd,j,h=>by simp only[prunQ] at h;cases h;exact⟨rfl,j,m,hd⟩
 | x::c,i,vs,ds,l,m,hd,j,h=>by
   simp only[prunQ] at h;cases s:opQ x T Y P vs with
   | none=>rw[s] at h;cases h
   | some q=>
     rw[s] at h;simp only[] at h;generalize slopeQ x q T' Y' P' vs ds=d at h;by_cases r:(qz q:Int)<=lim
     case neg=>rw[ol r] at h;cases h
     rw[oq r] at h;by_cases e:(qz d:Int)<=lim
     case neg=>rw[ol e] at h;cases h
     rw[oq e] at h;have E:=qw_qz (q:=q) (b:=4096) om;have F:=qw_qz (q:=d) (b:=4096) om
     obtain⟨w,A,B,C⟩:=Q3m f (λz a=>by
      rcases yr.1 a with a | a
      . exact m z a
      . rw[xj.1 a];omega) (λz a=>by
      rcases yr.1 a with a | a
      . exact hd z a
      . rw[xj.1 a];omega) (by simp;exact j) h
     exact⟨by rw[w];simp;omega,A,B,C⟩
theorem Qx6{lim T Y P T' Y' P'}:∀ {c:List Q2}{i:Nat}{vs ds:List Rat}{e},prunQ lim T Y P T' Y' P' c i vs ds=.inl e->e.1=3\/e.1=6
 | [],i,vs,ds,e,h=>by simp only[prunQ] at h;cases h
 | x::c,i,vs,ds,e,h=>by
   simp only[prunQ] at h;cases a:opQ x T Y P vs with
   | none=>rw[a] at h;cases h;exact .inl rfl
   | some q=>
     rw[a] at h;simp only[] at h;split at h;split at h;exact Qx6 h;cases h;exact .inr rfl;cases h;exact .inr rfl
def pfieldQ(t:Qp)(lim:Int)(T:Rat)(Y P:List Rat)(T':Rat)(Y' P':List Rat):(Int×Int×Nat) ⊕ (List Rat×List Rat):=
 match prunQ lim T Y P T' Y' P' t.Code 0 [] [] with
 | .inl e=>.inl e
 | .inr l=>.inr (t.Aw.map λo=>l.1.getD o.toNat 0,t.Aw.map λo=>l.2.getD o.toNat 0)
theorem Qw6{vs ds:List Rat}(h:ds.length=vs.length)(q:vs.length<=1000000):Qkr (toR vs) (toR ds)=some (toDD vs ds,true):=by
 unfold Qkr;rw[Jl,Jl,oo om,ov,bifF];rw[Qbe (λi=>toDD (vs.take i) (ds.take i)) (toR vs)];rw[Jl,xh,<-h,xh];show some _=_;rfl;intro i x e;have hi:=J8 e;rw[Jl] at hi;have f:vs[i]?=some vs[i]:=oi hi;have j:ds[i]?=some (ds[i]' om):=oi _;generalize vs[i]=v at f;generalize ds[i]' om=d at j;have l:x=toF v:=by
  unfold toR at e;rw[xr,f] at e;exact(Option.some.inj e).symm
 have a:(ds.take i).length=(vs.take i).length:=by rw[xi,xi,h]
 have m:(vs.take i).length<=vs.length:=by rw[xi];omega
 rw[Jd (show(toR ds)[i]?=some (toF d) by unfold toR;rw[xr,j];rfl),sbind,J9 (by rw[Qqm a];simp;omega) (by rw[Qqm a];simp;omega),sbind,l,show(⟨toF v,toF d⟩:Q5)=toD v d from rfl,Q8k a,Q7c f,Q7c j];rfl
theorem Q5g{n k:Nat}{t:Qp}{p q:V5}{bits:Int}(hn:big<=n)(C:129<=k)(hk:k<1048576)(E:Q0d n k t)(A:Fk k p.T)(B:FR k p.Y)(x:FR k p.P)(d:Fk k q.T)(f:FR k q.Y)(a:FR k q.P)(F:(p.Y.length:Int)=t.Ax)(hp:(p.P.length:Int)=t.A1)(m:q.Y.length=p.Y.length)(j:q.P.length=p.P.length):
 Qln n t p q bits=some (match pfieldQ t (min (max bits 0) 4096) (fv p.T) (rv p.Y) (rv p.P) (fv q.T) (rv q.Y) (rv q.P) with | .inl e=>([],[],⟨e.1,0,e.2.1,(e.2.2:Int)⟩) | .inr l=>(toR l.1,toR l.2,⟨0,0,0,0⟩)):=by
 obtain⟨r,h,w⟩:=E;have hd:=r.1;obtain⟨⟨I,J⟩,⟨K,L⟩,M,N⟩:=hd;have eT:=qw_fv A om;have eY:=QR_rv B om;have eP:=QR_rv x om;have eT':=qw_fv d om;have eY':=QR_rv f om;have eP':=QR_rv a om;unfold Qln Qqq Qga X5;simp only[jn_eq];rw[Vs hn (Fk_Fw A om),sbind,Qct hn om B om,sbind,Qct hn om x om,sbind,sbind,Vs hn (Fk_Fw d om),sbind,Qct hn om f om,sbind,Qct hn om a om,sbind,sbind];simp only[];rw[Qw6 (by rw[Jn,Jn];exact m) (by rw[Jn];omega),sbind,Qw6 (by rw[Jn,Jn];exact j) (by rw[Jn];omega),sbind];simp only[ov,bifF,sbind];obtain⟨O,e⟩:=Jhn (g:=⟨⟨0,0⟩,min (max bits 0) 4096⟩) hn C hk r h w eT eY eP eT' eY' eP' (by rw[Jn,Jn];exact m) (by rw[Jn,Jn];exact j) (by rw[Jn];exact F) (by rw[Jn];exact hp) (by simp only[];omega);rw[show(⟨toF (fv p.T),toF (fv q.T)⟩:Q5)=toD (fv p.T) (fv q.T) from rfl,e,sbind];unfold pfieldQ;simp only[];cases hr:prunQ (min (max bits 0) 4096) (fv p.T) (rv p.Y) (rv p.P) (fv q.T) (rv q.Y) (rv q.P) t.Code 0 [] [] with
 | inl q=>
   have hk:=Qx6 hr;simp only[];rw[sbind];simp only[];rw[K9 om,ow,bifT]
 | inr l=>
   obtain⟨G,H,Q,R⟩:=Q3m om (λ_ h=>by cases h) (λ_ h=>by cases h) rfl hr;have P:l.1.length=t.Code.length:=by simpa using G
   simp only[];rw[sbind];simp only[];rw[Kz,ov,bifF];rw[Qbe (λi=>(toR ((t.Aw.take i).map λo=>l.1.getD o.toNat 0),toR ((t.Aw.take i).map λo=>l.2.getD o.toNat 0))) t.Aw];rw[xh];rfl;intro i o s;have hb:=r.2.2 o (Jw s);have hi:=J8 s;rw[Qq7 H hb.1 om,sbind,J9 (by simp only[Jl,ot,xi,xn,ye];omega) (by simp only[Jl,ot,xi,xn,ye];omega),sbind,sbind,J9 (by simp only[Jl,ot,xi,xn,ye];omega) (by simp only[Jl,ot,xi,xn,ye];omega),sbind,Q7c s];simp only[yx,yz,List.map_nil];rw[<-Q2y,<-Q2y];rfl;rfl
theorem Q5h{t:Qp}{lim T Y P T' Y' P' l}(a:lim<=4096)(h:pfieldQ t lim T Y P T' Y' P'=.inr l):l.1.length=t.Aw.length/\l.2.length=t.Aw.length/\QR 129 l.1/\QR 129 l.2:=by
 unfold pfieldQ at h;cases hr:prunQ lim T Y P T' Y' P' t.Code 0 [] [] with
 | inl q=>rw[hr] at h;cases h
 | inr l'=>
   rw[hr] at h;cases h;obtain⟨i,j,e,f⟩:=Q3m a (λ_ h=>by cases h) (λ_ h=>by cases h) rfl hr;refine⟨oc,oc,λq d=>?_,λq d=>?_⟩;obtain⟨o,_,rfl⟩:=xy.1 d;exact Vt e om;obtain⟨o,_,rfl⟩:=xy.1 d;exact Vt f om
theorem Q0q{t:Qp}{lim T Y P T' Y' P' e}(h:pfieldQ t lim T Y P T' Y' P'=.inl e):e.1=3\/e.1=6:=by
 unfold pfieldQ at h;cases hr:prunQ lim T Y P T' Y' P' t.Code 0 [] [] with
 | inl q=>rw[hr] at h;cases h;exact Qx6 hr
 | inr l'=>rw[hr] at h;cases h
set_option maxRecDepth 100000
def tstageQ(t:Qp)(lim:Int)(T H:Rat)(U V P:List Rat)(y a:List Rat)(c:Rat)(i:Nat)(kss:List (List Rat)):Qe ⊕ List Rat:=
 match fitQ lim (fromQ H U a kss) 0 with
 | some j=>.inl ⟨6,0,(i:Int),300+(j:Int)⟩
 | none=>match pfieldQ t lim (T+H*c) y P 0 (fromQ H U a kss) V with
   | .inl e=>.inl ⟨e.1,0,(i:Int),(e.2.2:Int)⟩
   | .inr k=>.inr k.2
def tstagesQ(t:Qp)(lim:Int)(T H:Rat)(U V P:List Rat):List ((List Rat×Rat)×List Rat)->Nat->List (List Rat)->Qe ⊕ List (List Rat)
 | [],_,kss=>.inr kss
 | x::r,i,kss=>match tstageQ t lim T H U V P x.2 x.1.1 x.1.2 i kss with
   | .inl f=>.inl f
   | .inr k=>tstagesQ t lim T H U V P r (i+1) (kss++[k])
def tendQ(s:Q1)(lim:Int)(H:Rat)(U:List Rat)(kss:List (List Rat)):Qe ⊕ (List Rat×List Rat):=
 match fitQ lim (fromQ H U (rv s.B) kss) 0 with
 | some j=>.inl ⟨6,0,(s.B.length:Int),300+(j:Int)⟩
 | none=>match fitQ lim (if gapQ s=[] then [] else towQ H U.length (gapQ s) kss) 0 with
   | some j=>.inl ⟨6,0,(s.B.length:Int)+1,300+(j:Int)⟩
   | none=>.inr (fromQ H U (rv s.B) kss,if gapQ s=[] then [] else towQ H U.length (gapQ s) kss)
def tdoQ(t:Qp)(s:Q1)(lim:Int)(T H:Rat)(U V P:List Rat)(yss:List (List Rat)):Qe ⊕ (List Rat×List Rat):=
 match tstagesQ t lim T H U V P (List.zip (pairQ s) yss) 0 [] with
 | .inl f=>.inl f
 | .inr kss=>tendQ s lim H U kss
section
variable {n k:Nat}{p:Qg}{t h:Qa}{y u v:List Qa}{g:Qj}{md:Jo}{ks:List (List Qa)}
theorem Q8l{c:List Qa}{kss:List (List Rat)}(hn:big<=n)(h0:129<=k)(hk:k<16384)(q:Fk k h)(m:FR k c)(e:∀ a∈kss,QR 129 a)(r:kss.length<=8)(i:c.length=kss.length)(d:∀ a∈kss,a.length=u.length)(x:u.length<=6):
 Xs n p t h u v md (toRR kss) g c=some (toR (towQ (fv h) u.length (rv c) kss)):=by
 unfold Xs;rw[Qtc,Q0c (j:=k) (k:=129) hn om om om om m (Qx0 λa f=>K2 (e a f)) om (by rw[Qbg];omega),sbind,oq ⟨by rw[Qbg,i],Qx0 λa f=>by rw[Jl];exact d a f⟩];rw[Jdu];have s:=Qtb (z:=List.replicate u.length 0) (QR_rv m om) e (Qpo u.length);have w:kss.length*(k+129+1)<=8*(k+129+1):=xc _ r;have l:=Qgv (cs:=rv c) d (show(List.replicate u.length (0:Rat)).length=u.length by simp);rw[Qab (k:=20*k) hn om om (Wf q om) (K2 (Q8 s om)) (by rw[Jl,l];omega),sbind,Vj];rfl
theorem Q5i{c:List Qa}{kss:List (List Rat)}(hn:big<=n)(h0:129<=k)(hk:k<16384)(q:Fk k h)(j:FR k u)(l:FR k c)(e:∀ a∈kss,QR 129 a)(r:kss.length<=8)(f:c.length=kss.length)(d:∀ a∈kss,a.length=u.length)(s:u.length<=6):
 Qav n p t h u v md (toRR kss) g c=some (toR (fromQ (fv h) (rv u) (rv c) kss)):=by
 unfold Qav;have hb:=Qsf (m:=u.length) (qw_fv q om) (QR_rv l om) e r h0;have i:=Qqd (H:=fv h) (c:=rv c) d;rw[Q8l hn h0 hk q l e r f d s,sbind,Qb2 (k:=20*k) hn om om (K4 j om) (K2 hb) om,sbind,Jl,i,oq rfl,Vj];unfold fromQ;rw[Jn]
theorem Qx7{l:List Rat}{x2:Int}(hn:big<=n)(i:QR 1099511627775 l)(m:l.length<=1000):
 ∃ a,a.limit=g.limit/\Ye n p t h u v md ks g (toR l) x2=some (match fitQ g.limit l 0 with | none=>(⟨0,0,0,0⟩,a) | some j=>(⟨6,0,x2,300+(j:Int)⟩,a)):=by
 obtain⟨a,d,e⟩:=Qtd (g:=g) hn i;refine⟨a,d,?_⟩;unfold Ye;rw[e,sbind];cases f:fitQ g.limit l 0 with
 | none=>rfl
 | some j=>
   have:=Qjl f;simp only[ow,bifT];rw[w64 om om]
theorem Jnl{k:Nat}:Fk k ⟨⟨false,[]⟩,[]⟩:=⟨(λ_ h=>by cases h),yb _,(λ_ h=>by cases h),yb _⟩
theorem Jnm:fv ⟨⟨false,[]⟩,[]⟩=0:=by decide +kernel
theorem Jc9{i:Nat}{a:List Qa}{c:Qa}{m:List Rat}{kss yss:List (List Rat)}{ks0:List (List Qa)}{nx er:List Qa}(hn:big<=n)(h0:129<=k)(hk:k<16384)(ok:PrbOK n k p t h y)(Q:FR k u)(J:u.length=y.length)(hv:FR k v)(K:v.length=p.P.length)(X:g.limit=limQ p.Av)
 (s:p.Aq.A[i]?=some a) (O:p.Aq.C[i]?=some c) (L:yss[i]?=some m) (M:QR 129 m) (R:m.length=y.length) (B:∀ a∈kss,QR 129 a) (hki:kss.length=i) (I:∀ a∈kss,a.length=y.length) :
 ∃ F,F.limit=g.limit/\∃ r,Qbo n p t h u v ⟨toRR yss,ks0,nx,er⟩ (toRR kss) g (i:Int)=some r /\
   match tstageQ p.Tape (limQ p.Av) (fv t) (fv h) (rv u) (rv v) (rv p.P) m (rv a) (fv c) i kss with
   | .inl f=>r.1=f/\f.Au≠0
   | .inr z=>r=(⟨0,0,0,0⟩,p,t,h,u,v,⟨toRR yss,ks0,nx,er⟩,toRR (kss++[z]),F)/\QR 129 z/\z.length=y.length:=by
 obtain⟨⟨d1,d2⟩,⟨d3,d4⟩,d5,d6⟩:=ok.tp.r.1;obtain⟨⟨g1,g2⟩,g3,g4,g5,U⟩:=ok.sr.2.1;have hi:=J8 s;have hyl:=ok.yl;have hpl:=ok.pl;have w:=ok.sw.a a (Jw s);have A:=ok.sw.c c (Jw O);have W:=U i a s;have d:∀ a∈kss,a.length=u.length:=λa s=>by rw[J];exact I a s
 have hb:=Qqc (QR_rv Q om) (qw_fv ok.hk om) (QR_rv w om) B om h0;have G:=Qik (H:=fv h) (Y:=rv u) (c:=rv a) (kss:=kss) (by rw[Jn];exact d);rw[Jn] at G;unfold Qbo;rw[Jd s,sbind,Q5i hn h0 hk ok.hk Q w B om om d om,sbind];obtain⟨F,S,T⟩:=Qx7 (p:=p) (t:=t) (h:=h) (u:=u) (v:=v) (g:=g) (md:=⟨toRR yss,ks0,nx,er⟩) (ks:=toRR kss) (x2:=(i:Int)) hn (Q8 hb (show 22*k<=1099511627775 by omega)) om;refine⟨F,S,?_⟩;rw[T,sbind,X];unfold tstageQ;cases hf:fitQ (limQ p.Av) (fromQ (fv h) (rv u) (rv a) kss) 0 with
 | some j=>
   simp only[];rw[K9 oz,ow,bifT];exact⟨_,rfl,rfl,oz⟩
 | none=>
   simp only[];rw[Kz,ov,bifF];have E:=Xl (qw_fv ok.hk om) (qw_fv A om);have N:=Yz (qw_fv ok.tk om) E;rw[Qvs hn h0 hk ok.tk ok.hk A O,sbind,Jd (show(toRR yss)[i]?=some (toR m) by unfold toRR;rw[xr,L];rfl),sbind];have V:=Q5g (k:=22*k) (t:=p.Tape) (p:=⟨toF (fv t+fv h*fv c),toR m,p.P⟩) (q:=⟨⟨⟨false,[]⟩,[]⟩,toR (fromQ (fv h) (rv u) (rv a) kss),v⟩) (bits:=p.Av) hn om om ⟨ok.tp.r,ok.tp.h,λx hx=>Wf (ok.tp.w x hx) om⟩ (Jq om) (K2 (Q8 M om)) (K4 ok.pk om) Jnl (K2 hb) (K4 hv om) (by simp only[Jl];omega) ok.pl (by simp only[Jl];omega) K;rw[V,sbind];simp only[];rw[Jc,Vj,Vj,Jnm];have C:limQ p.Av=min (max p.Av 0) 4096:=rfl;rw[C];cases P:pfieldQ p.Tape (min (max p.Av 0) 4096) (fv t+fv h*fv c) m (rv p.P) 0 (fromQ (fv h) (rv u) (rv a) kss) (rv v) with
   | inl e=>
     have Z:=Q0q P;simp only[];rw[K9 om,ow,bifT];exact⟨_,rfl,rfl,by show e.1≠0;omega⟩
   | inr l=>
     obtain⟨q1,q2,q3,q4⟩:=Q5h om P;simp only[];rw[Kz,ov,bifF,J9 (by rw[Qbg];simp;omega) (by rw[Qbg];simp;omega),sbind];refine⟨_,rfl,?_,q4,om⟩;unfold toRR;rw[yx];rfl
theorem Jho{s:Q1}{yss:List (List Rat)}{i:Nat}{a:List Qa}{c:Qa}{e:List Rat}(f:s.A[i]?=some a)(j:s.C[i]?=some c)(l:yss[i]?=some e):(List.zip (pairQ s) yss).drop i=((rv a,fv c),e)::(List.zip (pairQ s) yss).drop (i+1):=by
 have d:(List.zip (pairQ s) yss)[i]?=some ((rv a,fv c),e):=by rw[gy];refine⟨?_,l⟩;unfold pairQ rv;rw[gy];simp only[xr];exact⟨by rw[f];rfl,by rw[j];rfl⟩
 have hi:=J8 d;rw[xe hi];congr 1;rw[oi hi] at d;exact Option.some.inj d
abbrev TiS:=Qg×Qa×Qa×(List Qa)×(List Qa)×Jo×(List (List Qa))×Qj
abbrev TiR:=Kd×Qe×Qg×Qa×Qa×(List Qa)×(List Qa)×Jo×(List (List Qa))×Qj
def noMv:Kd:=⟨[],[],⟨[],[],[],[]⟩⟩
def tiBody(n:Nat)(e:Nat)(_:Qa)(d:TiS):Option (Lp TiS TiR):=
    (Qbo n d.1 d.2.1 d.2.2.1 d.2.2.2.1 d.2.2.2.2.1 d.2.2.2.2.2.1 d.2.2.2.2.2.2.1 d.2.2.2.2.2.2.2 (e:Int)).bind λa=>
    bif !(Qx a.1 (⟨0,0,0,0⟩:Qe)) then (
     some (Lp.out (((⟨[],[],(⟨[],[],[],[]⟩:Jo)⟩:Kd),a.1,a.2.1,a.2.2.1,a.2.2.2.1,a.2.2.2.2.1,a.2.2.2.2.2.1,a.2.2.2.2.2.2.1,a.2.2.2.2.2.2.2.1,a.2.2.2.2.2.2.2.2))))
    else (
     some (Lp.go (a.2.1,a.2.2.1,a.2.2.2.1,a.2.2.2.2.1,a.2.2.2.2.2.1,a.2.2.2.2.2.2.1,a.2.2.2.2.2.2.2.1,a.2.2.2.2.2.2.2.2)))
def tiFin(n:Nat)(x0_p:Qg)(a:TiS)(g:Qj)(e:Kd):Option TiR:=
 (Ye n a.1 a.2.1 a.2.2.1 a.2.2.2.1 a.2.2.2.2.1 a.2.2.2.2.2.1 a.2.2.2.2.2.2.1 g e.A4 (wrap64 ((x0_p.Aq.B.length:Int)+(1:Int)))).bind λd=>
 bif !(Qx d.1 (⟨0,0,0,0⟩:Qe)) then (
  some ((⟨[],[],(⟨[],[],[],[]⟩:Jo)⟩:Kd),d.1,a.1,a.2.1,a.2.2.1,a.2.2.2.1,a.2.2.2.2.1,a.2.2.2.2.2.1,a.2.2.2.2.2.2.1,d.2))
 else (
  some (e,(⟨0,0,0,0⟩:Qe),a.1,a.2.1,a.2.2.1,a.2.2.2.1,a.2.2.2.2.1,a.2.2.2.2.2.1,a.2.2.2.2.2.2.1,d.2))
def tiEnd(n:Nat)(x0_p:Qg)(x0_made:Jo)(a:TiS):Option TiR:=
 (Qav n a.1 a.2.1 a.2.2.1 a.2.2.2.1 a.2.2.2.2.1 a.2.2.2.2.2.1 a.2.2.2.2.2.2.1 a.2.2.2.2.2.2.2 x0_p.Aq.B).bind λe=>
 (Ye n a.1 a.2.1 a.2.2.1 a.2.2.2.1 a.2.2.2.2.1 a.2.2.2.2.2.1 a.2.2.2.2.2.2.1 a.2.2.2.2.2.2.2 e (x0_p.Aq.B.length:Int)).bind λd=>
 bif !(Qx d.1 (⟨0,0,0,0⟩:Qe)) then (
  some ((⟨[],[],(⟨[],[],[],[]⟩:Jo)⟩:Kd),d.1,a.1,a.2.1,a.2.2.1,a.2.2.2.1,a.2.2.2.2.1,a.2.2.2.2.2.1,a.2.2.2.2.2.2.1,d.2))
 else (
  jn (λ(f:(Kd)->Option _)=>
   (Qfa n x0_p.Aq).bind λi=>
   bif decide ((0:Int)<(i.length:Int)) then (
    (Xs n a.1 a.2.1 a.2.2.1 a.2.2.2.1 a.2.2.2.2.1 a.2.2.2.2.2.1 a.2.2.2.2.2.2.1 d.2 i).bind λj=>
    f ⟨e,j,x0_made⟩)
   else (
    f ⟨e,[],x0_made⟩)) (tiFin n x0_p a d.2))
theorem Jhp(ks):Qeq n p t h u v md ks g=(rangeL (tiBody n) p.Aq.B 0 (p,t,h,u,v,md,ks,g)).bind (lpK (tiEnd n p md)):=vw (vw rfl)
theorem Jhq{yss:List (List Rat)}{ks0:List (List Qa)}{nx er:List Qa}(hn:big<=n)(h0:129<=k)(hk:k<8000)(ok:PrbOK n k p t h y)(Z:FR k u)(P:u.length=y.length)(hv:FR k v)(hvl:v.length=p.P.length)(L:g.limit=limQ p.Av)
 (hys:∀ a∈yss,QR 129 a/\a.length=y.length) (hysl:yss.length=p.Aq.B.length) :
 ∃ r,Qeq n p t h u v ⟨toRR yss,ks0,nx,er⟩ [] g=some r /\
   match tdoQ p.Tape p.Aq (limQ p.Av) (fv t) (fv h) (rv u) (rv v) (rv p.P) yss with
   | .inl f=>r.1=noMv/\r.2.1=f/\f.Au≠0
   | .inr z=>r.1=⟨toR z.1,toR z.2,⟨toRR yss,ks0,nx,er⟩⟩/\r.2.1=⟨0,0,0,0⟩/\QR 129 z.1/\z.1.length=u.length:=by
 obtain⟨⟨d1,d2⟩,⟨d3,d4⟩,d5,d6⟩:=ok.tp.r.1;obtain⟨⟨g1,g2⟩,g3,g4,E,g6⟩:=ok.sr.2.1;have hyl:=ok.yl;rw[Jhp]
 have key:∀(A:List Qa) (i:Nat) (g:Qj) (kss:List (List Rat)) (K:TiS->Option TiR),
  i+A.length=p.Aq.B.length->kss.length=i->(∀ a∈kss,QR 129 a)->(∀ a∈kss,a.length=y.length)->g.limit=limQ p.Av ->
  match tstagesQ p.Tape (limQ p.Av) (fv t) (fv h) (rv u) (rv v) (rv p.P) ((List.zip (pairQ p.Aq) yss).drop i) i kss with
  | .inl f=>∃ r,(rangeL (tiBody n) A i (p,t,h,u,v,⟨toRR yss,ks0,nx,er⟩,toRR kss,g)).bind (lpK K)=some r/\r.1=noMv/\r.2.1=f/\f.Au≠0
  | .inr z=>∃ q,q.limit=limQ p.Av/\(rangeL (tiBody n) A i (p,t,h,u,v,⟨toRR yss,ks0,nx,er⟩,toRR kss,g)).bind (lpK K)=K (p,t,h,u,v,⟨toRR yss,ks0,nx,er⟩,toRR z,q)/\z.length=p.Aq.B.length/\(∀ a∈z,QR 129 a)/\∀ a∈z,a.length=y.length:=by
  intro A
  induction A with
  | nil=>
    intro i g kss K hi N S R L;simp only[ye,xp] at hi;have l:(List.zip (pairQ p.Aq) yss).drop i=[]:=by apply td;rw[gz];omega
    rw[l];simp only[tstagesQ];exact⟨g,L,rfl,om,S,R⟩
  | cons b A ih=>
    intro i g kss K hi N S R L;rw[xn] at hi;have d:p.Aq.A[i]?=some (p.Aq.A[i]' om):=oi om;have X:p.Aq.C[i]?=some (p.Aq.C[i]' om):=oi om;have w:yss[i]?=some (yss[i]' om):=oi om;have x:=hys (yss[i]' om) (xa _);generalize p.Aq.A[i]' om=a at d;generalize p.Aq.C[i]' om=c at X;generalize yss[i]' om=yi at w x;rw[Jho d X w];simp only[tstagesQ,rangeL];obtain⟨q,e1,r,U,C⟩:=Jc9 (g:=g) (ks0:=ks0) (nx:=nx) (er:=er) hn h0 om ok Z P hv hvl L d X w x.1 x.2 S N R
    have eb:tiBody n i b (p,t,h,u,v,⟨toRR yss,ks0,nx,er⟩,toRR kss,g)=(bif !(Qx r.1 (⟨0,0,0,0⟩:Qe)) then (
     some (Lp.out ((noMv,r.1,r.2.1,r.2.2.1,r.2.2.2.1,r.2.2.2.2.1,r.2.2.2.2.2.1,r.2.2.2.2.2.2.1,r.2.2.2.2.2.2.2.1,r.2.2.2.2.2.2.2.2))))
     else (
      some (Lp.go (r.2.1,r.2.2.1,r.2.2.2.1,r.2.2.2.2.1,r.2.2.2.2.2.1,r.2.2.2.2.2.2.1,r.2.2.2.2.2.2.2.1,r.2.2.2.2.2.2.2.2)))):=by
     unfold tiBody;rw[U,sbind];rfl
    rw[eb];cases hs:tstageQ p.Tape (limQ p.Av) (fv t) (fv h) (rv u) (rv v) (rv p.P) yi (rv a) (fv c) i kss with
    | inl f=>
      rw[hs] at C;obtain⟨B,Q⟩:=C;obtain⟨⟨f1,f2,f3,f4⟩,r⟩:=r;simp only[] at B;subst B;simp only[];rw[K9 Q,ow,bifT,sbind];exact⟨_,rfl,rfl,rfl,Q⟩
    | inr z=>
      rw[hs] at C;obtain⟨B,Q,e6⟩:=C;subst B;simp only[];rw[Kz,ov,bifF,sbind]
      exact ih (i+1) q (kss++[z]) K om oh (λa d=>by
       rcases yr.1 d with d | d;exact S a d;rw[xj.1 d];exact Q) (λa d=>by
       rcases yr.1 d with d | d;exact R a d
       rw[xj.1 d];exact e6) om
 have F:=key p.Aq.B 0 g [] (tiEnd n p ⟨toRR yss,ks0,nx,er⟩) om rfl (λ_ h=>by cases h) (λ_ h=>by cases h) L;unfold tdoQ;rw[dy] at F;cases hs:tstagesQ p.Tape (limQ p.Av) (fv t) (fv h) (rv u) (rv v) (rv p.P) (List.zip (pairQ p.Aq) yss) 0 [] with
 | inl f=>
   rw[hs] at F;exact F
 | inr kss=>
   rw[hs] at F;obtain⟨q,q1,q2,q4,T,q6⟩:=F;simp only[];rw[show([]:List (List Qa))=toRR [] from rfl,q2];unfold tiEnd;simp only[];have m:∀ a∈kss,a.length=u.length:=λa d=>by rw[P];exact q6 a d
   have W:=Qqc (QR_rv Z om) (qw_fv ok.hk om) (QR_rv ok.sw.b om) T om h0;have O:=Qik (H:=fv h) (Y:=rv u) (c:=rv p.Aq.B) (kss:=kss) (by rw[Jn];exact m);rw[Jn] at O;have M:=Jbf (k:=k) (s:=p.Aq) om ok.sw;rw[Q5i hn h0 om ok.hk Z ok.sw.b T om om m om,sbind];obtain⟨e,e1,U⟩:=Qx7 (p:=p) (t:=t) (h:=h) (u:=u) (v:=v) (g:=q) (md:=⟨toRR yss,ks0,nx,er⟩) (ks:=toRR kss) (x2:=(p.Aq.B.length:Int)) hn (Q8 W (show 22*k<=1099511627775 by omega)) om;rw[U,sbind,q1];unfold tendQ;cases hf:fitQ (limQ p.Av) (fromQ (fv h) (rv u) (rv p.Aq.B) kss) 0 with
   | some j=>
     simp only[];rw[K9 oz,ow,bifT];exact⟨_,rfl,rfl,rfl,oz⟩
   | none=>
     simp only[];rw[Kz,ov,bifF,jn_eq,Qum hn om om ok.sw ok.sr,sbind,Jl];have hE:((Xs n p t h u v ⟨toRR yss,ks0,nx,er⟩ (toRR kss) e (toR (gapQ p.Aq)))=some (toR (towQ (fv h) u.length (gapQ p.Aq) kss))\/gapQ p.Aq=[])/\QR (41*k+1000) (if gapQ p.Aq=[] then [] else towQ (fv h) u.length (gapQ p.Aq) kss)/\(if gapQ p.Aq=[] then [] else towQ (fv h) u.length (gapQ p.Aq) kss).length<=1000:=by
      by_cases l:gapQ p.Aq=[]
      rw[oq l];exact⟨.inr l,λ_ h=>(by cases h),oc⟩;have J:p.Aq.E.length=p.Aq.B.length:=by rcases E with E | E;exact E;exact absurd (by unfold gapQ;rw[oq (xd E)]) l
      have hgl:(gapQ p.Aq).length=p.Aq.B.length:=by unfold gapQ;rw[ol (λh=>by rw[h] at J;simp at J;omega),Zu,Z1,Jn,Jn];omega
      rw[ol l];have ht:=Q8l (k:=2*k+2) (p:=p) (t:=t) (h:=h) (u:=u) (v:=v) (g:=e) (md:=⟨toRR yss,ks0,nx,er⟩) (c:=toR (gapQ p.Aq)) (kss:=kss) hn om om (Wf ok.hk om) (K2 M) T om (by rw[Jl];omega) m om;rw[Vj] at ht;refine⟨.inl ht,Q8 (Qsf (k:=2*k+2) (xo (qw_fv ok.hk om) om) M T om om) om,?_⟩;rw[Qqd m];omega
     obtain⟨V,G,I⟩:=hE;have hj:∀ {β:Type}(f:Kd->Option β),(bif decide ((0:Int)<((gapQ p.Aq).length:Int)) then (Xs n p t h u v ⟨toRR yss,ks0,nx,er⟩ (toRR kss) e (toR (gapQ p.Aq))).bind λr34=>f ⟨toR (fromQ (fv h) (rv u) (rv p.Aq.B) kss),r34,⟨toRR yss,ks0,nx,er⟩⟩ else f ⟨toR (fromQ (fv h) (rv u) (rv p.Aq.B) kss),[],⟨toRR yss,ks0,nx,er⟩⟩)=f ⟨toR (fromQ (fv h) (rv u) (rv p.Aq.B) kss),toR (if gapQ p.Aq=[] then [] else towQ (fv h) u.length (gapQ p.Aq) kss),⟨toRR yss,ks0,nx,er⟩⟩:=by
      intro β f;by_cases l:gapQ p.Aq=[]
      rw[oq l,l];rfl;have:(gapQ p.Aq).length≠0:=λh=>l (xd h);rw[ol l,oo om,bifT,V.resolve_right l,sbind]
     rw[hj (tiFin n p (p,t,h,u,v,⟨toRR yss,ks0,nx,er⟩,toRR kss,q) e)];unfold tiFin;rw[w1 om,Jn];generalize (if gapQ p.Aq=[] then [] else towQ (fv h) u.length (gapQ p.Aq) kss)=er' at G I |-;simp only[];obtain⟨g3',C,B⟩:=Qx7 (p:=p) (t:=t) (h:=h) (u:=u) (v:=v) (g:=e) (md:=⟨toRR yss,ks0,nx,er⟩) (ks:=toRR kss) (x2:=((p.Aq.B.length+1:Nat):Int)) hn (Q8 G (show 41*k+1000<=1099511627775 by omega)) I;rw[B,sbind,show e.limit=limQ p.Av by omega];cases hf2:fitQ (limQ p.Av) er' 0 with
     | some j=>
       simp only[];rw[K9 oz,ow,bifT];exact⟨_,rfl,rfl,rfl,by show(6:Int)≠0;decide⟩
     | none=>
       simp only[];rw[Kz,ov,bifF];exact⟨_,rfl,rfl,rfl,Qmh (by unfold limQ;omega) hf,O⟩
end
noncomputable def tiltQ(p:Qg)(T H:Rat)(Y U V:List Rat):Qe ⊕ (MadeQ×List Rat×List Rat):=
 match stepQ p T H Y with
 | .inl f=>if f.Au=2\/U.length≠Y.length\/V.length≠p.P.length then .inl ⟨2,0,0,0⟩ else .inl f
 | .inr z=>if U.length≠Y.length\/V.length≠p.P.length then .inl ⟨2,0,0,0⟩ else match tdoQ p.Tape p.Aq (limQ p.Av) T H U V (rv p.P) z.ys with
   | .inl f=>.inl f
   | .inr w=>.inr (z,w.1,w.2)
theorem Q1t{n k:Nat}{p:Qg}{t h:Qa}{y u v:List Qa}(hn:big<=n)(h0:129<=k)(hk:k<8000)(A:PrbW k p)(x:Fk k t)(s:Fk k h)(B:FR k y)(K:FR k u)(L:FR k v):
 Qgi n p t h y u v=some (match tiltQ p (fv t) (fv h) (rv y) (rv u) (rv v) with | .inl f=>(noMv,f) | .inr z=>(⟨toR z.2.1,toR z.2.2,toM z.1⟩,⟨0,0,0,0⟩))/\(∀ f,tiltQ p (fv t) (fv h) (rv y) (rv u) (rv v)=.inl f->f.Au≠0)/\∀ z,tiltQ p (fv t) (fv h) (rv y) (rv u) (rv v)=.inr z->stepQ p (fv t) (fv h) (rv y)=.inr z.1/\QR 129 z.2.1/\z.2.1.length=y.length/\u.length=y.length/\v.length=p.P.length:=by
 obtain⟨E,F⟩:=Qpp hn h0 hk A x s B;unfold Qgi tiltQ;simp only[jn_eq];rw[E,sbind];cases hs:stepQ p (fv t) (fv h) (rv y) with
 | inl f=>
   have q:=F f hs;obtain⟨I,P,f3,f4⟩:=f;simp only[];rw[Jn,Jn,Jn,bifd];by_cases c1:I=2
   . rw[oq c1,oq (Or.inl c1)]
     exact⟨rfl,(λf h=>by cases h;show(2:Int)≠0;decide),λz h=>by cases h⟩
   rw[ol c1];by_cases d:u.length=y.length
   case neg=>
    rw[oj (show ¬(u.length:Int)=(y.length:Int) by omega),oq (.inr (.inl d))];exact⟨rfl,(λf h=>by cases h;show(2:Int)≠0;decide),λz h=>by cases h⟩
   rw[oo (show(u.length:Int)=(y.length:Int) by omega),ov,bifF];by_cases e:v.length=p.P.length
   case neg=>
    rw[oj (show ¬(v.length:Int)=(p.P.length:Int) by omega),oq (.inr (.inr e))];exact⟨rfl,(λf h=>by cases h;show(2:Int)≠0;decide),λz h=>by cases h⟩
   rw[oo (show(v.length:Int)=(p.P.length:Int) by omega),ov,bifF,K9 q,ow,bifT,ol (by rintro(g | g | g)<;>contradiction)];exact⟨rfl,(λf h=>by cases h;exact q),λz h=>by cases h⟩
 | inr z=>
   obtain⟨M,C,Q,R,S⟩:=Qex hs;obtain⟨N,O⟩:=Qx1 hs;rw[Jn] at C;simp only[];rw[Jn,Jn,Jn,show decide ((0:Int)=2)=false from rfl,bifF];by_cases d:u.length=y.length
   case neg=>
    rw[oj (show ¬(u.length:Int)=(y.length:Int) by omega),oq (.inl d)];exact⟨rfl,(λf h=>by cases h;show(2:Int)≠0;decide),λz h=>by cases h⟩
   rw[oo (show(u.length:Int)=(y.length:Int) by omega),ov,bifF];by_cases e:v.length=p.P.length
   case neg=>
    rw[oj (show ¬(v.length:Int)=(p.P.length:Int) by omega),oq (.inr e)];exact⟨rfl,(λf h=>by cases h;show(2:Int)≠0;decide),λz h=>by cases h⟩
   rw[oo (show(v.length:Int)=(p.P.length:Int) by omega),ov,bifF,Kz,ov,bifF,ol (by rintro(g | g)<;>contradiction)];unfold X5;rw[sbind];have ok:=A.ok hn hk M x s B C;obtain⟨r,G,i⟩:=Jhq (g:=⟨⟨0,0⟩,min (max p.Av 0) 4096⟩) (yss:=z.ys) (ks0:=toRR z.ks) (nx:=toR z.next) (er:=toR z.err) hn h0 hk ok K d L e rfl (λa J=>by have:=N a J;rwa [Jn] at this) O;rw[show toM z=⟨toRR z.ys,toRR z.ks,toR z.next,toR z.err⟩ from rfl,G,sbind];cases hd:tdoQ p.Tape p.Aq (limQ p.Av) (fv t) (fv h) (rv u) (rv v) (rv p.P) z.ys with
   | inl f=>
     rw[hd] at i;obtain⟨j,l,m⟩:=i;refine⟨by simp only[];rw[j,l],(λf h=>by cases h;exact m),λz h=>by cases h⟩
   | inr w=>
     rw[hd] at i;obtain⟨j,l,m,H⟩:=i;refine⟨by simp only[];rw[j,l];rfl,(λf h=>by cases h),λz h=>by cases h;exact⟨rfl,m,H.trans d,d,e⟩⟩
set_option maxRecDepth 100000
def linQ(c:Rat)(a b:List Rat):List Rat:=List.zipWith (λx y=>c*x+y) a b
theorem Jea{c:Rat}{a b:List Rat}(h:b.length=a.length):(linQ c a b).length=a.length:=by unfold linQ;rw[List.length_zipWith,h,dt]
theorem Jjf{c:Rat}{a b:List Rat}{i:Nat}(h:b.length=a.length):(linQ c a b).getD i 0=c*a.getD i 0+b.getD i 0:=by unfold linQ;rw[ou,ou,ou,jh];by_cases hi:i<a.length;rw[oi hi,oi (show i<b.length by omega)];rfl;rw[xz (show a.length<=i by omega),xz (show b.length<=i by omega)];show(0:Rat)=c*0+0;grind
theorem Q8m{s:Q1}{lim:Int}{H:Rat}{U:List Rat}{kss:List (List Rat)}{w}(h:tendQ s lim H U kss=.inr w):w.1=fromQ H U (rv s.B) kss:=by unfold tendQ at h;split at h;cases h;split at h;cases h;cases h;rfl
theorem Qvw{t:Qp}{lim:Int}{T H:Rat}{P U V:List Rat}(d:lim<=4096)(A:t.Aw.length=U.length):∀ {r:List ((List Rat×Rat)×List Rat)}{i:Nat}{k z},(∀ a∈k,a.length=U.length)->tstagesQ t lim T H U V P r i k=.inr z->∀ a∈z,a.length=U.length
 | [],i,k,z,g,h=>by simp only[tstagesQ] at h;cases h;exact g
 | x::r,i,k,z,g,h=>by
   simp only[tstagesQ] at h;cases s:tstageQ t lim T H U V P x.2 x.1.1 x.1.2 i k with
   | inl f=>rw[s] at h;cases h
   | inr w=>
     rw[s] at h;have B:w.length=U.length:=by
      unfold tstageQ at s;cases m:fitQ lim (fromQ H U x.1.1 k) 0 with
      | some j=>rw[m] at s;cases s
      | none=>
        rw[m] at s;simp only[] at s;cases hp:pfieldQ t lim (T+H*x.1.2) x.2 P 0 (fromQ H U x.1.1 k) V with
        | inl e=>rw[hp] at s;cases s
        | inr q=>rw[hp] at s;cases s;rw[(Q5h d hp).2.1];exact A
     exact Qvw d A (λa l=>by
      rcases yr.1 l with l | l;exact g a l
      rw[xj.1 l];exact B) h
theorem Jeb{p:Qg}{T H:Rat}{Y U V:List Rat}{z}(h:tiltQ p T H Y U V=.inr z):stepQ p T H Y=.inr z.1/\U.length=Y.length/\V.length=p.P.length/\tdoQ p.Tape p.Aq (limQ p.Av) T H U V (rv p.P) z.1.ys=.inr z.2:=by
 unfold tiltQ at h;cases hs:stepQ p T H Y with
 | inl f=>
   rw[hs] at h;simp only[] at h;split at h<;>cases h
 | inr w=>
   rw[hs] at h;simp only[] at h;split at h;cases h;rename_i a;cases hd:tdoQ p.Tape p.Aq (limQ p.Av) T H U V (rv p.P) w.ys with
   | inl f=>rw[hd] at h;cases h
   | inr x=>
     rw[hd] at h;cases h;refine⟨rfl,?_,?_,hd⟩;exact Decidable.not_not.1 λg=>a (.inl g);exact Decidable.not_not.1 λg=>a (.inr g)
set_option maxRecDepth 100000
theorem Q5j{n:Nat}{b:Zl}(hn:big<=n):∃ v,Qc6 n b=some v/\(v=false->FL 6 2 b.U/\FL 6 2 b.V):=by
 unfold Qc6;simp only[jn_eq];obtain⟨v,a,e⟩:=Yu (l:=b.U) (many:=6) (k:=2) hn oz;obtain⟨w,d,f⟩:=Yu (l:=b.V) (many:=6) (k:=2) hn oz;rw[show((6:Nat):Int)=6 from rfl,show((2:Nat):Int)=2 from rfl] at a d;rw[a,sbind];cases v
 case true=>exact⟨true,rfl,λh=>by cases h⟩
 rw[bifF,d,sbind];cases w
 case true=>exact⟨true,rfl,λh=>by cases h⟩
 exact⟨false,rfl,λ_=>⟨e rfl,f rfl⟩⟩
set_option maxRecDepth 100000
noncomputable def alongQ(p:Qg)(V:List Rat):List Jg->Nat->List Rat->Qe ⊕ List (List Rat)
 | [],_,_=>.inr []
 | t::l,i,U=>match tiltQ p (fv t.T) (fv t.H) (rv t.Y) U V with
   | .inl f=>.inl ⟨f.Au,((i+1:Nat):Int),f.A0,f.At⟩
   | .inr z=>match alongQ p V l (i+1) z.2.1 with
     | .inl f=>.inl f
     | .inr r=>.inr (z.2.1::r)
noncomputable def nodesQ(p:Qg)(h:Qy)(U V:List Rat):Qe ⊕ List (List Rat):=
 @ite _ (AlR p h/\U.length=h.Y.length/\V.length=p.P.length) (Classical.propDecidable _) (alongQ p V ((okT h.Ar).map nT) 0 U) (.inl ⟨2,0,0,0⟩)
theorem Q5k{p:Qg}{V:List Rat}(a:∀(t:Jg) (U:List Rat) f,tiltQ p (fv t.T) (fv t.H) (rv t.Y) U V=.inl f->f.Au≠0):∀ {l:List Jg}{i:Nat}{U:List Rat}{f},alongQ p V l i U=.inl f->f.Au≠0
 | [],i,U,f,h=>by simp only[alongQ] at h;cases h
 | t::l,i,U,f,h=>by
   simp only[alongQ] at h;cases hs:tiltQ p (fv t.T) (fv t.H) (rv t.Y) U V with
   | inl g=>rw[hs] at h;cases h;exact a t U g hs
   | inr z=>
     rw[hs] at h;simp only[] at h;cases hr:alongQ p V l (i+1) z.2.1 with
     | inl g=>rw[hr] at h;cases h;exact Q5k a hr
     | inr r=>rw[hr] at h;cases h
theorem Jhr{p:Qg}{T H:Rat}{Y U V:List Rat}{f}(h:tiltQ p T H Y U V=.inl f):f.Au≠0:=by
 unfold tiltQ at h;cases hs:stepQ p T H Y with
 | inl g=>
   rw[hs] at h;simp only[] at h;split at h;cases h;show(2:Int)≠0;decide;cases h;exact Q42 hs
 | inr z=>
   rw[hs] at h;simp only[] at h;split at h;cases h;show(2:Int)≠0;decide;cases hd:tdoQ p.Tape p.Aq (limQ p.Av) T H U V (rv p.P) z.ys with
   | inr w=>rw[hd] at h;cases h
   | inl g=>
     rw[hd] at h;cases h;unfold tdoQ at hd;have j:∀ {r:List ((List Rat×Rat)×List Rat)}{i:Nat}{k}{e:Qe},tstagesQ p.Tape (limQ p.Av) T H U V (rv p.P) r i k=.inl e->e.Au≠0:=by
      intro r
      induction r with
      | nil=>intro i k e h;simp only[tstagesQ] at h;cases h
      | cons x r d=>
        intro i k e h;simp only[tstagesQ] at h;cases s:tstageQ p.Tape (limQ p.Av) T H U V (rv p.P) x.2 x.1.1 x.1.2 i k with
        | inr w=>rw[s] at h;exact d h
        | inl g=>
          rw[s] at h;cases h;unfold tstageQ at s;split at s;cases s;show(6:Int)≠0;decide;cases hp:pfieldQ p.Tape (limQ p.Av) (T+H*x.1.2) x.2 (rv p.P) 0 (fromQ H U x.1.1 k) V with
          | inr q=>rw[hp] at s;cases s
          | inl q=>
            rw[hp] at s;cases s;have:=Q0q hp;show q.1≠0;omega
     cases a:tstagesQ p.Tape (limQ p.Av) T H U V (rv p.P) (List.zip (pairQ p.Aq) z.ys) 0 [] with
     | inl e=>rw[a] at hd;cases hd;exact j a
     | inr k=>
       rw[a] at hd;simp only[] at hd;unfold tendQ at hd;split at hd;cases hd;show(6:Int)≠0;decide;split at hd;cases hd;show(6:Int)≠0;decide;cases hd
theorem Jjg{k:Nat}{t:Jg}(h:FT k t):Fk k t.T/\Fk k t.H/\FR k t.Y:=⟨h.1 t.T oc,h.1 t.H oc,h.2.1⟩
theorem FT_nT{k:Nat}{t:Jg}(e:1<=k)(h:FT k t):FT k (nT t):=by obtain⟨a,b,c⟩:=h;refine⟨λx d=>?_,K2 (QR_rv b e),by show(toR (rv t.Y)).length<=_;rw[Jl,Jn];exact c⟩;have g:∀ y∈[t.T,t.Az,t.H,t.A4],Fk k (toF (fv y)):=λy f=>Jq (qw_fv (a y f) e);rcases xu.1 d with rfl | d;exact g t.T oc;rcases xu.1 d with rfl | d;exact g t.Az oc;rcases xu.1 d with rfl | d;exact g t.H oc;rw[xj.1 d];exact g t.A4 oc
theorem Qtm{n k:Nat}{p:Qg}{h:Qy}{u v:List Qa}(hn:big<=n)(h0:129<=k)(hk:k<8000)(R:PrbW k p)(hl:h.Ar.length<=1000)(G:∀ t∈h.Ar,FT k t)(hT:Fk k h.T)(hY:FR k h.Y)(hYl:h.Y.length<=1000)(Q:FR k u)(_:u.length<=1000)(hv:FR k v):
 Qg3 n p h u v=some (match nodesQ p h (rv u) (rv v) with | .inl f=>([],f) | .inr r=>(toRR (rv u::r),⟨0,0,0,0⟩))/\∀ r,nodesQ p h (rv u) (rv v)=.inr r->∀ a∈r,QR 129 a/\a.length<=6:=by
 have hle:=Qkg h.Ar;unfold Qg3 Qnr nodesQ;simp only[jn_eq];rw[Qmg hn h0 hk R,Qpq hn om om om G hT hY om,Jn,Jn];have noR:¬(AlR p h/\u.length=h.Y.length/\v.length=p.P.length)->∀ r,@ite (Qe ⊕ List (List Rat)) (AlR p h/\u.length=h.Y.length/\v.length=p.P.length) (Classical.propDecidable _) (alongQ p (rv v) ((okT h.Ar).map nT) 0 (rv u)) (.inl ⟨2,0,0,0⟩)=.inr r->∀ a∈r,QR 129 a/\a.length<=6:=λg r hr=>by rw[ol g] at hr;cases hr
 by_cases c1:prbR p
 case neg=>
  have g:¬(AlR p h/\u.length=h.Y.length/\v.length=p.P.length):=λg=>c1 g.1.1;exact⟨by rw[ol g,sbind,dP_f c1];rfl,noR g⟩
 by_cases e:Qee h
 case neg=>
  have g:¬(AlR p h/\u.length=h.Y.length/\v.length=p.P.length):=λg=>e g.1.2.1;exact⟨by rw[ol g,sbind,dP_t c1,bifT,sbind,dP_f e];rfl,noR g⟩
 by_cases m:(h.Y.length:Int)=p.Tape.Ax
 case neg=>
  have g:¬(AlR p h/\u.length=h.Y.length/\v.length=p.P.length):=λg=>m g.1.2.2;exact⟨by rw[ol g,sbind,dP_t c1,bifT,sbind,dP_t e,bifT,oj m];rfl,noR g⟩
 by_cases M:u.length=h.Y.length
 case neg=>
  have g:¬(AlR p h/\u.length=h.Y.length/\v.length=p.P.length):=λg=>M g.2.1;exact⟨by rw[ol g,sbind,dP_t c1,bifT,sbind,dP_t e,bifT,oo m,sbind,oj (show ¬(u.length:Int)=(h.Y.length:Int) by omega)];rfl,noR g⟩
 by_cases N:v.length=p.P.length
 case neg=>
  have g:¬(AlR p h/\u.length=h.Y.length/\v.length=p.P.length):=λg=>N g.2.2;exact⟨by rw[ol g,sbind,dP_t c1,bifT,sbind,dP_t e,bifT,oo m,sbind,oo (show(u.length:Int)=(h.Y.length:Int) by omega),oj (show ¬(v.length:Int)=(p.P.length:Int) by omega)];rfl,noR g⟩
 rw[oq ⟨⟨c1,e,m⟩,M,N⟩,sbind,dP_t c1,bifT,sbind,dP_t e,bifT,oo m,sbind,oo (show(u.length:Int)=(h.Y.length:Int) by omega),oo (show(v.length:Int)=(p.P.length:Int) by omega)];simp only[ov,bifF];rw[Qg8 hn,sbind,Qab hn om om (Jq (by rw[Q0g];omega)) Q om,sbind,Jc,Qwu,Qdv hn om om om G,sbind]
 have P:∀ t∈(okT h.Ar).map nT,FT k t/\t.Y.length<=6:=λt w=>by obtain⟨x,H,rfl⟩:=xy.1 w;have q:=(gp.1 H).1;refine⟨FT_nT om (G x q),?_⟩;show(toR (rv x.Y)).length<=6;rw[Jl,Jn,e.l.1 x q];exact e.l.2.2
 have E:((okT h.Ar).map nT).length<=1000:=by rw[ot];omega
 generalize (okT h.Ar).map nT=A at P E
 have key:∀(l:List Jg) (i:Nat) (U:List Rat) (B:List (List Rat)) (K:(List Qa)×(List (List Qa))->Option ((List (List Qa))×Qe)),(∀ t∈l,FT k t/\t.Y.length<=6)->QR k U->i+l.length<=1000->B.length<=i+1 ->
  ((rangeL (λ(i32:Nat) (j:Jg) (s:(List Qa)×(List (List Qa)))=>
    (Qgi n p j.T j.H j.Y s.1 v).bind λd=>
    bif !(Qx d.2 (⟨0,0,0,0⟩:Qe)) then (
     some (Lp.out ((([]:List (List Qa)),(⟨d.2.Au,wrap64 ((i32:Int)+(1:Int)),d.2.A0,d.2.At⟩:Qe)))))
    else (
     (appM 24 s.2 ([d.1.Next]:List (List Qa))).bind λJ=>
     some (Lp.go (d.1.Next,J)))) l i (toR U,toRR B)).bind (lpK K)=match alongQ p (rv v) l i U with | .inl f=>some ([],f) | .inr r=>K (toR (r.getLastD U),toRR (B++r)))/\∀ r,alongQ p (rv v) l i U=.inr r->∀ a∈r,QR 129 a/\a.length<=6:=by
  intro l
  induction l with
  | nil=>
    intro i U B K _ _ _ _;simp only[alongQ,rangeL];exact⟨by rw[ua];rfl,λr hr=>by cases hr;exact λ_ h=>by cases h⟩
  | cons t l ih=>
    intro i U B K w hU hi hB;rw[xn] at hi;obtain⟨Y,fl⟩:=w t (.head _);obtain⟨W,X,f3⟩:=Jjg Y;obtain⟨O,S,T⟩:=Q1t (t:=t.T) (h:=t.H) (y:=t.Y) (u:=toR U) (v:=v) hn h0 hk R W X f3 (K2 hU) hv;rw[Vj] at O S T;simp only[alongQ,rangeL];rw[O,sbind];cases hs:tiltQ p (fv t.T) (fv t.H) (rv t.Y) U (rv v) with
    | inl f=>
      have hf:=S f hs;obtain⟨a1,a2,a3,a4⟩:=f;simp only[];rw[K9 hf,ow,bifT,sbind,w1 om];exact⟨rfl,λr hr=>by cases hr⟩
    | inr z=>
      obtain⟨_,L,b2,_⟩:=T z hs;simp only[];rw[Kz,ov,bifF,J9 (by rw[Qbg];simp;omega) (by rw[Qbg];simp;omega),sbind,sbind];have V:toRR B++[toR z.2.1]=toRR (B++[z.2.1]):=by unfold toRR;rw[yx];rfl
      simp only[];rw[V];obtain⟨C,i2⟩:=ih (i+1) z.2.1 (B++[z.2.1]) K (λx H=>w x (.tail _ H)) (Q8 L h0) om oh;cases hr:alongQ p (rv v) l (i+1) z.2.1 with
      | inl f=>
        rw[hr] at C;exact⟨C,λr h=>by cases h⟩
      | inr r=>
        rw[hr] at C;refine⟨?_,λr' Z=>?_⟩
        . refine C.trans ?_
          simp only[];rw[xf,List.getLastD_cons];rfl
        . cases Z
          intro a F;rcases xu.1 F with rfl | F
          . exact⟨L,om⟩
          . exact i2 r hr a F
 obtain⟨k1,k2⟩:=key A 0 (rv u) [rv u] (λI=>some (I.2,(⟨0,0,0,0⟩:Qe))) P (QR_rv Q om) om oc;refine⟨?_,k2⟩;refine k1.trans ?_;cases alongQ p (rv v) A 0 (rv u)<;>rfl
theorem Q3n{α:Type}:∀(r:List α) (u:α),(u::r)[r.length]?=some (r.getLastD u)
 | [],u=>rfl
 | x::r,u=>by rw[List.getLastD_cons];exact Q3n r x
theorem Q0r{n k:Nat}{p:Qg}{h:Qy}{u v:List Qa}(hn:big<=n)(h0:129<=k)(hk:k<8000)(L:PrbW k p)(H:h.Ar.length<=1000)(J:∀ t∈h.Ar,FT k t)(F:Fk k h.T)(G:FR k h.Y)(s:h.Y.length<=1000)(B:FR k u)(q:u.length<=1000)(K:FR k v):
 Qt8 n p h u v=some (match nodesQ p h (rv u) (rv v) with | .inl f=>([],f) | .inr r=>(toR (r.getLastD (rv u)),⟨0,0,0,0⟩))/\(∀ f,nodesQ p h (rv u) (rv v)=.inl f->f.Au≠0)/\∀ r,nodesQ p h (rv u) (rv v)=.inr r->QR k (r.getLastD (rv u))/\r.length<=1000/\(r.getLastD (rv u)).length<=1000:=by
 obtain⟨C,E⟩:=Qtm hn h0 hk L H J F G s B q K;unfold Qt8;rw[C,sbind]
 have x:∀ f,nodesQ p h (rv u) (rv v)=.inl f->f.Au≠0:=λf a=>by unfold nodesQ at a;split at a;exact Q5k (λt U f h=>Jhr h) a;cases a;show(2:Int)≠0;decide
 have j:∀ {l:List Jg}{i:Nat}{U:List Rat}{r},alongQ p (rv v) l i U=.inr r->r.length=l.length:=by
  intro l
  induction l with
  | nil=>intro i U r h;simp only[alongQ] at h;cases h;rfl
  | cons t l M=>
    intro i U r h;simp only[alongQ] at h;cases hs:tiltQ p (fv t.T) (fv t.H) (rv t.Y) U (rv v) with
    | inl g=>rw[hs] at h;cases h
    | inr z=>
      rw[hs] at h;simp only[] at h;cases hr:alongQ p (rv v) l (i+1) z.2.1 with
      | inl g=>rw[hr] at h;cases h
      | inr r=>rw[hr] at h;cases h;simp[M hr]
 cases d:nodesQ p h (rv u) (rv v) with
 | inl f=>
   have a:=x f d;refine⟨?_,λg w=>by cases w;exact a,λr hr=>by cases hr⟩;obtain⟨a1,a2,a3,a4⟩:=f;simp only[];rw[K9 a,ow,bifT]
 | inr r=>
   have I:=E r d;have hr:r.length<=1000:=by unfold nodesQ at d;split at d;have:=j d;rw[ot] at this;have:=Qkg h.Ar;omega;cases d
   have hlast:QR k (r.getLastD (rv u))/\(r.getLastD (rv u)).length<=1000:=by have m:=uj (Q3n r (rv u));rcases xu.1 m with e | e;rw[e];exact⟨QR_rv B om,by rw[Jn];exact q⟩;obtain⟨a1,a2⟩:=I _ e;exact⟨Q8 a1 h0,om⟩
   refine⟨?_,(λg w=>by cases w),λN A=>by cases A;exact⟨hlast.1,hr,hlast.2⟩⟩;simp only[];rw[Kz,ov,bifF,Qbg,xn,w64 om om,show((r.length+1:Nat):Int) - 1=(r.length:Int) by omega,Jd (show(toRR (rv u::r))[r.length]?=some (toR (r.getLastD (rv u))) by unfold toRR;rw[xr,Q3n];rfl),sbind]
set_option maxRecDepth 100000
theorem Jjh{p:Qg}{T H:Rat}{Y U V:List Rat}{z}(h:tiltQ p T H Y U V=.inr z):z.2.1.length=U.length:=by
 obtain⟨f,l,m,d⟩:=Jeb h;obtain⟨j,q,r,s,w⟩:=Qex f;have i:p.Tape.Aw.length=U.length:=by have:=j.1.1.2.2.1;omega
 have e:limQ p.Av<=4096:=by unfold limQ;omega
 unfold tdoQ at d;cases a:tstagesQ p.Tape (limQ p.Av) T H U V (rv p.P) (List.zip (pairQ p.Aq) z.1.ys) 0 [] with
 | inl g=>rw[a] at d;cases d
 | inr kss=>
   rw[a] at d;have hk:=Qvw e i (λ_ h=>by cases h) a;rw[Q8m d,Qik hk]
set_option maxRecDepth 100000
def bk1(x:Q2)(c r:Rat)(vs:List Rat)(s:BkS):BkS:=
 if x.Op=2 then ⟨s.co,s.T+c,s.Y,s.P⟩ else
 if x.Op=3 then ⟨s.co,s.T,addAt s.Y x.A c,s.P⟩ else
 if x.Op=4 then ⟨s.co,s.T,s.Y,addAt s.P x.A c⟩ else
 if x.Op=6 then ⟨addAt s.co x.A (-c),s.T,s.Y,s.P⟩ else
 if x.Op=7 then ⟨addAt (addAt s.co x.A c) x.B c,s.T,s.Y,s.P⟩ else
 if x.Op=8 then ⟨addAt (addAt s.co x.A c) x.B (-c),s.T,s.Y,s.P⟩ else
 if x.Op=9 then ⟨addAt (addAt s.co x.A (c*vs.getD x.B.toNat 0)) x.B (c*vs.getD x.A.toNat 0),s.T,s.Y,s.P⟩ else
 if x.Op=10 then ⟨addAt (addAt s.co x.A (c / vs.getD x.B.toNat 0)) x.B (-(c / vs.getD x.B.toNat 0*r)),s.T,s.Y,s.P⟩ else
 if x.Op=11 then ⟨addAt s.co x.A (c*((x.B:Rat)*turnQ (vs.getD x.A.toNat 0) r x.B)),s.T,s.Y,s.P⟩ else s
theorem Jnn{x:Q2}{c r:Rat}{vs:List Rat}{s:BkS}:Zc x c r vs s=bk1 x c r vs s:=by
 by_cases h:c=0;subst h;unfold Zc bk1;rw[oq rfl];have a:-(0:Rat)=0:=by decide +kernel
 have d:∀ w:Rat,0 / w=0:=λw=>by rw[da,Rat.zero_mul]
 simp only[a,d,Rat.zero_mul,Qx3,ve,ite_self];unfold Zc bk1;rw[ol h]
set_option maxRecDepth 100000
def sumN(f:Nat->Rat):Nat->Rat
 | 0=>0
 | i+1=>sumN f i+f i
theorem Q0s{f:Nat->Rat}:∀ {i:Nat},sumN f (i+1)=f 0+sumN (λj=>f (j+1)) i
 | 0=>by simp only[sumN];grind
 | i+1=>by rw[sumN,Q0s (i:=i),sumN];grind
theorem Qf6{f g:Nat->Rat}:∀ {i:Nat},(∀ j,j<i->f j=g j)->sumN f i=sumN g i
 | 0,_=>rfl
 | i+1,h=>by rw[sumN,sumN,Qf6 λj a=>h j om,h i om]
theorem Q3o{f g:Nat->Rat}{c:Rat}:∀ {i:Nat},sumN (λj=>f j+c*g j) i=sumN f i+c*sumN g i
 | 0=>by simp only[sumN];grind
 | i+1=>by rw[sumN,sumN,sumN,Q3o];grind
theorem Qx8{f:Nat->Rat}{c:Rat}:∀ {i:Nat},sumN (λj=>c*f j) i=c*sumN f i
 | 0=>by simp only[sumN];grind
 | i+1=>by rw[sumN,sumN,Qx8];grind
def psum(a b:List Rat)(i:Nat):Rat:=sumN (λj=>a.getD j 0*b.getD j 0) i
theorem Yo{a b:List Rat}{i:Nat}:psum a b i=psum b a i:=Qf6 λ_ _=>Rat.mul_comm _ _
theorem Qok{a b:List Rat}{i:Nat}:psum a b (i+1)=psum a b i+a.getD i 0*b.getD i 0:=rfl
theorem Q3p{c:Rat}{a b d:List Rat}{i:Nat}(h:b.length=a.length):psum d (linQ c a b) i=c*psum d a i+psum d b i:=by unfold psum;rw[Rat.add_comm,<-Q3o];refine Qf6 λj _=>?_;rw[Jjf h];grind
theorem Qqn{a b d:List Rat}{i:Nat}(h:b.length=a.length):psum d (addQ a b) i=psum d a i+psum d b i:=by
 have e:addQ a b=linQ 1 a b:=by unfold addQ linQ;congr 1;funext x y;rw[Rat.one_mul]
 rw[e,Q3p h,Rat.one_mul]
theorem Qmo{c:Rat}{a d:List Rat}{i:Nat}:psum d (scaleQ c a) i=c*psum d a i:=by
 unfold psum;rw[<-Qx8];refine Qf6 λj _=>?_;have e:(scaleQ c a).getD j 0=c*a.getD j 0:=by
  unfold scaleQ;rw[ou,ou,xr];cases a[j]? with
  | none=>show(0:Rat)=c*0;rw[Rat.mul_zero]
  | some x=>rfl
 rw[e];grind
theorem Qjr{d:List Rat}{m i:Nat}:psum d (List.replicate m 0) i=0:=by
 unfold psum
 induction i with
 | zero=>rfl
 | succ i a=>rw[sumN,a,Jbs];grind
theorem Jhs{x y:Rat}{a b:List Rat}{i:Nat}:psum (x::a) (y::b) (i+1)=x*y+psum a b i:=by unfold psum;rw[Q0s];rfl
theorem Qtn{m i:Nat}{d:List Rat}:∀ {cs:List Rat}{l:List (List Rat)}{z:List Rat},cs.length=l.length->(∀ a∈l,a.length=m)->z.length=m ->
 psum d (mixQ cs l z) i=psum d z i+sumN (λj=>cs.getD j 0*psum d (l.getD j []) i) l.length
 | [],[],z,_,_,_=>by simp only[mixQ,ye,sumN];grind
 | [],_::_,_,h,_,_=>by simp at h
 | _::_,[],_,h,_,_=>by simp at h
 | c::cs,a::l,z,h,e,w=>by
   have q:List.zipWith (λx o=>o+c*x) a z=linQ c a z:=by unfold linQ;congr 1;funext x o;rw[Rat.add_comm]
   have s:=e a (.head _);simp only[mixQ];rw[q,Qtn (by simpa using h) (λf r=>e f (.tail _ r)) (by rw[Jea om];exact s),Q3p om,xn,Q0s];simp only[List.getD_cons_zero,List.getD_cons_succ];grind
theorem Qsj{l d:List Rat}{a:Int}{c:Rat}:∀ {i:Nat},a.toNat<i->a.toNat<l.length->psum (addAt l a c) d i=psum l d i+c*d.getD a.toNat 0
 | 0,h,_=>om
 | i+1,h,f=>by
   rw[Qok,Qok,Qx4];by_cases e:a.toNat=i;have:psum (addAt l a c) d i=psum l d i:=Qf6 λj m=>by rw[Qx4,ol om]
   rw[this,oq ⟨e.symm,om⟩,e];grind;rw[Qsj om f,ol om];grind
section
variable {t:Qp}{lim:Int}{T':Rat}{Y' P' vs ds:List Rat}
def inn(T':Rat)(Y' P' ds:List Rat)(s:BkS)(i:Nat):Rat:=psum s.co ds i+s.T*T'+psum s.Y Y' s.Y.length+psum s.P P' s.P.length
theorem Jji{x:Q2}{i:Nat}{s:BkS}(d:mayR t i x)(hs:ds.getD i 0=slopeQ x (vs.getD i 0) T' Y' P' vs ds)(l:i<=s.co.length)(m:(s.Y.length:Int)=t.Ax)(hp:(s.P.length:Int)=t.A1):
 inn T' Y' P' ds s (i+1)=inn T' Y' P' ds (Zc x (s.co.getD i 0) (vs.getD i 0) vs s) i:=by
 have f:=Qmf d;have dA:x.Op=6\/x.Op=11\/x.Op=7\/x.Op=8\/x.Op=9\/x.Op=10->0<=x.A/\x.A<(i:Int):=λh=>f _ (rdT_A h);have dB:x.Op=7\/x.Op=8\/x.Op=9\/x.Op=10->0<=x.B/\x.B<(i:Int):=λh=>f _ (rdT_B h);rw[Jnn];unfold inn;rw[Qok,hs];generalize s.co.getD i 0=c;generalize vs.getD i 0=r;have one:∀ q:Rat,x.A.toNat<i->psum (addAt s.co x.A q) ds i=psum s.co ds i+q*ds.getD x.A.toNat 0:=λq h=>Qsj h om
 have a:∀ q q':Rat,x.A.toNat<i->x.B.toNat<i->psum (addAt (addAt s.co x.A q) x.B q') ds i=psum s.co ds i+q*ds.getD x.A.toNat 0+q'*ds.getD x.B.toNat 0:=λq q' h j=>by rw[Qsj j (by rw[Qfe];omega),one q h]
 rcases Q26 d with o | o | o | o | o | o | o | o | o | o<;>simp only[bk1,slopeQ,o,Int.reduceEq,↓reduceIte];grind;grind;have:=Qwr d o;rw[Qfe,Qsj om om];grind;have:=Qws d o;rw[Qfe,Qsj om om];grind;rw[one _ (by have:=dA om;omega)];generalize ds.getD x.A.toNat 0=d1;grind;rw[a _ _ (by have:=dA om;omega) (by have:=dB om;omega)];generalize ds.getD x.A.toNat 0=d1;generalize ds.getD x.B.toNat 0=d2;grind;rw[a _ _ (by have:=dA om;omega) (by have:=dB om;omega)];generalize ds.getD x.A.toNat 0=d1;generalize ds.getD x.B.toNat 0=d2;grind;rw[a _ _ (by have:=dA om;omega) (by have:=dB om;omega)];generalize ds.getD x.A.toNat 0=d1;generalize ds.getD x.B.toNat 0=d2;generalize vs.getD x.A.toNat 0=v1;generalize vs.getD x.B.toNat 0=v2;grind;rw[a _ _ (by have:=dA om;omega) (by have:=dB om;omega)];simp only[da];generalize ds.getD x.A.toNat 0=d1;generalize ds.getD x.B.toNat 0=d2;generalize (vs.getD x.B.toNat 0)⁻¹=v2;grind;rw[one _ (by have:=dA om;omega)];generalize ds.getD x.A.toNat 0=d1;generalize turnQ (vs.getD x.A.toNat 0) r x.B=tq;generalize (x.B:Rat)=e;grind
theorem Jce{code:List Q2}:∀ {i:Nat}{s z},i<=code.length->i<=s.co.length->(s.Y.length:Int)=t.Ax->(s.P.length:Int)=t.A1 ->
 (∀(j:Nat) x,code[j]?=some x->mayR t j x/\ds.getD j 0=slopeQ x (vs.getD j 0) T' Y' P' vs ds)->pullQ lim code vs i s=.inr z->inn T' Y' P' ds s i=inn T' Y' P' ds z 0
 | 0,s,z,_,_,_,_,_,h=>by simp only[pullQ] at h;cases h;rfl
 | i+1,s,z,hi,m,e,hp,d,h=>by
   have a:code[i]?=some (code[i]' om):=oi _;generalize code[i]' om=x at a;obtain⟨f,l⟩:=d i x a;simp only[pullQ,a] at h;split at h
   case isFalse=>cases h
   obtain⟨a1,a2,a3⟩:=Qmi (x:=x) (c:=s.co.getD i 0) (r:=vs.getD i 0) (vs:=vs) (s:=s);rw[Jji f l om e hp];exact Jce om om (by rw[a2];exact e) (by rw[a3];exact hp) d h
end
theorem Jfk{t:Qp}{x:Q2}{i:Nat}{q T:Rat}{Y P vs ds:List Rat}(a:mayR t i x):slopeQ x q T Y P (vs.take i) (ds.take i)=slopeQ x q T Y P vs ds:=by
 have d:=Qmf a;have dA:x.Op=6\/x.Op=11\/x.Op=7\/x.Op=8\/x.Op=9\/x.Op=10->0<=x.A/\x.A<(i:Int):=λh=>d _ (rdT_A h);have dB:x.Op=7\/x.Op=8\/x.Op=9\/x.Op=10->0<=x.B/\x.B<(i:Int):=λh=>d _ (rdT_B h);rcases Q26 a with o | o | o | o | o | o | o | o | o | o<;>simp only[slopeQ,o,Int.reduceEq,↓reduceIte]
 . rw[Qdw (by have:=dA om;omega)]
 all_goals first
  | rw[Qdw (by have:=dA om;omega),Qdw (by have:=dB om;omega),Qdw (by have:=dA om;omega),Qdw (by have:=dB om;omega)]
  | rw[Qdw (by have:=dA om;omega),Qdw (by have:=dB om;omega),Qdw (by have:=dB om;omega)]
  | rw[Qdw (by have:=dA om;omega),Qdw (by have:=dB om;omega)]
  | rw[Qdw (by have:=dA om;omega),Qdw (by have:=dA om;omega)]
theorem Jcf{lim:Int}{T:Rat}{Y P:List Rat}{T':Rat}{Y' P':List Rat}:∀ {c:List Q2}{i:Nat}{vs ds:List Rat}{l},ds.length=vs.length->prunQ lim T Y P T' Y' P' c i vs ds=.inr l ->
 (∃ e,l.1=vs++e)/\(∃ e,l.2=ds++e)/\runQ lim T Y P c i vs=.inr l.1/\∀(q:Nat) x,c[q]?=some x->l.2.getD (vs.length+q) 0=slopeQ x (l.1.getD (vs.length+q) 0) T' Y' P' (l.1.take (vs.length+q)) (l.2.take (vs.length+q))
 | [],i,vs,ds,l,hd,h=>by simp only[prunQ] at h;cases h;exact⟨⟨[],oc⟩,⟨[],oc⟩,rfl,λq x E=>by simp at E⟩
 | x::c,i,vs,ds,l,hd,h=>by
   simp only[prunQ] at h;simp only[runQ];cases r:opQ x T Y P vs with
   | none=>rw[r] at h;cases h
   | some q=>
     rw[r] at h;simp only[] at h |-;split at h
     case isFalse=>cases h
     rename_i C;split at h
     case isFalse=>cases h
     rw[oq C];obtain⟨⟨a,j⟩,⟨d,m⟩,A,B⟩:=Jcf (by simp;exact hd) h;refine⟨⟨q::a,by rw[j];simp⟩,⟨_::d,by rw[m];simp;rfl⟩,A,λk y f=>?_⟩;cases k with
     | zero=>
       simp only[gj,Option.some.injEq] at f;subst f;rw[xp,j,m];have g1:(vs++[q]++a).getD vs.length 0=q:=by rw[xf,ou,yg (xm _),gc];rfl
       have s:∀ w:Rat,(ds++[w]++d).getD vs.length 0=w:=λw=>by rw[xf,ou,<-hd,yg (xm _),gc];rfl
       have g3:(vs++[q]++a).take vs.length=vs:=by rw[xf,List.take_left]
       have g4:∀ w:Rat,(ds++[w]++d).take vs.length=ds:=λw=>by rw[xf,<-hd,List.take_left]
       rw[g1,s,g3,g4]
     | succ k=>
       have:=B k y (by simpa using f);rw[yd,vm,show vs.length+1+k=vs.length+(k+1) by omega] at this;exact this
theorem Jec{ds:List Rat}{m:Nat}:∀ {os:List Int}{w a:List Rat},w.length=os.length->(∀ o∈os,o.toNat<m)->a.length=m ->
 psum ((List.zip os w).foldl (λco z=>addAt co z.1 z.2) a) ds m=psum a ds m+psum w (os.map λo=>ds.getD o.toNat 0) w.length
 | [],[],a,_,_,_=>by simp[psum,sumN];grind
 | [],_::_,_,h,_,_=>by simp at h
 | _::_,[],_,h,_,_=>by simp at h
 | o::os,x::w,a,h,d,f=>by have h0:=d o (.head _);simp only[List.zip_cons_cons,db,yz,xn];rw[Jec (by simpa using h) (λi e=>d i (.tail _ e)) (by rw[Qfe];exact f),Qsj h0 om,Jhs];grind
theorem Jjj{t:Qp}{lim:Int}{T T':Rat}{Y P Y' P' w:List Rat}{z l}(f:tapeR t)(G:w.length=t.Aw.length)(hb:backQ t lim T Y P w=.inr z)(hp:pfieldQ t lim T Y P T' Y' P'=.inr l):
 psum w l.2 w.length=z.1*T'+psum z.2.1 Y' t.Ax.toNat+psum z.2.2 P' t.A1.toNat:=by
 obtain⟨⟨J,K⟩,⟨L,M⟩,N,O⟩:=f.1;unfold pfieldQ at hp;cases hr:prunQ lim T Y P T' Y' P' t.Code 0 [] [] with
 | inl e=>rw[hr] at hp;cases hp
 | inr q=>
   rw[hr] at hp;cases hp;obtain⟨_,_,A,I⟩:=Jcf rfl hr;obtain⟨vs,x,d,r,rfl⟩:=Jbp hb;rw[A] at d;injection d with d
   subst d;have F:q.1.length=t.Code.length:=by
    have:∀ {c:List Q2}{i:Nat}{vs l:List Rat},runQ lim T Y P c i vs=.inr l->l.length=vs.length+c.length:=by
     intro c
     induction c with
     | nil=>intro i vs l h;simp only[runQ] at h;cases h;rfl
     | cons x c H=>
       intro i vs l h;simp only[runQ] at h;cases s:opQ x T Y P vs with
       | none=>rw[s] at h;cases h
       | some q=>
         rw[s] at h;simp only[] at h;split at h;rw[H h];simp;omega;cases h
    have:=this A
    simpa using this
   have hs:=Q24 r
   have key:=Jce (t:=t) (T':=T') (Y':=Y') (P':=P') (ds:=q.2) om (by simp only[Jdw];omega) oh oh (λj x m=>⟨f.2.1 j x m,by
    have:=I j x m;rw[ye,xg,Jfk (f.2.1 j x m)] at this
    exact this⟩) r
   unfold inn at key;simp only[] at key;unfold coQ at key;rw[Jec G (λo E=>by have:=f.2.2 o E;omega) oc,Yo,Qjr,Yo (a:=List.replicate t.Ax.toNat 0),Qjr,Yo (a:=List.replicate t.A1.toNat 0),Qjr] at key;have B:=hs.y;have C:=hs.p;simp only[ue] at B C;rw[B,C,show psum x.co q.2 0=0 from rfl] at key;simp only[];grind
set_option maxRecDepth 100000
theorem Q2e{t:Qp}{lim:Int}{T H:Rat}{U V P:List Rat}:∀ {r:List ((List Rat×Rat)×List Rat)}{i:Nat}{kss z},tstagesQ t lim T H U V P r i kss=.inr z ->
 (∃ e,z=kss++e)/\z.length=kss.length+r.length/\∀(q:Nat) x,r[q]?=some x->∃ l,pfieldQ t lim (T+H*x.1.2) x.2 P 0 (fromQ H U x.1.1 (z.take (kss.length+q))) V=.inr l/\z[kss.length+q]?=some l.2
 | [],i,kss,z,h=>by simp only[tstagesQ] at h;cases h;exact⟨⟨[],oc⟩,rfl,λq x B=>by simp at B⟩
 | x::r,i,kss,z,h=>by
   simp only[tstagesQ] at h;cases hs:tstageQ t lim T H U V P x.2 x.1.1 x.1.2 i kss with
   | inl f=>rw[hs] at h;cases h
   | inr w=>
     rw[hs] at h;simp only[] at h;obtain⟨⟨e,a⟩,s,A⟩:=Q2e h;refine⟨⟨w::e,by rw[a];simp⟩,by rw[s];simp;omega,λq y d=>?_⟩;cases q with
     | zero=>
       simp only[gj,Option.some.injEq] at d;subst d;unfold tstageQ at hs;cases m:fitQ lim (fromQ H U x.1.1 kss) 0 with
       | some j=>rw[m] at hs;cases hs
       | none=>
         rw[m] at hs;simp only[] at hs;cases hp:pfieldQ t lim (T+H*x.1.2) x.2 P 0 (fromQ H U x.1.1 kss) V with
         | inl e=>rw[hp] at hs;cases hs
         | inr l=>
           rw[hp] at hs;cases hs;refine⟨l,?_,?_⟩;rw[xp,a,xf,List.take_left];exact hp;rw[xp,a,xf,yg (xm _),gc];rfl
     | succ q=>
       have:=A q y (by simpa using d);rw[yd,vm,show kss.length+1+q=kss.length+(q+1) by omega] at this;exact this
theorem Jfl{l:List (List Rat)}{i j:Nat}(h:j<i):(l.take i).getD j []=l.getD j []:=by rw[ou,ou,uh,oq h]
def gQ(s:Q1)(H:Rat)(W:List Rat)(j i:Nat)(ls:List (List Rat)):List Rat:=
 scaleQ H (mixQ (((s.A.map rv).drop i).map λa=>a.getD j 0) ls (scaleQ ((rv s.B).getD j 0) W))
theorem Jle{s:Q1}{H:Rat}{W u:List Rat}{i j m:Nat}{ls:List (List Rat)}{x d:List Rat}{a:List Qa}(w:s.A[i]?=some a)(F:ls.length+(i+1)=s.A.length)(r:∀ x∈ls,x.length=m)(C:x.length=m)(B:W.length=m):
 psum d (gQ s H W j i (x::ls)) m=psum d (gQ s H W j (i+1) ls) m+H*((rv a).getD j 0*psum d x m):=by
 have hi:=J8 w;have e:(s.A.map rv).drop i=rv a::(s.A.map rv).drop (i+1):=by
  have q:(s.A.map rv)[i]?=some (rv a):=by rw[xr,w];rfl
  have l:=J8 q;rw[xe l];rw[oi l] at q;rw[Option.some.inj q]
 have E:(scaleQ ((rv s.B).getD j 0) W).length=m:=by rw[Z1];exact B
 have A:∀(c:Rat) (a z:List Rat),List.zipWith (λx o=>o+c*x) a z=linQ c a z:=λc a z=>by unfold linQ;congr 1;funext x o;rw[Rat.add_comm]
 have f:(((s.A.map rv).drop (i+1)).map λa=>a.getD j 0).length=ls.length:=by rw[ot,uz,ot];omega
 unfold gQ;rw[Qmo,Qmo,e,yz];simp only[mixQ];rw[A,Qtn (m:=m) f r (by rw[Jea om];exact C),Qtn (m:=m) f r E,Q3p om];grind
theorem Q2f{t:Qp}{s:Q1}{lim:Int}{T H:Rat}{P W U V:List Rat}{yss kss:List (List Rat)}(M:tapeR t)(hs:schR s)(J:U.length=t.Ax.toNat)(G:W.length=t.Ax.toNat)
 (K:kss.length=s.B.length) (E:∀ a∈kss,a.length=t.Ax.toNat) (N:yss.length=s.B.length)
 (hk:∀(q:Nat) x,(List.zip (pairQ s) yss)[q]?=some x->∃ l,pfieldQ t lim (T+H*x.1.2) x.2 P 0 (fromQ H U x.1.1 (kss.take q)) V=.inr l/\kss[q]?=some l.2):∀ {i:Nat}{a z},i<=s.B.length->a.ls.length+i=s.B.length->BdL t.Ax.toNat t.A1.toNat a ->
 bstagesQ t s lim T H P W yss i a=.inr z->psum z.Y U t.Ax.toNat+psum z.P V t.A1.toNat=psum a.Y U t.Ax.toNat+psum a.P V t.A1.toNat+sumN (λj=>psum (kss.getD j []) (gQ s H W j i a.ls) t.Ax.toNat) i
 | 0,a,z,_,_,_,h=>by simp only[bstagesQ] at h;cases h;simp only[sumN];grind
 | i+1,a,z,hi,hal,g,h=>by
   obtain⟨⟨d1,d2⟩,⟨d3,d4⟩,d5,d6⟩:=M.1;obtain⟨⟨g1,g2⟩,g3,g4,g5,g6⟩:=hs.2.1;simp only[bstagesQ] at h;obtain⟨A,r⟩:∃ x,s.A[i]?=some x:=⟨s.A[i]' om,oi _⟩
   obtain⟨ci,C⟩:∃ x,s.C[i]?=some x:=⟨s.C[i]' om,oi _⟩
   obtain⟨R,F⟩:∃ x,yss[i]?=some x:=⟨yss[i]' om,oi _⟩
   have hz:(List.zip (pairQ s) yss)[i]?=some ((rv A,fv ci),R):=by rw[gy];refine⟨?_,F⟩;unfold pairQ rv;rw[gy];simp only[xr];exact⟨by rw[r];rfl,by rw[C];rfl⟩
   obtain⟨l,k1,k2⟩:=hk i _ hz;have ey:yss.getD i []=R:=by rw[ou,F];rfl
   rw[ey,Qjm C,show bslQ (s.A.map rv) ((rv s.B).getD i 0) H W i a.ls=gQ s H W i (i+1) a.ls from rfl] at h;have I:(gQ s H W i (i+1) a.ls).length=t.Ax.toNat:=by have:=Jbr (As:=s.A.map rv) (b:=(rv s.B).getD i 0) (H:=H) (i:=i) (W:=W) (l:=a.ls) (by rw[G];exact g.l);rw[G] at this;exact this
   cases s1:bstageQ t lim T H P R (fv ci) (gQ s H W i (i+1) a.ls) i with
   | inl f=>rw[s1] at h;cases h
   | inr w=>
     rw[s1] at h;obtain⟨x,S,rfl⟩:=Q2b s1;obtain⟨Q,Z⟩:=Jbq S;simp only[] at h;have O:=Q2f M hs J G K E N hk om (by show a.ls.length+1+i=_;omega) (g.step Q Z) h;have d:=Jjj M om S k1;rw[I,Rat.mul_zero,ge] at d;simp only[] at d;have ek:kss.getD i []=l.2:=by rw[ou,k2];rfl
     have X:=g6 i A r;have L:(kss.take i).length=i:=by rw[xi];omega
     have e:∀ a∈kss.take i,a.length=t.Ax.toNat:=λa B=>E a (ym B);have hx:psum x.2.1 (fromQ H U (rv A) (kss.take i)) t.Ax.toNat=psum x.2.1 U t.Ax.toNat+H*sumN (λj=>(rv A).getD j 0*psum (kss.getD j []) x.2.1 t.Ax.toNat) i:=by unfold fromQ towQ;rw[Qqn (by rw[Z1,Qgv (m:=U.length) (λa B=>by rw[e a B,J]) oc]),Qmo,Qtn (m:=U.length) (by rw[Jn];omega) (λa B=>by rw[e a B,J]) oc,Qjr,ge,L];congr 2;refine Qf6 λj Y=>?_;rw[Yo,Jfl Y]
     have hS:sumN (λj=>psum (kss.getD j []) (gQ s H W j i (x.2.1::a.ls)) t.Ax.toNat) i=sumN (λj=>psum (kss.getD j []) (gQ s H W j (i+1) a.ls) t.Ax.toNat) i+H*sumN (λj=>(rv A).getD j 0*psum (kss.getD j []) x.2.1 t.Ax.toNat) i:=by rw[<-Q3o];refine Qf6 λj Y=>?_;exact Jle (u:=U) r om g.l Q G
     rw[hS] at O;simp only[] at O;rw[Yo (a:=addQ a.Y x.2.1),Qqn (by rw[Q,g.y]),Yo (a:=addQ a.P x.2.2),Qqn (by rw[Z,g.p])] at O;rw[hx,Yo (b:=l.2),<-ek] at d;rw[sumN,Yo (a:=a.Y),Yo (a:=a.P)];rw[Yo (a:=x.2.1),Yo (a:=x.2.2)] at d;grind
theorem Jjk{t:Qp}{s:Q1}{lim:Int}{T H:Rat}{P W U V:List Rat}{yss:List (List Rat)}{z x}(w:lim<=4096)(E:tapeR t)(hs:schR s)(B:U.length=t.Ax.toNat)(C:W.length=t.Ax.toNat)(I:P.length=t.A1.toNat)(A:yss.length=s.B.length)
 (i:tdoQ t s lim T H U V P yss=.inr z) (G:bdoQ t s lim T H P W yss=.inr x):psum W z.1 t.Ax.toNat=psum x.1 U t.Ax.toNat+psum x.2 V t.A1.toNat:=by
 obtain⟨⟨L,M⟩,⟨N,O⟩,Q,R⟩:=E.1;obtain⟨⟨g1,S⟩,g3,g4,X,Y⟩:=hs.2.1;obtain⟨y,F,rfl⟩:=Q25 G;unfold tdoQ at i;cases hk:tstagesQ t lim T H U V P (List.zip (pairQ s) yss) 0 [] with
 | inl f=>rw[hk] at i;cases i
 | inr kss=>
   rw[hk] at i;simp only[] at i;rw[Q8m i];obtain⟨_,k2,K⟩:=Q2e hk;have d:=Qvw w om (λ_ h=>by cases h) hk;have r:kss.length=s.B.length:=by rw[k2,ye,xg,gz];unfold pairQ;rw[gz,ot,Jn];omega
   have gB:BdL t.Ax.toNat t.A1.toNat ⟨[],W,List.replicate P.length 0⟩:=⟨C,by simp;exact I,λ_ h=>by cases h⟩
   have key:=Q2f E hs B C r (λa l=>by rw[d a l,B]) A (λq x J=>by
    have:=K q x J
    rwa [ye,xg] at this) (xm _) oc gB F
   simp only[] at key |-;rw[key,Yo (a:=List.replicate P.length 0),Qjr];unfold fromQ towQ;rw[Qqn (by rw[Z1,Qgv (m:=U.length) (λa l=>d a l) oc]),Qmo,Qtn (m:=U.length) (by rw[Jn];omega) (λa l=>d a l) oc,Qjr,ge,ve,r,<-Qx8];congr 1;refine Qf6 λj Z=>?_;have e:gQ s H W j s.B.length []=scaleQ H (scaleQ ((rv s.B).getD j 0) W):=by unfold gQ;cases ((s.A.map rv).drop s.B.length).map λa=>a.getD j 0<;>rfl
   rw[e,Qmo,Qmo,Yo (a:=W)]
theorem backTilt{p:Qg}{T H:Rat}{Y W U V:List Rat}{z x}(i:tiltQ p T H Y U V=.inr z)(e:backThQ p T H Y W=.inr x):psum W z.2.1 p.Tape.Ax.toNat=psum x.2.1 U p.Tape.Ax.toNat+psum x.2.2 V p.Tape.A1.toNat:=by
 obtain⟨a1,a2,a3,a4⟩:=Jeb i;obtain⟨j,l⟩:=Qvt e;obtain⟨a,q,d⟩:=Qur e;rw[a1] at a;injection a with a
 rw[<-a] at d;obtain⟨f,r,_⟩:=Qex a1;obtain⟨s,m⟩:=Qx1 a1;exact Jjk (by unfold limQ;omega) f.1 f.2.1 om j l m a4 d
theorem Qto{n k:Nat}{a b:List Qa}(hn:big<=n)(d:1<=k)(hk:k<1000000)(l:FR k a)(hb:FR k b)(r:a.length<=1000):
 Qlo n a b=some (if a.length=b.length then (toF (psum (rv a) (rv b) a.length),true) else (toF 0,false)):=by
 unfold Qlo;rw[X4 hn,sbind];by_cases h:a.length=b.length
 case neg=>rw[ol h,oj om,ow,bifT]
 rw[oq h,oo om,ov,bifF];have bnd:∀ i:Nat,qw (psum (rv a) (rv b) i)<=1+i*(k+k+1):=by
  intro i
  induction i with
  | zero=>show qw 0<=_;rw[Y8];omega
  | succ i q=>
    have e:=Yz q (Xl (Vt (i:=i) (QR_rv l d) d) (Vt (i:=i) (QR_rv hb d) d));have:(i+1)*(k+k+1)=i*(k+k+1)+(k+k+1):=ud _ _;rw[Qok];omega
 rw[Qbe (λi=>toF (psum (rv a) (rv b) i)) a]
 . rfl
 . intro i x f
   have hi:=J8 f;obtain⟨y,j⟩:∃ y,b[i]?=some y:=⟨b[i]' om,oi _⟩
   have m:=l x (Jw f);have yk:=hb y (Jw j);have w:=Xl (qw_fv m d) (qw_fv yk d);have hb:=bnd i;have s:i*(k+k+1)<=1000*(k+k+1):=xc _ om;rw[Jd j,sbind,Xo hn d om m yk,sbind,Vy (k:=1+1000*(k+k+1)) hn om om (Jq om) (Jq om),sbind,Jc,Jc,Qok,Qjm f,Qjm j]
 . rfl
theorem Jfm{p:Qg}{T H:Rat}{Y W:List Rat}{z}(h:backThQ p T H Y W=.inr z):z.2.2.length=p.P.length:=by obtain⟨e,a⟩:=Qvt h;obtain⟨_,_,hb⟩:=Qur h;obtain⟨x,d,f⟩:=Q25 hb;have:=Qvv ⟨e,by simp only[ue];exact a,λ_ h=>by cases h⟩ d;rw[f];show x.P.length=_;rw[this.p,<-a,Jn]
theorem Jno(l:List Jg):(l.map nT).map triT=l.map triT:=by rw[yt];refine wg λt _=>?_;show(fv (toF (fv t.T)),fv (toF (fv t.H)),rv (toR (rv t.Y)))=_;rw[Jc,Jc,Vj];rfl
set_option maxRecDepth 100000
theorem Qx9{k:Nat}{a b:List Rat}(d:1<=k)(e:QR k a)(hb:QR k b):∀ i:Nat,qw (psum a b i)<=1+i*(2*k+1)
 | 0=>by show qw (0:Rat)<=_;rw[Y8];omega
 | i+1=>by rw[Qok,ud];have:=Yz (Qx9 d e hb i) (Xl (Vt (i:=i) e d) (Vt (i:=i) hb d));omega
theorem Jcg{p:Qg}{V:List Rat}:∀ {l:List Jg}{i:Nat}{U:List Rat}{r},alongQ p V l i U=.inr r->r.length=l.length/\(∀ a∈r,a.length=U.length)/\∀ j x,(l.map triT)[j]?=some x->∃ z,tiltQ p x.1 x.2.1 x.2.2 ((U::r).getD j []) V=.inr z/\(U::r).getD (j+1) []=z.2.1
 | [],i,U,r,h=>by simp only[alongQ] at h;cases h;exact⟨rfl,(λa h=>by cases h),λj x d=>by simp at d⟩
 | t::l,i,U,r,h=>by
   simp only[alongQ] at h;cases hs:tiltQ p (fv t.T) (fv t.H) (rv t.Y) U V with
   | inl f=>rw[hs] at h;cases h
   | inr z=>
     rw[hs] at h;simp only[] at h;cases hr:alongQ p V l (i+1) z.2.1 with
     | inl f=>rw[hr] at h;cases h
     | inr B=>
       rw[hr] at h;cases h;obtain⟨q,s,w⟩:=Jcg hr;have m:=Jjh hs;refine⟨by simp[q],λa e=>?_,λj x d=>?_⟩;rcases xu.1 e with rfl | e;exact m;rw[s a e,m];cases j with
       | zero=>
         simp only[yz,gj,Option.some.injEq] at d;subst d;exact⟨z,hs,rfl⟩
       | succ j=>
         simp only[yz,du] at d;obtain⟨A,k1,k2⟩:=w j x d;exact⟨A,by rw[List.getD_cons_succ];exact k1,by rw[List.getD_cons_succ];exact k2⟩
def rsum(rs:List (List Rat))(E:List Rat)(D:Nat):Rat:=rs.foldl (λs r=>s+psum r E D) 0
theorem Jht{rs:List (List Rat)}{r E:List Rat}{D:Nat}:rsum (rs++[r]) E D=rsum rs E D+psum r E D:=by unfold rsum;rw[jj];rfl
theorem Qya{D d:Nat}{E:List Rat}:∀ {rs:List (List Rat)}{g:List Rat}{s:Rat},g.length=d->(∀ r∈rs,r.length=d)->psum (foldA g rs) E D+s=psum g E D+rs.foldl (λs r=>s+psum r E D) s
 | [],g,s,_,_=>rfl
 | r::rs,g,s,j,hr=>by
   have f:=hr r (.head _);have l:=Qya (D:=D) (E:=E) (rs:=rs) (g:=addQ g r) (s:=s+psum r E D) (by rw[Zu,j,f,dt]) (λa i=>hr a (.tail _ i));have e:psum (addQ g r) E D=psum g E D+psum r E D:=by rw[Yo,Qqn om,Yo,Yo (a:=E) (b:=r)]
   show psum (foldA (addQ g r) rs) E D+s=psum g E D+rs.foldl (λs r=>s+psum r E D) (s+psum r E D);rw[e] at l;grind
theorem Q5l{p:Qg}{V:List Rat}{A:List Tri}{W:Int->List (List Rat)}{M:Nat->List Rat}(l:∀ i,∀ r∈W i,r.length=p.Tape.Ax.toNat)(q:∀ j x,A[j]?=some x->∃ z,tiltQ p x.1 x.2.1 x.2.2 (M j) V=.inr z/\M (j+1)=z.2.1):∀(i:Nat) (g z:List Rat×List Rat),i<=A.length->g.1.length=p.Tape.Ax.toNat->g.2.length=p.P.length->lookQ p A W i g=.inr z ->
 psum g.1 (M i) p.Tape.Ax.toNat+psum g.2 V p.Tape.A1.toNat+sumN (λj=>rsum (W (j:Int)) (M j) p.Tape.Ax.toNat) (i+1)=psum z.1 (M 0) p.Tape.Ax.toNat+psum z.2 V p.Tape.A1.toNat
 | 0,g,z,_,d,F,h=>by simp only[lookQ] at h;cases h;have e:=Qya (D:=p.Tape.Ax.toNat) (E:=M 0) (s:=0) d (l ((0:Nat):Int));simp only[sumN];have B:rsum (W ((0:Nat):Int)) (M 0) p.Tape.Ax.toNat=(W ((0:Nat):Int)).foldl (λs r=>s+psum r (M 0) p.Tape.Ax.toNat) 0:=rfl;grind
 | i+1,g,z,hi,d,F,h=>by
   have m:A[i]?=some (A[i]' om):=oi om;generalize A[i]' om=x at m;obtain⟨t,I,J⟩:=q i x m;simp only[lookQ] at h;rw[ou,m] at h;simp only[ut] at h;have e:=Qya (D:=p.Tape.Ax.toNat) (E:=M (i+1)) (s:=0) d (l ((i+1:Nat):Int));have B:rsum (W ((i+1:Nat):Int)) (M (i+1)) p.Tape.Ax.toNat=(W ((i+1:Nat):Int)).foldl (λs r=>s+psum r (M (i+1)) p.Tape.Ax.toNat) 0:=rfl;generalize foldA g.1 (W ((i+1:Nat):Int))=G at h e;cases hb:backThQ p x.1 x.2.1 x.2.2 G with
   | inl f=>rw[hb] at h;cases h
   | inr b=>
     rw[hb] at h;simp only[] at h;have H:=Jfm hb;have w:=Q5l l q i (b.2.1,addQ g.2 b.2.2) z om (Q2c hb) (by show(addQ g.2 b.2.2).length=_;rw[Zu];omega) h;have key:=backTilt I hb;have C:psum (addQ g.2 b.2.2) V p.Tape.A1.toNat=psum g.2 V p.Tape.A1.toNat+psum b.2.2 V p.Tape.A1.toNat:=by rw[Yo,Qqn om,Yo,Yo (a:=V) (b:=b.2.2)]
     rw[<-J] at key;simp only[] at w;rw[C] at w;rw[sumN];grind
theorem Q8n{f:Nat->Rat}{c:Rat}{m:Nat}:∀ {i:Nat},sumN (λj=>f j+if m=j then c else 0) i=sumN f i+if m<i then c else 0
 | 0=>by simp[sumN,ve]
 | i+1=>by rw[sumN,sumN,Q8n (i:=i)];by_cases h:m<i;rw[oq h,ol om,oq om];grind;by_cases g:m=i;rw[ol h,oq g,oq om];grind;rw[ol h,ol g,ol om];grind
theorem Q8o{l:List Jj}{M:Nat->List Rat}{D N:Nat}(d:∀ x∈l,0<=x.Ay/\x.Ay.toNat<=N):∀ n:Nat,n<=l.length ->
 sumN (λi=>psum (rv (l.getD i ⟨0,[]⟩).W) (M (l.getD i ⟨0,[]⟩).Ay.toNat) D) n=sumN (λj=>rsum (rowsAt (l.take n) (j:Int)) (M j) D) (N+1)
 | 0,_=>by
   rw[gg]
   have:∀ i,sumN (λj=>rsum (rowsAt [] (j:Int)) (M j) D) i=0:=λi=>by
    induction i with
    | zero=>rfl
    | succ i m=>rw[sumN,m,ge];rfl
   rw[this];rfl
 | n+1,hn=>by
   have a:l[n]?=some (l[n]' om):=oi om;have f:=d _ (xa (l:=l) (n:=n) om);generalize l[n]' om=x at a f;rw[sumN,Q8o d n om]
   have e:∀ j,j<N+1->rsum (rowsAt (l.take (n+1)) (j:Int)) (M j) D=rsum (rowsAt (l.take n) (j:Int)) (M j) D+if x.Ay.toNat=j then psum (rv x.W) (M x.Ay.toNat) D else 0:=λj _=>by
    rw[vj,a,Option.toList_some,Qvu];by_cases g:x.Ay=(j:Int)
    rw[oq g,oq om,Jht,show x.Ay.toNat=j by omega];rw[ol g,ol om,ua,ve]
   rw[Qf6 e,Q8n,oq om,ou,a];rfl
theorem Q3q{n k:Nat}{a b c d:List Qa}(hn:big<=n)(e:1<=k)(hk:k<1000000)(i:FR k a)(hb:FR k b)(j:FR k c)(hd:FR k d)(l:a.length<=1000)(f:b.length<=1000)(m:a.length=c.length)(q:b.length=d.length):
 Qlp n ⟨a,b⟩ c d=some (toF (psum (rv a) (rv c) a.length+psum (rv b) (rv d) b.length),true):=by
 have r:=Qx9 e (QR_rv i e) (QR_rv j e) a.length;have s:=Qx9 e (QR_rv hb e) (QR_rv hd e) b.length;have w:a.length*(2*k+1)<=1000*(2*k+1):=xc _ l;have x:b.length*(2*k+1)<=1000*(2*k+1):=xc _ f;unfold Qlp;rw[Qto hn e om i j l,sbind,Qto hn e om hb hd f,sbind,oq m,oq q];simp only[jn_eq,ov,bifF];rw[Vy (k:=1+1000*(2*k+1)) hn om om (Jq om) (Jq om),sbind,Jc,Jc]
theorem Q9l(p:Qt)(h:Qv)(l:List Qs)(b:Zl)(hB:Xm p)(hH:Zv h)(hlB:Z2 l)(hb:Qo4 b):∃ n,Qaf n p h l b=some true:=by
 refine⟨big,?_⟩;have hn:big<=big:=xm _;unfold Qaf;simp only[jn_eq];obtain⟨v,e1,e2⟩:=Qpr (p:=p) (h:=h) hn;rw[e1,sbind];cases v
 case true=>rw[bifT,bifT,w46];rfl
 obtain⟨⟨⟨t1,t2,t3⟩,⟨s1,s2,s3,s4,s5,s6⟩,p1⟩,hbits,g1,g2,g3,g4⟩:=e2 rfl;obtain⟨v,e5,e6⟩:=Qpt (l:=l) hn;rw[bifF,e5,sbind];cases v
 case true=>rw[bifT,bifT,w46];rfl
 obtain⟨u1,u2⟩:=e6 rfl;obtain⟨v,e7,e8⟩:=Q5j (b:=b) hn;rw[bifF,e7,sbind];cases v
 case true=>rw[bifT,w46];rfl
 obtain⟨v1,v2⟩:=e8 rfl;rw[bifF];obtain⟨bu1,bv1,_⟩:=hb;obtain⟨b1,b2,b3,_⟩:=hH;have hw:=(Q6v (bits:=2000) hB oz (e2 rfl).1).mono (k:=1000) oz;have Q:∀ t∈h.Ar,FT 6 (tTry t):=λt P=>Q23 (b1.2 t P) (g4 t P);have hyl:=g3.1;have Z:FR 129 (b.U.map tF):=K4 (FR_tF bu1 v1) oz;have hV:FR 129 (b.V.map tF):=K4 (FR_tF bv1 v2) oz;have lU:(b.U.map tF).length<=6:=by have:=v1.1;rw[ot];omega
 have lV:(b.V.map tF).length<=6:=by have:=v2.1;rw[ot];omega
 have K:∀ x∈l,x.W.length<=6:=λx d=>(u2 x d).1
 have E:∀ x∈l.map lkT,FR 129 x.W/\x.W.length<=6:=λx d=>by obtain⟨y,hy,rfl⟩:=xy.1 d;refine⟨K4 (FR_tF (hlB.2 y hy).2.1 (u2 y hy)) oz,?_⟩;show(y.W.map tF).length<=_;rw[ot];exact K y hy
 rw[Qrq hn om om om (by have:=s3.1;omega) (by have:=s4.1;omega) (by have:=s5.1;omega) (λr hr=>by have:=(s6 r hr).1;omega) (by have:=p1.1;omega),sbind,Qrr hn om om (λt P=>by have:=(Q t P).2.2;rwa [show(tTry t).Y.length=t.Y.length from ot _] at this),sbind,Yt hn (by have:=v1.1;omega),sbind,Yt hn (by have:=v2.1;omega),sbind];rw[show(⟨(tP p).Tape,(tP p).Aq,(tP p).P,2000⟩:Qg)=⟨tT p.Tape,tS p.Aq,p.P.map tF,2000⟩ from rfl];generalize (⟨tT p.Tape,tS p.Aq,p.P.map tF,2000⟩:Qg)=q at hw |-;have hTl:(tHis h).Ar.length<=5:=by show(h.Ar.map tTry).length<=5;rw[ot];exact g1
 have H:∀ t∈(tHis h).Ar,FT 1000 t:=λx d=>by obtain⟨t,P,rfl⟩:=xy.1 d;exact Qwv (Q t P) oz
 have I:Fk 1000 (tHis h).T:=Wf (Fk_tF b2 g2) oz;have J:FR 1000 (tHis h).Y:=K4 (FR_tF b3 g3) oz;have hTYl:(tHis h).Y.length<=8:=by show(h.Y.map tF).length<=8;rw[ot];exact hyl
 have hll:(l.map lkT).length=l.length:=ot _;generalize hy:tHis h=y at *;generalize b.U.map tF=U at *;generalize b.V.map tF=V at *;obtain⟨n1,n2⟩:=Qtm (n:=big) (k:=1000) (p:=q) (h:=y) (u:=U) (v:=V) hn oz oz hw om H I J om (K4 Z oz) om (K4 hV oz);obtain⟨_,n3,_⟩:=Q0r (n:=big) (k:=1000) (p:=q) (h:=y) (u:=U) (v:=V) hn oz oz hw om H I J om (K4 Z oz) om (K4 hV oz);obtain⟨a1,a2,a3⟩:=Qqf (n:=big) (k:=1000) (p:=q) (h:=y) (l:=l.map lkT) hn oz oz hw om H I J om om (λx d=>⟨(E x d).1,by have:=(E x d).2;omega⟩);rw[n1,sbind,Qyt hn om (λx d=>by have:=K x d;omega),sbind,a1,sbind];clear n1 a1;rcases B:nodesQ q y (rv U) (rv V) with e | r
 . have:=n3 e B
   obtain⟨x1,x2,x3,x4⟩:=e;simp only[];rw[K9 this,ow,bifT,bifT,w46];rfl
 rcases C:Qb3 q y (l.map lkT) with e | g
 . have:=a2 e C
   obtain⟨x1,x2,x3,x4⟩:=e;simp only[];rw[Kz,ov,bifF,K9 this,ow,bifT,w46];rfl
 have d1:=n2 r B;obtain⟨c1,c2,c3,c4⟩:=a3 g C;clear n2 n3 a2 a3;have S:LkR q y (l.map lkT):=by refine Classical.byContradiction λO=>?_;unfold Qb3 at C;rw[ol O] at C;cases C
 have R:AlR q y/\(rv U).length=y.Y.length/\(rv V).length=q.P.length:=by refine Classical.byContradiction λO=>?_;unfold nodesQ at B;rw[ol O] at B;cases B
 unfold Qb3 at C;rw[oq S] at C;unfold nodesQ at B;rw[oq R] at B;obtain⟨i1,i2,i3⟩:=Jcg B;rw[Jno] at i3;rw[ot] at i1;obtain⟨k1,⟨k2,k3,k4⟩,k5⟩:=S;obtain⟨_,k6,k7⟩:=R;rw[Jn] at k6 k7;have hpar:=k1.2.2;have hD:y.Y.length=q.Tape.Ax.toNat:=om
 have hszl:(szs y).length=(okT y.Ar).length:=by unfold szs;rw[ot]
 have htl:(tri y).length=(okT y.Ar).length:=Qmj y;have hM:∀ j,j<=r.length->QR 129 ((rv U::r).getD j [])/\((rv U::r).getD j []).length=q.Tape.Ax.toNat:=by
  intro j hj;cases j with
  | zero=>exact⟨QR_rv Z oz,by show(rv U).length=_;rw[Jn];omega⟩
  | succ j=>
    have d:r[j]?=some (r[j]' om):=oi om;have F:=xa (l:=r) (n:=j) om;generalize r[j]' om=x at d F;rw[List.getD_cons_succ,ou,d];exact⟨(d1 x F).1,by rw[ut,i2 x F,Jn];omega⟩
 have X:∀ i,∀ w∈rowsAt (l.map lkT) i,w.length=q.Tape.Ax.toNat:=λi w hw'=>by obtain⟨x,d,rfl⟩:=Qps hw';rw[Jn,(k4 x d).2.2];omega
 have key:=Q5l (p:=q) (V:=rv V) (A:=tri y) (W:=rowsAt (l.map lkT)) (M:=λj=>(rv U::r).getD j []) X i3 (tri y).length (List.replicate y.Y.length 0,List.replicate q.P.length 0) g (xm _) (by simp;exact hD) oc C;have s:=Q8o (l:=l.map lkT) (M:=λj=>(rv U::r).getD j []) (D:=q.Tape.Ax.toNat) (N:=(tri y).length) (λx d=>by obtain⟨q1,q2,_⟩:=k4 x d;exact⟨q1,om⟩) (l.map lkT).length (xm _);rw[xh] at s;rw[<-s,Yo (a:=List.replicate y.Y.length 0),Qjr,Yo (a:=List.replicate q.P.length 0),Qjr,ve,ge] at key;clear s C B i3;let c:Nat->Rat:=λi=>psum (rv ((l.map lkT).getD i ⟨0,[]⟩).W) ((rv U::r).getD ((l.map lkT).getD i ⟨0,[]⟩).Ay.toNat []) q.Tape.Ax.toNat;have hD6:q.Tape.Ax.toNat<=6:=om
 have hc:∀ i,i<l.length->qw (c i)<=1555:=by intro i hi;have d:(l.map lkT)[i]?=some ((l.map lkT)[i]' om):=oi om;have F:=xa (l:=l.map lkT) (n:=i) om;generalize (l.map lkT)[i]' om=x at d F;obtain⟨q1,q2,q3⟩:=k4 x F;show qw (psum (rv ((l.map lkT).getD i ⟨0,[]⟩).W) _ _)<=_;rw[ou,d,ut];refine xo (Qx9 (k:=129) oz (QR_rv (E x F).1 oz) (hM x.Ay.toNat om).1 _) ?_;have:=xc (2*129+1) hD6;omega
 have G:∀ i,i<=l.length->qw (sumN c i)<=1+i*1556:=by
  intro i
  induction i with
  | zero=>intro _;show qw 0<=_;rw[Y8];omega
  | succ i ih=>
    intro hi;have e:=Yz (ih om) (hc i om);rw[sumN];omega
 have hnl:(toRR (rv U::r)).length=r.length+1:=by rw[Qbg];rfl
 simp only[];rw[Kz,ov,bifF,bifF,X4 hn,sbind,V3 (λi=>(toF (sumN c i),(i:Int))) l.length (.go (toF (sumN c l.length)))]
 . have hq:=G l.length (xm _)
   have T:qw (sumN c l.length)<=10000:=om
   rw[Wv,Q3q (k:=30000) hn om om (K2 (Q8 c1 om)) (K2 c2) (K4 Z om) (K4 hV om) (by rw[Jl];omega) (by rw[Jl];omega) (by rw[Jl];omega) (by rw[Jl];omega),sbind,Jl,Jl,Vj,Vj];have e:sumN c l.length=psum g.1 (rv U) g.1.length+psum g.2 (rv V) g.2.length:=by rw[show g.1.length=q.Tape.Ax.toNat by omega,show g.2.length=q.Tape.A1.toNat by omega];rw[hll] at key;exact key
   simp only[];rw[bifT,<-e,Qgj (k:=10000) hn oz oz (Jq T) (Jq T),sbind,oo rfl,bifT,w46];rfl
 . intro i hi
   have d:l[i]?=some l[i]:=oi hi;have L:=ur (f:=lkT) (xa hi);have Y:(l.map lkT)[i]?=some (lkT l[i]):=by rw[xr,d];rfl
   have hWi:=K _ (xa hi);generalize l[i]=x at d L Y hWi;obtain⟨q1,q2,q3⟩:=k4 _ L;have q1':0<=x.Ay:=q1;have q2':x.Ay<=((szs y).length:Int):=q2;have q3':(x.W.map tF).length=y.Y.length:=q3;obtain⟨m,F⟩:∃ m:Nat,x.Ay=(m:Int):=⟨x.Ay.toNat,om⟩
   have w1':FR 129 (x.W.map tF):=(E _ L).1;have hmr:m<=r.length:=om
   obtain⟨M1,M2⟩:=hM m hmr;have hnode:(toRR (rv U::r))[m]?=some (toR ((rv U::r).getD m [])):=by unfold toRR;rw[xr,oi (show m<(rv U::r).length by show m<r.length+1;omega),ou,oi (show m<(rv U::r).length by show m<r.length+1;omega)];rfl
   have eci:c i=psum (rv (x.W.map tF)) ((rv U::r).getD m []) (x.W.map tF).length:=by show psum (rv ((l.map lkT).getD i ⟨0,[]⟩).W) ((rv U::r).getD ((l.map lkT).getD i ⟨0,[]⟩).Ay.toNat []) q.Tape.Ax.toNat=_;rw[ou,Y,ut,show(lkT x).Ay.toNat=m by show x.Ay.toNat=m;omega,q3',hD];rfl
   have hs:=G i om;have hci:=hc i hi;simp only[];rw[oo om,bifT,Jd d,sbind,oj om,bifF,sbind,hnl,oj om,bifF,sbind,Yt hn om,sbind,sbind,F,Jd hnode,sbind,Qto (k:=129) hn oz oz w1' (K2 M1) (by show(x.W.map tF).length<=_;rw[ot];omega),oq (by rw[Jl,M2];omega),sbind,Vj,<-eci];simp only[];rw[ov,bifF,Vy (k:=10000) hn oz oz (Jq om) (Jq om),sbind,Jc,Jc,w1 om];rfl
 . simp only[]
   rw[oj om,bifF]
 . unfold big;omega
 . rfl
end Go.Proofs.YtjmfkenegjhohaaGreatDoor
