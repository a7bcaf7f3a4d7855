import Derived.Test.YtbdgngdpkdagoabGreatDoorModaa
import Derived.Test.YtbdgngdpkdagoabGreatDoorPa1
namespace Go.Proofs.YtbdgngdpkdagoabGreatDoor
open Go Go.RowKit
theorem Q63{n:Nat}{f:Zb}(hn:big<=n):∃ v,Qd0 n f=some v/\(v=false->(f.T.N.length<=2/\f.T.D.length<=2)/\(f.H.N.length<=2/\f.H.D.length<=2)/\FL 4 2 f.Y):=by
 unfold Qd0;simp only[jn_eq];have e:∀ g:Qa,J2 g 2=some (!decide (g.N.length<=2/\g.D.length<=2)):=λg=>Qfi g 2;rw[e,sbind];by_cases a:f.T.N.length<=2/\f.T.D.length<=2
 case neg=>rw[oj a];exact⟨true,rfl,λh=>by cases h⟩
 rw[oi a,ot,bifF,e,sbind];by_cases d:f.H.N.length<=2/\f.H.D.length<=2
 case neg=>rw[oj d];exact⟨true,rfl,λh=>by cases h⟩
 rw[oi d,ot,bifF];obtain⟨u,i,j⟩:=Yb (l:=f.Y) (many:=4) (k:=2) hn oz;rw[show((4:Nat):Int)=4 from rfl,show((2:Nat):Int)=2 from rfl] at i;rw[i,sbind];exact⟨u,rfl,λh=>⟨a,d,j h⟩⟩
set_option maxRecDepth 100000
def addAt(l:List Rat)(a:Int)(c:Rat):List Rat:=l.set a.toNat (l.getD a.toNat 0+c)
theorem Qny{l:List Rat}{a:Int}{c:Rat}:(addAt l a c).length=l.length:=wk
theorem Jdd(l:List Qc)(i:Nat)(x:Qc):rv (l.set i x)=(rv l).set i (fv x):=by unfold rv;rw[List.map_set]
theorem Je7(l:List Rat)(i:Nat)(x:Rat):(toR l).set i (toF x)=toR (l.set i x):=by unfold toR;rw[List.map_set]
theorem Jde{k:Nat}{l:List Qc}{i:Nat}{x:Qc}(h:FR k l)(d:Fk k x):FR k (l.set i x):=λy a=>by rcases List.mem_or_eq_of_mem_set a with a | rfl;exact h y a;exact d
theorem Jnk{k:Nat}{l:List Rat}{i:Nat}{x:Rat}(h:QR k l)(d:qw x<=k):QR k (l.set i x):=λy a=>by rcases List.mem_or_eq_of_mem_set a with a | rfl;exact h y a;exact d
theorem Qqf{l:List Qc}{i:Nat}{x:Qc}(h:l[i]?=some x):(rv l).getD i 0=fv x:=by rw[xh];unfold rv;rw[yr,h];rfl
theorem Q8w{α:Type}{l:List α}{a:Int}(h0:0<=a)(d:a<(l.length:Int)):∃ x,l[a.toNat]?=some x/\getI l a=some x:=by
 obtain⟨i,rfl⟩:∃ i:Nat,a=(i:Int):=⟨a.toNat,om⟩
 have hi:i<l.length:=om
 exact⟨l[i],by rw[yo];exact oq hi,Qcx hi⟩
structure BkS where
 co:List Rat
 T:Rat
 Y:List Rat
 P:List Rat
def Qbg(x:Qz)(c r:Rat)(vs:List Rat)(s:BkS):BkS:=
 if c=0 then s else
 if x.Op=2 then ⟨s.co,s.T+c,s.Y,s.P⟩ else
 if x.Op=3 then ⟨s.co,s.T,addAt s.Y x.A c,s.P⟩ else
 if x.Op=4 then ⟨s.co,s.T,s.Y,addAt s.P x.A c⟩ else
 if x.Op=6 then ⟨addAt s.co x.A (-c),s.T,s.Y,s.P⟩ else
 if x.Op=7 then ⟨addAt (addAt s.co x.A c) x.B c,s.T,s.Y,s.P⟩ else
 if x.Op=8 then ⟨addAt (addAt s.co x.A c) x.B (-c),s.T,s.Y,s.P⟩ else
 if x.Op=9 then ⟨addAt (addAt s.co x.A (c*vs.getD x.B.toNat 0)) x.B (c*vs.getD x.A.toNat 0),s.T,s.Y,s.P⟩ else
 if x.Op=10 then ⟨addAt (addAt s.co x.A (c / vs.getD x.B.toNat 0)) x.B (-(c / vs.getD x.B.toNat 0*r)),s.T,s.Y,s.P⟩ else
 if x.Op=11 then ⟨addAt s.co x.A (c*((x.B:Rat)*turnQ (vs.getD x.A.toNat 0) r x.B)),s.T,s.Y,s.P⟩ else s
theorem Qub{x:Qz}{c r:Rat}{vs:List Rat}{s:BkS}:(Qbg x c r vs s).co.length=s.co.length/\(Qbg x c r vs s).Y.length=s.Y.length/\(Qbg x c r vs s).P.length=s.P.length:=by
 unfold Qbg
 repeat' split
 all_goals simp[Qny]
theorem Qwu{n b kc:Nat}{t:Qr}{done co gY gP:List Qc}{gT cF:Qc}{a:Int}(hn:big<=n)(l:1<=kc)(F:b+kc<1000000000)(f:FR b co)(i:Fk kc cF)(h0:0<=a)(C:a<(co.length:Int)):
 ∃ d,Ke n t done co gT gY gP a cF=some (t,done,gT,d)/\rv d=addAt (rv co) a (fv cF)/\FR (b+kc+1) d/\d.length=co.length:=by
 obtain⟨x,g1,B⟩:=Q8w h0 C;have j:=f x (gm g1);have G:=Zn (qw_fv (Vm j (show b<=b+kc by omega)) om) (qw_fv i l);have r:qw (fv x+fv cF)<=b+kc+1:=by
  by_cases q:1<=b
  . exact Zn (qw_fv j q) (qw_fv i l)
  . have m:b=0:=om
    subst m;have e:fv x=0:=by obtain⟨_,x2,_,x4⟩:=j;obtain⟨⟨E,s⟩,u⟩:=x;have v:s=[]:=ow (by simpa using x2);have A:u=[]:=ow (by simpa using x4);subst v;subst A;cases E<;>decide +kernel
    rw[e,Rat.zero_add];have:=qw_fv i l;omega
 unfold Ke;rw[B,sbind,Xt (k:=b+kc) hn om om (Vm j om) (Vm i om),sbind,sbind];refine⟨_,rfl,?_,Jde (W3 f om) (Js r),wk⟩;rw[Jdd,Jf];unfold addAt;rw[Qqf g1]
structure BkW(b:Nat)(co:List Qc)(s:BkS):Prop where
 c:rv co=s.co
 k:FR b co
 t:qw s.T<=b
 y:QR b s.Y
 p:QR b s.P
theorem BkW.mono{b d:Nat}{co:List Qc}{s:BkS}(h:BkW b co s)(a:b<=d):BkW d co s:=⟨h.c,W3 h.k a,xe h.t a,Jx h.y a,Jx h.p a⟩
theorem Qvk{b kc:Nat}{l:List Rat}{a:Int}{c:Rat}(d:1<=b)(h:QR b l)(e:qw c<=kc):QR (b+kc+1) (addAt l a c):=
 Jnk (Jx h om) (Zn (V4 h d) e)
theorem Jdf{n b:Nat}{t:Qr}{x:Qz}{i:Nat}{vs:List Rat}{co:List Qc}{s:BkS}(hn:big<=n)(hb1:129<=b)(hb:b<100000000)(hw:BkW b co s)(hx:t.Code[i]?=some x)(V:mayR t i x)
 (hv:QR 129 vs) (hvl:i<vs.length) (hcl:co.length=vs.length) (u:qw (s.co.getD i 0)<=129) (hy:(s.Y.length:Int)=t.A3) (hp:(s.P.length:Int)=t.A9) :
 ∃ d,Qan n t (toR vs) co (toF s.T) (toR s.Y) (toR s.P) (i:Int)=some (t,toR vs,toF (Qbg x (s.co.getD i 0) (vs.getD i 0) vs s).T,d,toR (Qbg x (s.co.getD i 0) (vs.getD i 0) vs s).Y,toR (Qbg x (s.co.getD i 0) (vs.getD i 0) vs s).P)/\BkW (b+3000) d (Qbg x (s.co.getD i 0) (vs.getD i 0) vs s)/\d.length=co.length:=by
 obtain⟨w1,Y,w3,Q,R⟩:=hw;have rd:=Qqb V;have hrow:vs[i]?=some vs[i]:=oq hvl;obtain⟨cF,L⟩:∃ cF,co[i]?=some cF:=⟨co[i]' om,oq _⟩
 have ec:s.co.getD i 0=fv cF:=by rw[<-w1];exact Qqf L
 rw[ec] at u |-;have kcF:Fk b cF:=Y cF (gm L);have dA:x.Op=6\/x.Op=11\/x.Op=7\/x.Op=8\/x.Op=9\/x.Op=10->0<=x.A/\x.A<(i:Int):=λh=>rd _ (rdT_A h);have dB:x.Op=7\/x.Op=8\/x.Op=9\/x.Op=10->0<=x.B/\x.B<(i:Int):=λh=>rd _ (rdT_B h);have gA:x.Op=6\/x.Op=11\/x.Op=7\/x.Op=8\/x.Op=9\/x.Op=10->getI (toR vs) x.A=some (toF (vs.getD x.A.toNat 0)):=λh=>Qkh (dA h).1 (by have:=(dA h).2;omega);have gB:x.Op=7\/x.Op=8\/x.Op=9\/x.Op=10->getI (toR vs) x.B=some (toF (vs.getD x.B.toNat 0)):=λh=>Qkh (dB h).1 (by have:=(dB h).2;omega);have gI:getI (toR vs) (i:Int)=some (toF (vs.getD i 0)):=by
  have:=Qkh (l:=vs) (r:=(i:Int)) om om;rwa [yo] at this
 have qA:qw (vs.getD x.A.toNat 0)<=129:=V4 hv oz;have qB:qw (vs.getD x.B.toNat 0)<=129:=V4 hv oz;have qI:qw (vs.getD i 0)<=129:=V4 hv oz;unfold Qan Qbg;rw[Je hx,sbind,Je L,sbind,Qdc (k:=b) hn om om kcF,sbind];simp only[bifd];have sg:(fv cF).num.sign=0↔fv cF=0:=by rw[dr,jb]
 by_cases c0:fv cF=0
 . rw[oo (sg.2 c0),oo c0]
   exact⟨co,rfl,⟨w1,W3 Y om,om,Jx Q om,Jx R om⟩,rfl⟩
 rw[ol λg=>c0 (sg.1 g),ol c0];generalize vs.getD x.A.toNat 0=va at gA qA |-;generalize vs.getD x.B.toNat 0=vb at gB qB |-;generalize vs.getD i 0=vi at gI qI |-;have kc2:Fk 129 (toF (fv cF)):=Js u;have kmono:FR (b+3000) co:=W3 Y om;by_cases o2:x.Op=2
 . simp only[oo o2]
   have K:=Zn w3 u;rw[Xt (k:=b) hn om om (Js w3) kcF,sbind,Jf];exact⟨co,rfl,⟨w1,kmono,by show qw (s.T+fv cF)<=_;omega,Jx Q om,Jx R om⟩,rfl⟩
 simp only[ol o2];by_cases o3:x.Op=3
 . simp only[oo o3]
   obtain⟨a1,a2⟩:=Qyx V o3;have q0:=V4 (i:=x.A.toNat) Q om;rw[Qkh a1 om,sbind,Xt (k:=b) hn om om (Js q0) kcF,sbind,sbind,Jf,Je7];exact⟨co,rfl,⟨w1,kmono,by show qw s.T<=_;omega,Jx (Qvk om Q u) om,Jx R om⟩,rfl⟩
 simp only[ol o3];by_cases o4:x.Op=4
 . simp only[oo o4]
   obtain⟨a1,a2⟩:=Qyy V o4;have q0:=V4 (i:=x.A.toNat) R om;rw[Qkh a1 om,sbind,Xt (k:=b) hn om om (Js q0) kcF,sbind,sbind,Jf,Je7];exact⟨co,rfl,⟨w1,kmono,by show qw s.T<=_;omega,Jx Q om,Jx (Qvk om R u) om⟩,rfl⟩
 simp only[ol o4];have wrap:∀ {d:List Qc}{l:List Rat}{k:Nat},rv d=l->FR k d->k<=b+3000->BkW (b+3000) d ⟨l,s.T,s.Y,s.P⟩:=λe hk hle=>⟨e,W3 hk hle,by show qw s.T<=_;omega,Jx Q om,Jx R om⟩
 have one:∀(a:Int) (q:Rat) (E:Nat),0<=a->a<(i:Int)->qw q<=E->1<=E->E<=1300->∃ d,Ke n t (toR vs) co (toF s.T) (toR s.Y) (toR s.P) a (toF q)=some (t,toR vs,toF s.T,d)/\rv d=addAt s.co a q/\FR (b+E+1) d/\d.length=co.length:=λa q E h0 h1 K M hk2=>by obtain⟨d,m,v,B,F⟩:=Qwu (n:=n) (t:=t) (done:=toR vs) (gT:=toF s.T) (gY:=toR s.Y) (gP:=toR s.P) hn M om Y (Js K) h0 om;rw[Jf,w1] at v;exact⟨d,m,v,B,F⟩
 have two:∀(a S:Int) (q q':Rat) (E I:Nat),0<=a->a<(i:Int)->qw q<=E->1<=E->E<=1300->0<=S->S<(i:Int)->qw q'<=I->1<=I->I<=1300->∃ f d,Ke n t (toR vs) co (toF s.T) (toR s.Y) (toR s.P) a (toF q)=some (t,toR vs,toF s.T,f)/\Ke n t (toR vs) f (toF s.T) (toR s.Y) (toR s.P) S (toF q')=some (t,toR vs,toF s.T,d)/\BkW (b+3000) d ⟨addAt (addAt s.co a q) S q',s.T,s.Y,s.P⟩/\d.length=co.length:=λa S q q' E I h0 h1 K M hk2 h0' h1' hq' hk1' hk2'=>by
  obtain⟨f,m,v,B,F⟩:=one a q E h0 h1 K M hk2;obtain⟨d,G,A,f3,f4⟩:=Qwu (n:=n) (t:=t) (done:=toR vs) (gT:=toF s.T) (gY:=toR s.Y) (gP:=toR s.P) (a:=S) hn hk1' om B (Js hq') h0' om;rw[Jf,v] at A;exact⟨f,d,m,G,wrap A f3 om,om⟩
 have send0:∀(a:Int),0<=a->a<(i:Int)->∃ d,Ke n t (toR vs) co (toF s.T) (toR s.Y) (toR s.P) a cF=some (t,toR vs,toF s.T,d)/\rv d=addAt s.co a (fv cF)/\FR (b+129+1) d/\d.length=co.length:=λa h0 h1=>by obtain⟨y,g1,g2⟩:=Q8w (l:=co) h0 om;have C:=Y y (gm g1);have K:=Zn (qw_fv C om) u;unfold Ke;rw[g2,sbind,Xt (k:=b) hn om om C kcF,sbind,sbind];refine⟨_,rfl,?_,Jde (W3 Y om) (Js K),wk⟩;rw[Jdd,Jf,<-w1];unfold addAt;rw[Qqf g1]
 have send1:∀ {f:List Qc}{U:Nat}(a:Int),b<=U->U<200000000->FR U f->f.length=co.length->0<=a->a<(i:Int)->∃ d,Ke n t (toR vs) f (toF s.T) (toR s.Y) (toR s.P) a cF=some (t,toR vs,toF s.T,d)/\rv d=addAt (rv f) a (fv cF)/\FR (U+129+1) d/\d.length=co.length:=fun {f U} a hb0 hb2 hk hl h0 h1=>by obtain⟨y,g1,g2⟩:=Q8w (l:=f) h0 om;have C:=hk y (gm g1);have K:=Zn (qw_fv C om) u;unfold Ke;rw[g2,sbind,Xt (k:=U) hn om om C (Vm kcF hb0),sbind,sbind];refine⟨_,rfl,?_,Jde (W3 hk om) (Js K),by rw[wk];exact hl⟩;rw[Jdd,Jf];unfold addAt;rw[Qqf g1]
 by_cases o6:x.Op=6
 . simp only[oo o6]
   obtain⟨d,m,v,B,F⟩:=one x.A (-fv cF) 129 (dA om).1 (dA om).2 (by rw[Qjz];exact u) oz oz;rw[Qi7 hn (Fk_Fw kcF om),sbind,m,sbind];exact⟨d,rfl,wrap v B om,F⟩
 simp only[ol o6];by_cases o7:x.Op=7
 . simp only[oo o7]
   obtain⟨f,m,v,B,F⟩:=send0 x.A (dA om).1 (dA om).2;obtain⟨d,G,A,f3,f4⟩:=send1 x.B om om B F (dB om).1 (dB om).2;rw[v] at A;rw[m,sbind];simp only[];rw[G,sbind];exact⟨d,rfl,wrap A f3 om,f4⟩
 simp only[ol o7];by_cases o8:x.Op=8
 . simp only[oo o8]
   obtain⟨f,m,v,B,F⟩:=send0 x.A (dA om).1 (dA om).2;obtain⟨d,G,A,f3,f4⟩:=Qwu (n:=n) (t:=t) (done:=toR vs) (gT:=toF s.T) (gY:=toR s.Y) (gP:=toR s.P) (a:=x.B) (cF:=toF (-fv cF)) (kc:=129) hn oz om B (Js (by rw[Qjz];exact u)) (dB om).1 (by have:=(dB om).2;omega);rw[v,Jf] at A;rw[m,sbind,Qi7 hn (Fk_Fw kcF om),sbind];simp only[];rw[G,sbind];exact⟨d,rfl,wrap A f3 om,om⟩
 simp only[ol o8];by_cases o9:x.Op=9
 . simp only[oo o9]
   have X:=Wa u qB;have q2:=Wa u qA;obtain⟨f,d,m,G,A,f3⟩:=two x.A x.B (fv cF*vb) (fv cF*va) 258 258 (dA om).1 (dA om).2 X oz oz (dB om).1 (dB om).2 q2 oz oz;rw[gB om,sbind,Xf (k:=b) hn om om kcF (Js om),sbind,Jf,m,sbind];simp only[];rw[gA om,sbind,Xf (k:=b) hn om om kcF (Js om),sbind,Jf,G,sbind];exact⟨d,rfl,A,f3⟩
 simp only[ol o9];by_cases o10:x.Op=10
 . simp only[oo o10]
   unfold Qjj;have X:=Qj0 u qB;have q2:=Wa X qI;have q3:qw (-(fv cF / vb*vi))<=387:=by rw[Qjz];omega
   obtain⟨f,d,m,G,A,f3⟩:=two x.A x.B (fv cF / vb) (-(fv cF / vb*vi)) 258 387 (dA om).1 (dA om).2 X oz oz (dB om).1 (dB om).2 q3 oz oz;have j:∃ ok,Qb9 n cF (toF vb)=some (toF (fv cF / vb),ok):=by
    rw[Qg9 (k:=b) hn om om kcF (Js om),Jf];by_cases N:vb=0
    . rw[oo N,N,show fv cF / 0=0 by rw[wh,Rat.inv_zero,Rat.mul_zero]];exact⟨_,rfl⟩
    . rw[ol N];exact⟨_,rfl⟩
   obtain⟨ok,j⟩:=j;rw[gI,sbind,gB om,sbind,j,sbind];simp only[];rw[m,sbind,Xf (k:=258) hn om om (Js om) (Js om),sbind,Jf,Jf,Qi7 hn (Fk_Fw (Js (k:=387) om) om),sbind,Jf];simp only[];rw[G,sbind,sbind];exact⟨d,rfl,A,f3⟩
 simp only[ol o10];by_cases P:x.Op=11
 . simp only[oo P]
   unfold Qjk;simp only[jn_eq,bifd];have hB8:x.B.natAbs<=8:=by unfold mayR at V;rw[ol (show ¬ x.Op=1 by omega),ol (show ¬ x.Op=2 by omega),ol (show ¬ x.Op=3 by omega),ol (show ¬ x.Op=4 by omega),ol (show ¬ x.Op=6 by omega),oo P] at V;have Z:=V.2.2;omega
   have qi:=Q5e (z:=x.B) hB8
   have O:∀ w:Rat,qw w<=1100->turnQ va vi x.B=w->∃ d,((Kt n x.B).bind λr22=>(Wq n r22 (toF w)).bind λr24=>(Wq n cF r24).bind λr26=>(Ke n t (toR vs) co (toF s.T) (toR s.Y) (toR s.P) x.A r26).bind λJ=>(some (J.1,J.2.1,J.2.2.1,J.2.2.2):Option (Qr×List Qc×Qc×List Qc)))=some (t,toR vs,toF s.T,d)/\BkW (b+3000) d ⟨addAt s.co x.A (fv cF*((x.B:Rat)*turnQ va vi x.B)),s.T,s.Y,s.P⟩/\d.length=co.length:=λw hw e=>by
    have X:=Wa qi hw;have q2:=Wa u X;obtain⟨d,m,v,B,F⟩:=one x.A (fv cF*((x.B:Rat)*w)) 1230 (dA om).1 (dA om).2 om oz oz;rw[Qlm hn om om,sbind,Xf (k:=1200) hn om om (Js om) (Js om),sbind,Jf,Jf,Xf (k:=b+1200) hn om om (Vm kcF om) (Js om),sbind,Jf,m,sbind,e];exact⟨d,rfl,wrap v B om,F⟩
   rw[gI,sbind,Qac hn,sbind];by_cases h0:0<x.B
   . have hw1:=Qyw qA (e:=x.B - 1) om
     obtain⟨d,k1,k2,k3⟩:=O (va ^ (x.B - 1)) om (by unfold turnQ;rw[oo h0]);rw[oo h0,gA om,sbind,w64 om om,Qpk (k:=129) hn om om (Js qA),sbind,Jf,ol (show ¬(x.B - 1 < -8\/8<x.B - 1\/(x.B - 1<0/\va=0)) by omega)];simp only[];rw[k1,sbind];exact⟨d,rfl,k2,k3⟩
   . rw[ol h0]
     by_cases Z:x.B<0
     . have hw1:=Qj0 qI qA
       have j:∃ ok,Qb9 n (toF vi) (toF va)=some (toF (vi / va),ok):=by
        rw[Qg9 (k:=129) hn om om (Js om) (Js om),Jf,Jf];by_cases N:va=0
        . rw[oo N,N,show vi / 0=0 by rw[wh,Rat.inv_zero,Rat.mul_zero]];exact⟨_,rfl⟩
        . rw[ol N];exact⟨_,rfl⟩
       obtain⟨ok,j⟩:=j;obtain⟨d,k1,k2,k3⟩:=O (vi / va) om (by unfold turnQ;rw[ol h0,oo Z]);rw[oo Z,gA om,sbind,j,sbind];simp only[];rw[k1,sbind];exact⟨d,rfl,k2,k3⟩
     . obtain⟨d,k1,k2,k3⟩:=O 0 (by rw[Qab];omega) (by unfold turnQ;rw[ol h0,ol Z])
       rw[ol Z,k1,sbind];exact⟨d,rfl,k2,k3⟩
 simp only[ol P];exact⟨co,rfl,⟨w1,kmono,om,Jx Q om,Jx R om⟩,rfl⟩
set_option maxRecDepth 100000
def pullQ(lim:Int)(code:List Qz)(vs:List Rat):Nat->BkS->Nat ⊕ BkS
 | 0,s=>.inr s
 | i+1,s=>match code[i]? with
   | none=>.inr s
   | some x=>if (qz (s.co.getD i 0):Int)<=lim then pullQ lim code vs i (Qbg x (s.co.getD i 0) (vs.getD i 0) vs s) else .inl i
def coQ(m:Nat)(outs:List Int)(w:List Rat):List Rat:=(List.zip outs w).foldl (λco z=>addAt co z.1 z.2) (List.replicate m 0)
def backQ(t:Qr)(lim:Int)(T:Rat)(Y P w:List Rat):(Int×Int×Nat) ⊕ (Rat×List Rat×List Rat):=
 match runQ lim T Y P t.Code 0 [] with
 | .inl e=>.inl (e.1,0,e.2)
 | .inr vs=>match pullQ lim t.Code vs vs.length ⟨coQ vs.length t.Av w,0,List.replicate t.A3.toNat 0,List.replicate t.A9.toNat 0⟩ with
   | .inl i=>.inl (6,2,i)
   | .inr s=>match fitQ lim (s.T::(s.Y++s.P)) 0 with
     | some j=>.inl (6,3,j)
     | none=>.inr (s.T,s.Y,s.P)
theorem Ja0{n k:Nat}{t:Qr}{p:Wt}{bits:Int}(hn:big<=n)(i:129<=k)(hk:k<1048576)(j:Q2k n k t)(d:Fk k p.T)(f:FR k p.Y)(a:FR k p.P)(m:(p.Y.length:Int)=t.A3)(hp:(p.P.length:Int)=t.A9):
 Qlx n t p bits=some (match runQ (min (max bits 0) 4096) (fv p.T) (rv p.Y) (rv p.P) t.Code 0 [] with | .inl e=>([],⟨e.1,0,0,(e.2:Int)⟩) | .inr l=>(toR l,⟨0,0,0,0⟩)):=by
 obtain⟨r,h,w⟩:=j;obtain⟨⟨q,s⟩,⟨u,v⟩,x,A⟩:=r.1;have eT:=qw_fv d om;have eY:=QR_rv f om;have eP:=QR_rv a om;unfold Qlx Qhy Z1;rw[Va hn (Fk_Fw d om),sbind,Qds hn om f om,sbind,Qds hn om a om,sbind,sbind,sbind];simp only[];obtain⟨B,e⟩:=Jcz (g:=⟨⟨0,0⟩,min (max bits 0) 4096⟩) hn i hk r h w eT eY eP (by rw[J5];exact m) (by rw[J5];exact hp) (by simp only[];omega);rw[e,sbind];simp only[];cases runQ (min (max bits 0) 4096) (fv p.T) (rv p.Y) (rv p.P) t.Code 0 []<;>rfl
theorem Jdg(m:Nat):rv (List.replicate m (⟨⟨false,[]⟩,[]⟩:Qc))=List.replicate m 0:=by unfold rv;rw[List.map_replicate];congr 1
theorem Jdh(m k:Nat):FR k (List.replicate m (⟨⟨false,[]⟩,[]⟩:Qc)):=λx a=>by rw[(jo.1 a).2];exact⟨(λ_ h=>by cases h),ya _,(λ_ h=>by cases h),ya _⟩
theorem Ja1{α β:Type}{a:List α}{b:List β}{i:Nat}{x:α}{y:β}(d:a[i]?=some x)(e:b[i]?=some y):(List.zip a b).take (i+1)=(List.zip a b).take i++[(x,y)]:=by
 have:(List.zip a b)[i]?=some (x,y):=by rw[jg];exact⟨d,e⟩
 rw[gc,this];rfl
theorem Qy9{n:Nat}{a b:Nat}(hn:big<=n)(d:a<=300)(e:b<=300):Qmp n (a:Int) (b:Int)=some (toF 0,toR (List.replicate a 0),toR (List.replicate b 0)):=by unfold Qmp;rw[Qac hn,sbind,Qmh hn d,sbind,Qmh hn e,sbind]
theorem Q64{k m:Nat}(hk:1<=k):QR k (List.replicate m 0):=λq a=>by rw[(jo.1 a).2,Qab];exact hk
theorem Jh4{n:Nat}{t:Qr}{vs:List Rat}{F:Qc×List Qc×List Qc}(hn:big<=n)(X:tapeR t)(Y:QR 129 vs)(Z:vs.length=t.Code.length):∀(i:Nat) (m:Nat) (co:List Qc) (s:BkS) (g:Ql) (b:Nat),i<=vs.length->i<m->129<=b->b+i*3000<100000000->BkW b co s->co.length=vs.length->(s.Y.length:Int)=t.A3->(s.P.length:Int)=t.A9->g.limit<=4096 ->
 ∃ C f,C.limit=g.limit/\loopM (λ(a:Qr×(List Qc)×(List Qc)×Qc×(List Qc)×(List Qc)×Ql×Int)=>
  bif decide ((0:Int)<=a.2.2.2.2.2.2.2) then (
   (getI a.2.2.1 a.2.2.2.2.2.2.2).bind λK=>
   (K3 n K).bind λJ=>
   (Wx n a.2.2.2.2.2.2.1 J).bind λB=>
   bif !B.1 then (
    some (Lp.out (Lp.out (((⟨F.1,F.2.1,F.2.2⟩:Wu),(⟨(6:Int),0,(2:Int),a.2.2.2.2.2.2.2⟩:Qe))))))
   else (
    (Qan n a.1 a.2.1 a.2.2.1 a.2.2.2.1 a.2.2.2.2.1 a.2.2.2.2.2.1 a.2.2.2.2.2.2.2).bind λd=>
    some (Lp.go (d.1,d.2.1,d.2.2.2.1,d.2.2.1,d.2.2.2.2.1,d.2.2.2.2.2,B.2,wrap64 (a.2.2.2.2.2.2.2 - (1:Int))))))
  else (
   some (Lp.out (Lp.go (a.1,a.2.1,a.2.2.1,a.2.2.2.1,a.2.2.2.2.1,a.2.2.2.2.2.1,a.2.2.2.2.2.2.1))))) m (t,toR vs,co,toF s.T,toR s.Y,toR s.P,g,(i:Int) - 1) =
   some (match pullQ g.limit t.Code vs i s with | .inl j=>Lp.out (((⟨F.1,F.2.1,F.2.2⟩:Wu),(⟨6,0,2,(j:Int)⟩:Qe))) | .inr z=>Lp.go (t,toR vs,f,toF z.T,toR z.Y,toR z.P,C)) /\
   ∀ z,pullQ g.limit t.Code vs i s=.inr z->qw z.T<=b+i*3000/\QR (b+i*3000) z.Y/\QR (b+i*3000) z.P/\z.Y.length=s.Y.length/\z.P.length=s.P.length:=by
 intro i
 induction i with
 | zero=>
   intro m co s g b _ M A _ l _ _ _ _;refine⟨g,co,rfl,?_,?_⟩;simp only[pullQ];refine Vs ?_ M;rw[oj (show ¬(0:Int)<=((0:Nat):Int) - 1 by omega),bifF];intro z v;simp only[pullQ] at v;cases v;exact⟨by have:=l.t;omega,Jx l.y om,Jx l.p om,rfl,rfl⟩
 | succ i ih=>
   intro m co s g b hi M A S l I N hp V;have E:t.Code[i]?=some (t.Code[i]' om):=oq _;generalize t.Code[i]' om=x at E;obtain⟨cF,e⟩:∃ cF,co[i]?=some cF:=⟨co[i]' om,oq _⟩
   have L:s.co.getD i 0=fv cF:=by rw[<-l.c];exact Qqf e
   have kcF:Fk b cF:=l.k cF (gm e);have hq:=qw_fv kcF om;obtain⟨m,rfl⟩:∃ q,m=q+1:=⟨m - 1,om⟩
   simp only[pullQ,E];by_cases u:(qz (s.co.getD i 0):Int)<=g.limit;have U:qw (s.co.getD i 0)<=129:=by have:=qw_qz (q:=s.co.getD i 0) (b:=4096) om;omega
   obtain⟨f,O,P,e3⟩:=Jdf (i:=i) hn A om l E (X.2.1 i x E) Y om I U N hp;obtain⟨l1,l2,l3⟩:=Qub (x:=x) (c:=s.co.getD i 0) (r:=vs.getD i 0) (vs:=vs) (s:=s);simp only[oo u];rw[L] at u;obtain⟨C,G,Q,R,f3⟩:=ih m f _ (noteG g (fv cF)) (b+3000) om om om om P om (by rw[l2];exact N) (by rw[l3];exact hp) V;refine⟨C,G,Q,?_,λz v=>?_⟩;refine(Qb5 ?_).trans R;rw[show((i+1:Nat):Int) - 1=(i:Int) by omega,oi (show(0:Int)<=(i:Int) by omega),bifT,Je e,sbind,Va hn (Fk_Fw kcF om),sbind,Qqa hn om,sbind];simp only[];rw[oi u,ot,bifF,O,sbind,w64 om om];obtain⟨k1,k2,k3,k4,k5⟩:=f3 z v;exact⟨om,Jx k2 om,Jx k3 om,om,om⟩;simp only[ol u];rw[L] at u;refine⟨g,co,rfl,?_,λz v=>by cases v⟩;refine Vs ?_ om;rw[show((i+1:Nat):Int) - 1=(i:Int) by omega,oi (show(0:Int)<=(i:Int) by omega),bifT,Je e,sbind,Va hn (Fk_Fw kcF om),sbind,Qqa hn om,sbind];simp only[];rw[oj u,ov,bifT]
theorem Q8x{n k kw:Nat}{t:Qr}{p:Wt}{w:List Qc}{bits:Int}(hn:big<=n)(h1:129<=k)(hk:k<1048576)(I:1<=kw)(hkw:kw<=1000000)(S:Q2k n k t)(hT:Fk k p.T)(hY:FR k p.Y)(hP:FR k p.P)(hw:FR kw w)(hy:(p.Y.length:Int)=t.A3)(hp:(p.P.length:Int)=t.A9)(hwl:w.length=t.Av.length):
 Qov n t p w bits=some (match backQ t (min (max bits 0) 4096) (fv p.T) (rv p.Y) (rv p.P) (rv w) with | .inl e=>(⟨toF 0,[],[]⟩,⟨e.1,0,e.2.1,(e.2.2:Int)⟩) | .inr z=>(⟨toF z.1,toR z.2.1,toR z.2.2⟩,⟨0,0,0,0⟩)) /\
 (∀ e,backQ t (min (max bits 0) 4096) (fv p.T) (rv p.Y) (rv p.P) (rv w)=.inl e->e.1≠0)/\∀ z,backQ t (min (max bits 0) 4096) (fv p.T) (rv p.Y) (rv p.P) (rv w)=.inr z->QR 129 z.2.1/\QR 129 z.2.2/\(z.2.1.length:Int)=t.A3/\(z.2.2.length:Int)=t.A9:=by
 have hd:=S.r.1;obtain⟨⟨d1,d2⟩,⟨d3,d4⟩,d5,d6⟩:=hd;unfold Qov backQ;have z0:=Qy9 (n:=n) (a:=0) (b:=0) hn oz oz;rw[show((0:Nat):Int)=0 from rfl] at z0;rw[z0,sbind,oi (show(w.length:Int)=(t.Av.length:Int) by omega),ot,bifF,Ja0 hn h1 hk S hT hY hP hy hp,sbind];cases hr:runQ (min (max bits 0) 4096) (fv p.T) (rv p.Y) (rv p.P) t.Code 0 [] with
 | inl e=>
   have hk:=Qqc hr;simp only[];rw[Yx om,ov,bifT];exact⟨rfl,(λg hg=>by cases hg;show e.1≠0;omega),λz hz=>by cases hz⟩
 | inr vs=>
   obtain⟨l1,l2⟩:=Quh om (λ_ h=>by cases h) hr;have hl:vs.length=t.Code.length:=by simpa using l1
   simp only[];rw[Wf,ot,bifF,Kr,Qgl om om,sbind];have zz:=Qy9 (n:=n) (a:=t.A3.toNat) (b:=t.A9.toNat) hn om om;rw[Int.toNat_of_nonneg om,Int.toNat_of_nonneg d3] at zz;rw[zz,sbind]
   have L:∀(os:List Int) (i:Nat) (co:List Qc) (q:List Rat) (b:Nat) (K:Lp (Qr×(List Qc)×(List Qc)×Qc) (Wu×Qe)->Option (Wu×Qe)),(∀(j:Nat) o,os[j]?=some o->(0<=o/\o<(vs.length:Int))/\t.Av[i+j]?=some o)->i+os.length=t.Av.length->rv co=q->FR b co->co.length=vs.length->b+os.length*(kw+1)<1000000000 ->
    ∃ f,(rangeL (λ(i27:Nat) (x28:Int) (A:Qr×(List Qc)×(List Qc)×Qc)=>
      (getI w (i27:Int)).bind λy30=>
      (Ke n A.1 A.2.1 A.2.2.1 A.2.2.2 (toR (List.replicate t.A3.toNat 0)) (toR (List.replicate t.A9.toNat 0)) x28 y30).bind λv=>
      some (Lp.go (v.1,v.2.1,v.2.2.2,v.2.2.1))) os i (t,toR vs,co,toF 0)).bind K=K (.go (t,toR vs,f,toF 0))/\rv f=(List.zip os ((rv w).drop i)).foldl (λco z=>addAt co z.1 z.2) q/\FR (b+os.length*(kw+1)) f/\f.length=vs.length:=by
    intro os
    induction os with
    | nil=>
      intro i co q b K _ _ e Z hc _;exact⟨co,rfl,by rw[List.zip_nil_left];exact e,W3 Z om,hc⟩
    | cons o os ih=>
      intro i co q b K hm hi e Z hc hlt;rw[xm] at hi hlt;obtain⟨⟨o1,o2⟩,o3⟩:=hm 0 o rfl;have C:i<w.length:=om
      have M:w[i]?=some w[i]:=oq C;have N:=hw w[i] (xb C);have hdrop:(rv w).drop i=fv w[i]::(rv w).drop (i+1):=by
       have G:i<(rv w).length:=by rw[J5];exact C
       rw[xi G];congr 1;exact List.getElem_map _
      generalize w[i]=wi at M N hdrop;have J:(os.length+1)*(kw+1)=os.length*(kw+1)+(kw+1):=vk _ _;obtain⟨X,s1,s2,s3,s4⟩:=Qwu (n:=n) (t:=t) (done:=toR vs) (gT:=toF 0) (gY:=toR (List.replicate t.A3.toNat 0)) (gP:=toR (List.replicate t.A9.toNat 0)) (a:=o) hn I om Z N o1 om
      obtain⟨f,Y,Q,f3,f4⟩:=ih (i+1) X (addAt q o (fv wi)) (b+kw+1) K (λj o' R=>by
       have:=hm (j+1) o' (by simpa using R)
       rwa [show i+(j+1)=i+1+j by omega] at this) om (by rw[s2,e]) s3 om om
      refine⟨f,?_,?_,W3 f3 (by rw[xm,J];omega),f4⟩
      . simp only[rangeL]
        rw[Je M,sbind,s1,sbind];exact Y
      . rw[hdrop,List.zip_cons_cons,jx]
        exact Q
   have hkm:t.Av.length*(kw+1)<=6*(kw+1):=xt _ om
   obtain⟨f,Y,Q,f3,f4⟩:=L t.Av 0 (List.replicate vs.length ⟨⟨false,[]⟩,[]⟩) (List.replicate vs.length 0) 129 (lpK λ(B:Qr×(List Qc)×(List Qc)×Qc)=>
    (Z1 bits).bind λr35=>
    (loopM (λ(d:Qr×(List Qc)×(List Qc)×Qc×(List Qc)×(List Qc)×Ql×Int)=>
     bif decide ((0:Int)<=d.2.2.2.2.2.2.2) then (
      (getI d.2.2.1 d.2.2.2.2.2.2.2).bind λy58=>
      (K3 n y58).bind λr60=>
      (Wx n d.2.2.2.2.2.2.1 r60).bind λO=>
      bif !O.1 then (
       some (Lp.out (Lp.out (((⟨toF 0,toR (List.replicate 0 0),toR (List.replicate 0 0)⟩:Wu),(⟨(6:Int),0,(2:Int),d.2.2.2.2.2.2.2⟩:Qe))))))
      else (
       (Qan n d.1 d.2.1 d.2.2.1 d.2.2.2.1 d.2.2.2.2.1 d.2.2.2.2.2.1 d.2.2.2.2.2.2.2).bind λs=>
       some (Lp.go (s.1,s.2.1,s.2.2.2.1,s.2.2.1,s.2.2.2.2.1,s.2.2.2.2.2,O.2,wrap64 (d.2.2.2.2.2.2.2 - (1:Int))))))
     else (
      some (Lp.out (Lp.go (d.1,d.2.1,d.2.2.1,d.2.2.2.1,d.2.2.2.2.1,d.2.2.2.2.2.1,d.2.2.2.2.2.2.1))))) n (B.1,B.2.1,B.2.2.1,B.2.2.2,toR (List.replicate t.A3.toNat 0),toR (List.replicate t.A9.toNat 0),r35,wrap64 ((vs.length:Int) - (1:Int)))).bind (lpK λ(r:Qr×(List Qc)×(List Qc)×Qc×(List Qc)×(List Qc)×Ql)=>
    (Qqz (⟨r.2.2.2.1,r.2.2.2.2.1,r.2.2.2.2.2.1⟩:Wu)).bind λr66=>
    (Y0 n r.2.2.2.2.2.2 r66).bind λP=>
    bif !P.2.1 then (
     some ((⟨toF 0,toR (List.replicate 0 0),toR (List.replicate 0 0)⟩:Wu),(⟨(6:Int),0,(3:Int),P.1⟩:Qe)))
    else (
     some ((⟨r.2.2.2.1,r.2.2.2.2.1,r.2.2.2.2.2.1⟩:Wu),(⟨0,0,0,0⟩:Qe))))) (λj o R=>by rw[xj];exact⟨by have:=S.r.2.2 o (Jr R);omega,R⟩) om (Jdg _) (Jdh _ _) oc om
   rw[gy] at Q;have hw0:BkW (129+t.Av.length*(kw+1)) f ⟨coQ vs.length t.Av (rv w),0,List.replicate t.A3.toNat 0,List.replicate t.A9.toNat 0⟩:=⟨Q,f3,by show qw 0<=_;rw[Qab];omega,Q64 om,Q64 om⟩
   obtain⟨g',co2,p1,p2,p3⟩:=Jh4 (F:=(toF 0,toR (List.replicate 0 0),toR (List.replicate 0 0))) hn S.r l2 hl vs.length n f _ ⟨⟨0,0⟩,min (max bits 0) 4096⟩ _ (xn _) (by unfold big at hn;omega) om om hw0 f4 oh oh (by show min (max bits 0) 4096<=4096;omega);refine⟨?_,?_,?_⟩
   . refine Eq.trans Y ?_
     rw[Xi];unfold Z1;rw[sbind,w64 om om];simp only[] at p2 |-;rw[p2,sbind];cases hp:pullQ (min (max bits 0) 4096) t.Code vs vs.length ⟨coQ vs.length t.Av (rv w),0,List.replicate t.A3.toNat 0,List.replicate t.A9.toNat 0⟩ with
     | inl j=>rfl
     | inr z=>
       obtain⟨b1,b2,b3,U,V⟩:=p3 z hp;simp only[ur] at U V;simp only[];rw[Xi];unfold Qqz;simp only[];rw[Vt (by rw[Kr];simp;omega) (by rw[Kr];simp;omega),sbind,Vt (by simp only[yy,Kr,xm,yh];omega) (by simp only[yy,Kr,xm,yh];omega),sbind,sbind];have el:[toF z.T]++toR z.Y++toR z.P=toR (z.T::(z.Y++z.P)):=by unfold toR;simp
       obtain⟨g2,r1,r2⟩:=Q0a (g:=g') (l:=z.T::(z.Y++z.P)) hn (λx u=>by
        rcases xg.1 u with rfl | u
        . omega
        . rcases ym.1 u with u | u
          . have:=b2 x u;omega
          . have:=b3 x u;omega)
       rw[el,r2,sbind,p1];simp only[];cases fitQ (min (max bits 0) 4096) (z.T::(z.Y++z.P)) 0<;>rfl
   . intro e m
     cases hp:pullQ (min (max bits 0) 4096) t.Code vs vs.length ⟨coQ vs.length t.Av (rv w),0,List.replicate t.A3.toNat 0,List.replicate t.A9.toNat 0⟩ with
     | inl j=>rw[hp] at m;cases m;show(6:Int)≠0;decide
     | inr z=>
       rw[hp] at m;simp only[] at m;cases E:fitQ (min (max bits 0) 4096) (z.T::(z.Y++z.P)) 0 with
       | some j=>rw[E] at m;cases m;show(6:Int)≠0;decide
       | none=>rw[E] at m;cases m
   . intro e m
     cases hp:pullQ (min (max bits 0) 4096) t.Code vs vs.length ⟨coQ vs.length t.Av (rv w),0,List.replicate t.A3.toNat 0,List.replicate t.A9.toNat 0⟩ with
     | inl j=>rw[hp] at m;cases m
     | inr z=>
       obtain⟨b1,b2,b3,U,V⟩:=p3 z hp;simp only[ur] at U V;rw[hp] at m;simp only[] at m;cases E:fitQ (min (max bits 0) 4096) (z.T::(z.Y++z.P)) 0 with
       | some j=>rw[E] at m;cases m
       | none=>
         rw[E] at m;cases m;have hq:=Qmw om E;exact⟨λx u=>hq x (.tail _ (yp _ u)),λx u=>hq x (.tail _ (uh _ u)),by show(z.Y.length:Int)=_;omega,by show(z.P.length:Int)=_;omega⟩
set_option maxRecDepth 100000
def bslQ(As:List (List Rat))(b H:Rat)(W:List Rat)(i:Nat)(ls:List (List Rat)):List Rat:=
 scaleQ H (mixQ ((As.drop (i+1)).map λa=>a.getD i 0) ls (scaleQ b W))
def bstageQ(t:Qr)(lim:Int)(T H:Rat)(P y:List Rat)(c:Rat)(k:List Rat)(i:Nat):Qe ⊕ (List Rat×List Rat):=
 match fitQ lim k 0 with
 | some j=>.inl ⟨6,0,(i:Int),300+(j:Int)⟩
 | none=>match backQ t lim (T+H*c) y P k with
   | .inl e=>.inl ⟨e.1,0,(i:Int),(e.2.2:Int)⟩
   | .inr z=>.inr (z.2.1,z.2.2)
structure BdS where
 ls:List (List Rat)
 Y:List Rat
 P:List Rat
def bstagesQ(t:Qr)(s:Q2)(lim:Int)(T H:Rat)(P W:List Rat)(yss:List (List Rat)):Nat->BdS->Qe ⊕ BdS
 | 0,z=>.inr z
 | i+1,z=>match bstageQ t lim T H P (yss.getD i []) ((rv s.C).getD i 0) (bslQ (s.A.map rv) ((rv s.B).getD i 0) H W i z.ls) i with
   | .inl f=>.inl f
   | .inr g=>bstagesQ t s lim T H P W yss i ⟨g.1::z.ls,addQ z.Y g.1,addQ z.P g.2⟩
def bdoQ(t:Qr)(s:Q2)(lim:Int)(T H:Rat)(P W:List Rat)(yss:List (List Rat)):Qe ⊕ (List Rat×List Rat):=
 match bstagesQ t s lim T H P W yss s.B.length ⟨[],W,List.replicate P.length 0⟩ with
 | .inl f=>.inl f
 | .inr z=>match fitQ lim z.Y 0 with
   | some j=>.inl ⟨6,0,(s.B.length:Int),300+(j:Int)⟩
   | none=>match fitQ lim z.P 0 with
     | some j=>.inl ⟨6,0,(s.B.length:Int)+1,300+(j:Int)⟩
     | none=>.inr (z.Y,z.P)
theorem Jla{out l:List Rat}{c:Rat}:addQ out (scaleQ c l)=List.zipWith (λx o=>o+c*x) l out:=by unfold addQ scaleQ;rw[jt,List.zipWith_comm]
theorem Q02{n k:Nat}{a b c d:List Qc}(hn:big<=n)(j:1<=k)(hk:k<1099511627776)(l:FR k a)(m:FR k b)(q:FR k c)(hd:FR k d)(r:a.length<=1000000)(i:b.length<=1000000):
 Qn5 n ⟨a,b⟩ ⟨c,d⟩=some (if a.length=c.length/\b.length=d.length then (⟨toR (addQ (rv a) (rv c)),toR (addQ (rv b) (rv d))⟩,true) else (⟨[],[]⟩,false)):=by
 unfold Qn5;rw[Qln hn j hk l q r,sbind,Qln hn j hk m hd i,sbind];simp only[jn_eq];by_cases e:a.length=c.length;by_cases f:b.length=d.length;rw[oo e,oo f,oo ⟨e,f⟩];rfl;rw[oo e,ol f,ol (λh:a.length=c.length/\b.length=d.length=>f h.2)];rfl;rw[ol e,ol (λh:a.length=c.length/\b.length=d.length=>e h.1)];rfl
section
variable {n k:Nat}{p:Qn}{t h:Qc}{y w:List Qc}{g:Ql}{md:Ju}{sm:Vc}
theorem Q0g{l:List Rat}{ys:List (List Qc)}{x2:Int}(hn:big<=n)(i:QR 1099511627775 l)(m:l.length<=1000):
 ∃ a,a.limit=g.limit/\Yh n p t h w md ys sm g (toR l) x2=some (match fitQ g.limit l 0 with | none=>(⟨0,0,0,0⟩,a) | some j=>(⟨6,0,x2,300+(j:Int)⟩,a)):=by
 obtain⟨a,d,e⟩:=Q0a (g:=g) hn i;refine⟨a,d,?_⟩;unfold Yh;rw[e,sbind];cases f:fitQ g.limit l 0 with
 | none=>rfl
 | some j=>
   have:=Qgv f;simp only[ov,bifT];rw[w64 om om]
theorem Jdi{i:Nat}{b:Qc}{ls:List (List Rat)}{ys:List (List Qc)}(hn:big<=n)(h0:129<=k)(hk:k<8000)(ok:PrbOK n k p t h y)(hw:FR k w)(hwl:w.length=y.length)(Z:p.Ap.B[i]?=some b)(hls:ls.length+(i+1)=p.Ap.B.length)
 (f:∀ a∈ls,QR 129 a/\a.length=y.length) (O:∀(q:Nat) a,ls[q]?=some a->ys[i+1+q]?=some (toR a)) :
 Qcu n p t h w md ys sm g (i:Int)=some (toR (bslQ (p.Ap.A.map rv) (fv b) (fv h) (rv w) i ls))/\QR (21*k) (bslQ (p.Ap.A.map rv) (fv b) (fv h) (rv w) i ls)/\(bslQ (p.Ap.A.map rv) (fv b) (fv h) (rv w) i ls).length=w.length:=by
 obtain⟨⟨d1,d2⟩,⟨d3,d4⟩,d5,d6⟩:=ok.tp.r.1;obtain⟨⟨g1,g2⟩,g3,g4,g5,g6⟩:=ok.sr.2.1;have hyl:=ok.yl;have A:=ok.sw.b b (Jr Z);have J:=qw_fv A om;have I:=qw_fv ok.hk om;have q0:=Qnr J (QR_rv hw om);have l0:(scaleQ (fv b) (rv w)).length=w.length:=by rw[Qcd,J5]
 have loop:∀(r:List (List Qc)) (ls:List (List Rat)) (j m c:Nat) (out:List Rat),r.length=ls.length->j+r.length=p.Ap.B.length->(∀(q:Nat) a,r[q]?=some a->p.Ap.A[j+q]?=some a)->(∀(q:Nat) a,ls[q]?=some a->ys[j+q]?=some (toR a))->(∀ a∈ls,QR 129 a/\a.length=y.length)->i<j->QR c out->1<=c->c+r.length*(k+130)<100000000->out.length=y.length->r.length<m ->
  loopM (λ(d:(List Qc)×Int)=>
   bif decide (d.2<(p.Ap.B.length:Int)) then (
    (getI p.Ap.A d.2).bind λS=>
    (getI S (i:Int)).bind λU=>
    (getI ys d.2).bind λV=>
    (Ye n U V).bind λQ=>
    (Qgg n ([d.1,Q]:List (List Qc))).bind λR=>
    some (Lp.go (R.1,wrap64 (d.2+(1:Int)))))
   else (
    some (Lp.out d.1))) m (toR out,(j:Int))=some (toR (mixQ (r.map λa=>(rv a).getD i 0) ls out)):=by
  intro r
  induction r with
  | nil=>
    intro ls j m c out s M _ _ _ _ _ _ _ _ F;rw[yh] at s M F;have:ls=[]:=ow s.symm;subst this;refine Vs ?_ F;rw[oj om,bifF];rfl
  | cons a r ih=>
    intro ls j m c out s M X Y G hij C hc1 K hol F;rw[xm] at s M F K;obtain⟨l,ls,rfl⟩:∃ l P,ls=l::P:=by
     cases ls with
     | nil=>simp at s
     | cons l ls=>exact⟨l,ls,rfl⟩
    rw[xm] at s;obtain⟨m,rfl⟩:∃ q,m=q+1:=⟨m - 1,om⟩
    have eA:p.Ap.A[j]?=some a:=X 0 a rfl;have eY:ys[j]?=some (toR l):=Y 0 l rfl;obtain⟨lq,ll⟩:=G l (.head _);have hal:=g6 j a eA;obtain⟨x,N⟩:∃ x,a[i]?=some x:=⟨a[i]' om,oq _⟩
    have E:=ok.sw.a a (Jr eA) x (Jr N);have hmul:(r.length+1)*(k+130)=r.length*(k+130)+(k+130):=vk _ _;have q1:=Qnr (qw_fv E om) lq;have q2:=Qu8 C q1;have e1:(addQ out (scaleQ (fv x) l)).length=y.length:=by rw[Qf4,Qcd];omega
    refine(Qb5 ?_).trans (ih ls (j+1) m (c+(k+129)+1) (addQ out (scaleQ (fv x) l)) om om (λq u e=>by have:=X (q+1) u (by simpa using e);rwa [show j+(q+1)=j+1+q by omega] at this) (λq u e=>by have:=Y (q+1) u (by simpa using e);rwa [show j+(q+1)=j+1+q by omega] at this) (λu e=>G u (.tail _ e)) om q2 om om e1 om) |>.trans ?_
    simp only[];rw[oi om,bifT,Je eA,sbind,Je N,sbind,Je eY,sbind,Qbe (k:=k) hn om om E (W3 (X8 lq) h0) (by rw[Kr];omega),sbind,Zo,Qln (k:=c+(k+129)) hn om om (X8 (Jx C om)) (X8 (Jx q1 om)) (by rw[Kr];omega),sbind,Kr,Kr,Qcd,oo om,Zo,Zo,w1 om];simp only[yv,mixQ];rw[Jla,Qqf N]
 have B:(p.Ap.A.drop (i+1)).length=ls.length:=by rw[uy];omega
 have hm8:ls.length*(k+130)<=8*(k+130):=xt _ om;have e0:=loop (p.Ap.A.drop (i+1)) ls (i+1) n (k+k) (scaleQ (fv b) (rv w)) B om (λq a e=>by rwa [vw] at e) O f om q0 om (by rw[B];omega) om (by unfold big at hn;omega);have ea:((p.Ap.A.map rv).drop (i+1)).map (λa=>a.getD i 0)=(p.Ap.A.drop (i+1)).map λa=>(rv a).getD i 0:=by
  rw[<-jc,vo];rfl
 have L:QR k ((p.Ap.A.drop (i+1)).map λa=>(rv a).getD i 0):=λq G=>by obtain⟨a,v,rfl⟩:=xd.1 G;exact V4 (QR_rv (ok.sw.a a (wn v)) om) om
 have qm:=Qu9 (k:=129) L (λa v=>(f a v).1) q0;have lm:=Ql3 (m:=w.length) (cs:=(p.Ap.A.drop (i+1)).map λa=>(rv a).getD i 0) (l:=ls) (λa v=>by rw[(f a v).2];omega) l0;have hm8':ls.length*(k+129+1)<=8*(k+129+1):=xt _ om;unfold bslQ;rw[ea];refine⟨?_,Jx (Qnr I qm) om,by rw[Qcd];exact lm⟩;unfold Qcu;rw[Je Z,sbind,Qbe (k:=k) hn om om A hw om,sbind,w1 om,e0,sbind,Qbe (k:=21*k) hn om om (Vm ok.hk om) (X8 (Jx qm om)) (by rw[Kr];omega),sbind,Zo]
theorem Jee{i:Nat}{b c:Qc}{d sY sP:List Rat}{ls yss:List (List Rat)}{ys ks0:List (List Qc)}{nx er:List Qc}{bb:Nat}(hn:big<=n)(h0:129<=k)(hk:k<8000)(ok:PrbOK n k p t h y)(hw:FR k w)(G:w.length=y.length)(hg:g.limit=limQ p.Aw)
 (O:p.Ap.B[i]?=some b) (P:p.Ap.C[i]?=some c) (I:yss[i]?=some d) (J:QR 129 d) (R:d.length=y.length) (F:ls.length+(i+1)=p.Ap.B.length)
 (E:∀ a∈ls,QR 129 a/\a.length=y.length) (L:∀(q:Nat) a,ls[q]?=some a->ys[i+1+q]?=some (toR a)) (A:i<ys.length) (l:129<=bb) (Z:bb<1000000) (qY:QR bb sY) (qP:QR bb sP) (lY:sY.length=y.length) (lP:sP.length=p.P.length) :
 ∃ B,B.limit=g.limit/\∃ r,Qbk n p t h w ⟨toRR yss,ks0,nx,er⟩ ys ⟨toR sY,toR sP⟩ g (i:Int)=some r /\
   match bstageQ p.Tape (limQ p.Aw) (fv t) (fv h) (rv p.P) d (fv c) (bslQ (p.Ap.A.map rv) (fv b) (fv h) (rv w) i ls) i with
   | .inl f=>r.1=f/\f.Ay≠0
   | .inr z=>r=(⟨0,0,0,0⟩,p,t,h,w,⟨toRR yss,ks0,nx,er⟩,⟨toR (addQ sY z.1),toR (addQ sP z.2)⟩,ys.set i (toR z.1),B)/\QR 129 z.1/\QR 129 z.2/\z.1.length=y.length/\z.2.length=p.P.length:=by
 obtain⟨⟨d1,d2⟩,⟨d3,d4⟩,d5,d6⟩:=ok.tp.r.1;obtain⟨⟨g1,g2⟩,g3,g4,g5,g6⟩:=ok.sr.2.1;have hyl:=ok.yl;have hpl:=ok.pl;have m:=ok.sw.c c (Jr P);have hi:=K1 O;obtain⟨s1,M,s3⟩:=Jdi (md:=⟨toRR yss,ks0,nx,er⟩) (sm:=⟨toR sY,toR sP⟩) (g:=g) hn h0 hk ok hw G O F E L;unfold Qbk;rw[s1,sbind];generalize bslQ (p.Ap.A.map rv) (fv b) (fv h) (rv w) i ls=K at M s3;obtain⟨B,V,X⟩:=Q0g (p:=p) (t:=t) (h:=h) (w:=w) (g:=g) (md:=⟨toRR yss,ks0,nx,er⟩) (sm:=⟨toR sY,toR sP⟩) (ys:=ys) (x2:=(i:Int)) hn (Jx M (show 21*k<=1099511627775 by omega)) om;refine⟨B,V,?_⟩;rw[X,sbind,hg];unfold bstageQ;cases hf:fitQ (limQ p.Aw) K 0 with
 | some j=>
   simp only[];rw[Yx oz,ov,bifT];exact⟨_,rfl,rfl,oz⟩
 | none=>
   simp only[];rw[Wf,ot,bifF];have v:=Wa (qw_fv ok.hk om) (qw_fv m om);have N:=Zn (qw_fv ok.tk om) v;rw[Qxw hn h0 om ok.tk ok.hk m P,sbind,Je (show(toRR yss)[i]?=some (toR d) by unfold toRR;rw[yr,I];rfl),sbind];obtain⟨Y,C,f3⟩:=Q8x (k:=22*k) (kw:=21*k) (t:=p.Tape) (p:=⟨toF (fv t+fv h*fv c),toR d,p.P⟩) (w:=toR K) (bits:=p.Aw) hn om om om om ⟨ok.tp.r,ok.tp.h,λx hx=>Vm (ok.tp.w x hx) om⟩ (Js om) (X8 (Jx J om)) (W3 ok.pk om) (X8 M) (by simp only[Kr];omega) ok.pl (by rw[Kr];omega);rw[Y,sbind];simp only[] at C f3 |-;rw[Jf,Zo,Zo] at C f3 |-;have u:limQ p.Aw=min (max p.Aw 0) 4096:=rfl;rw[u];cases Q:backQ p.Tape (min (max p.Aw 0) 4096) (fv t+fv h*fv c) d (rv p.P) K with
   | inl e=>
     have s:=C e Q;simp only[];rw[Yx s,ov,bifT];exact⟨_,rfl,rfl,s⟩
   | inr z=>
     obtain⟨S,U,q3,q4⟩:=f3 z Q;simp only[];rw[Wf,ot,bifF,Qcx A,sbind,Q02 (k:=bb) hn om om (X8 qY) (X8 qP) (X8 (Jx S l)) (X8 (Jx U l)) (by rw[Kr];omega) (by rw[Kr];omega),sbind,Kr,Kr,Kr,Kr,oo ⟨om,om⟩,Zo,Zo,Zo,Zo,yo];exact⟨_,rfl,rfl,S,U,om,om⟩
abbrev BdSt:=Qn×Qc×Qc×(List Qc)×Ju×(List (List Qc))×Vc×Ql×Int
abbrev BdG:=Qn×Qc×Qc×(List Qc)×Ju×(List (List Qc))×Vc×Ql
abbrev BdR:=Qe×Qn×Qc×Qc×(List Qc)×Ju×Vc×(List (List Qc))×Ql
def bdBody(n:Nat)(a:BdSt):Option (Lp BdSt (Lp BdG BdR)):=
    bif decide ((0:Int)<=a.2.2.2.2.2.2.2.2) then (
     (Qbk n a.1 a.2.1 a.2.2.1 a.2.2.2.1 a.2.2.2.2.1 a.2.2.2.2.2.1 a.2.2.2.2.2.2.1 a.2.2.2.2.2.2.2.1 a.2.2.2.2.2.2.2.2).bind λd=>
     bif !(Q7 d.1 (⟨0,0,0,0⟩:Qe)) then (
      some (Lp.out (Lp.out ((d.1,d.2.1,d.2.2.1,d.2.2.2.1,d.2.2.2.2.1,d.2.2.2.2.2.1,d.2.2.2.2.2.2.1,d.2.2.2.2.2.2.2.1,d.2.2.2.2.2.2.2.2)))))
     else (
      some (Lp.go (d.2.1,d.2.2.1,d.2.2.2.1,d.2.2.2.2.1,d.2.2.2.2.2.1,d.2.2.2.2.2.2.2.1,d.2.2.2.2.2.2.1,d.2.2.2.2.2.2.2.2,wrap64 (a.2.2.2.2.2.2.2.2 - (1:Int))))))
    else (
     some (Lp.out (Lp.go (a.1,a.2.1,a.2.2.1,a.2.2.2.1,a.2.2.2.2.1,a.2.2.2.2.2.1,a.2.2.2.2.2.2.1,a.2.2.2.2.2.2.2.1))))
def bdEnd(n:Nat)(x0_p:Qn)(t9:BdG):Option BdR:=
 (Yh n t9.1 t9.2.1 t9.2.2.1 t9.2.2.2.1 t9.2.2.2.2.1 t9.2.2.2.2.2.1 t9.2.2.2.2.2.2.1 t9.2.2.2.2.2.2.2 t9.2.2.2.2.2.2.1.Y (x0_p.Ap.B.length:Int)).bind λa=>
 bif !(Q7 a.1 (⟨0,0,0,0⟩:Qe)) then (
  some (a.1,t9.1,t9.2.1,t9.2.2.1,t9.2.2.2.1,t9.2.2.2.2.1,t9.2.2.2.2.2.2.1,t9.2.2.2.2.2.1,a.2))
 else (
  (Yh n t9.1 t9.2.1 t9.2.2.1 t9.2.2.2.1 t9.2.2.2.2.1 t9.2.2.2.2.2.1 t9.2.2.2.2.2.2.1 a.2 t9.2.2.2.2.2.2.1.P (wrap64 ((x0_p.Ap.B.length:Int)+(1:Int)))).bind λd=>
  some (d.1,t9.1,t9.2.1,t9.2.2.1,t9.2.2.2.1,t9.2.2.2.2.1,t9.2.2.2.2.2.2.1,t9.2.2.2.2.2.1,d.2))
theorem Jh5(ys):Qen n p t h w md ys sm g=(loopM (bdBody n) n (p,t,h,w,md,ys,sm,g,wrap64 ((p.Ap.B.length:Int) - (1:Int)))).bind (lpK (bdEnd n p)):=ut (ut rfl)
structure BdOK(b m mp:Nat)(z:BdS):Prop where
 y:QR b z.Y
 p:QR b z.P
 yl:z.Y.length=m
 pl:z.P.length=mp
 l:∀ a∈z.ls,QR 129 a/\a.length=m
theorem Jlb{yss:List (List Rat)}{ks0:List (List Qc)}{nx er:List Qc}(hn:big<=n)(h0:129<=k)(hk:k<8000)(ok:PrbOK n k p t h y)(hw:FR k w)(P:w.length=y.length)
 (G:∀ a∈yss,QR 129 a/\a.length=y.length) (hyssl:yss.length=p.Ap.B.length):∀(i m:Nat) (g:Ql) (z:BdS) (ys:List (List Qc)) (b:Nat),i<=p.Ap.B.length->i<m->z.ls.length+i=p.Ap.B.length->ys.length=p.Ap.B.length->(∀(q:Nat) a,z.ls[q]?=some a->ys[i+q]?=some (toR a))->129<=b->b+i*130<1000000->BdOK b y.length p.P.length z->g.limit=limQ p.Aw ->
 match bstagesQ p.Tape p.Ap (limQ p.Aw) (fv t) (fv h) (rv p.P) (rv w) yss i z with
 | .inl f=>∃ r,loopM (bdBody n) m (p,t,h,w,⟨toRR yss,ks0,nx,er⟩,ys,⟨toR z.Y,toR z.P⟩,g,(i:Int) - 1)=some (Lp.out r)/\r.1=f/\f.Ay≠0
 | .inr x=>∃ K j,K.limit=limQ p.Aw/\loopM (bdBody n) m (p,t,h,w,⟨toRR yss,ks0,nx,er⟩,ys,⟨toR z.Y,toR z.P⟩,g,(i:Int) - 1)=some (Lp.go (p,t,h,w,⟨toRR yss,ks0,nx,er⟩,j,⟨toR x.Y,toR x.P⟩,K))/\BdOK (b+i*130) y.length p.P.length x:=by
 obtain⟨⟨g1,g2⟩,g3,g4,g5,g6⟩:=ok.sr.2.1;intro i
 induction i with
 | zero=>
   intro m g z ys b _ S _ _ _ _ _ d O;simp only[bstagesQ];refine⟨g,ys,O,Vs ?_ S,⟨Jx d.y om,Jx d.p om,d.yl,d.pl,d.l⟩⟩;unfold bdBody;simp only[];rw[oj om,bifF]
 | succ i ih=>
   intro m g z ys b hi S hzl F E N hb1 d O;obtain⟨m,rfl⟩:∃ q,m=q+1:=⟨m - 1,om⟩
   obtain⟨V,A⟩:∃ x,p.Ap.B[i]?=some x:=⟨p.Ap.B[i]' om,oq _⟩
   obtain⟨ci,B⟩:∃ x,p.Ap.C[i]?=some x:=⟨p.Ap.C[i]' om,oq _⟩
   obtain⟨Q,e⟩:∃ x,yss[i]?=some x:=⟨yss[i]' om,oq _⟩
   obtain⟨yq,yl⟩:=G Q (Jr e);obtain⟨K,e1,r,X,I⟩:=Jee (g:=g) (ks0:=ks0) (nx:=nx) (er:=er) (ys:=ys) (ls:=z.ls) (sY:=z.Y) (sP:=z.P) (bb:=b) hn h0 hk ok hw P O A B e yq yl om d.l (λq a u=>E q a u) om N om d.y d.p d.yl d.pl;simp only[bstagesQ];have ey:yss.getD i []=Q:=by rw[xh,e];rfl
   rw[ey,Qqf B,Qqf A]
   have l:bdBody n (p,t,h,w,⟨toRR yss,ks0,nx,er⟩,ys,⟨toR z.Y,toR z.P⟩,g,((i+1:Nat):Int) - 1)=(bif !(Q7 r.1 (⟨0,0,0,0⟩:Qe)) then (
    some (Lp.out (Lp.out ((r.1,r.2.1,r.2.2.1,r.2.2.2.1,r.2.2.2.2.1,r.2.2.2.2.2.1,r.2.2.2.2.2.2.1,r.2.2.2.2.2.2.2.1,r.2.2.2.2.2.2.2.2)))))
    else (
     some (Lp.go (r.2.1,r.2.2.1,r.2.2.2.1,r.2.2.2.2.1,r.2.2.2.2.2.1,r.2.2.2.2.2.2.2.1,r.2.2.2.2.2.2.1,r.2.2.2.2.2.2.2.2,wrap64 (((i+1:Nat):Int) - 1 - (1:Int)))))):=by
    unfold bdBody;simp only[];rw[oi om,bifT,show((i+1:Nat):Int) - 1=(i:Int) by omega,X,sbind]
   cases U:bstageQ p.Tape (limQ p.Aw) (fv t) (fv h) (rv p.P) Q (fv ci) (bslQ (p.Ap.A.map rv) (fv V) (fv h) (rv w) i z.ls) i with
   | inl f=>
     rw[U] at I;obtain⟨J,s⟩:=I;obtain⟨⟨f1,f2,f3,f4⟩,r⟩:=r;simp only[] at J;subst J;simp only[] at l |-;rw[Yx s,ov,bifT] at l;exact⟨_,Vs l om,rfl,s⟩
   | inr x=>
     rw[U] at I;obtain⟨J,s,Y,R,Z⟩:=I;subst J;simp only[] at l |-;rw[Wf,ot,bifF,show((i+1:Nat):Int) - 1 - 1=(i:Int) - 1 by omega,w64 om om] at l;rw[Qb5 l];have C:(i+1)*130=i*130+130:=vk _ _
     have:=ih m K ⟨x.1::z.ls,addQ z.Y x.1,addQ z.P x.2⟩ (ys.set i (toR x.1)) (b+130) om om (by show z.ls.length+1+i=_;omega) (by rw[wk];exact F) (λq a u=>by
      cases q with
      | zero=>
        simp only[List.getElem?_cons_zero,Option.some.injEq] at u;subst u;rw[xq,List.getElem?_set_self om]
      | succ q=>
        rw[List.getElem?_set_ne om,show i+(q+1)=i+1+q by omega];exact E q a (by simpa using u)) om om ⟨Jx (Qu8 d.y s) om,Jx (Qu8 d.p Y) om,by show(addQ z.Y x.1).length=_;rw[Qf4,R,d.yl,Nat.min_self],by show(addQ z.P x.2).length=_;rw[Qf4,Z,d.pl,Nat.min_self],λa M=>by
        rcases xg.1 M with rfl | M;exact⟨s,R⟩
        exact d.l a M⟩ om
     simp only[] at this;cases hr:bstagesQ p.Tape p.Ap (limQ p.Aw) (fv t) (fv h) (rv p.P) (rv w) yss i ⟨x.1::z.ls,addQ z.Y x.1,addQ z.P x.2⟩ with
     | inl f=>rw[hr] at this;exact this
     | inr v=>
       rw[hr] at this;obtain⟨L,j,a1,a2,a3⟩:=this;exact⟨L,j,a1,a2,by rw[C,show b+(i*130+130)=b+130+i*130 by omega];exact a3⟩
theorem Jh6{yss:List (List Rat)}{ks0 ys:List (List Qc)}{nx er:List Qc}(hn:big<=n)(h0:129<=k)(hk:k<8000)(ok:PrbOK n k p t h y)(C:FR k w)(d:w.length=y.length)
 (m:∀ a∈yss,QR 129 a/\a.length=y.length) (hyssl:yss.length=p.Ap.B.length) (l:ys.length=p.Ap.B.length) (K:g.limit=limQ p.Aw) :
 ∃ r,Qen n p t h w ⟨toRR yss,ks0,nx,er⟩ ys ⟨toR (rv w),toR (List.replicate p.P.length 0)⟩ g=some r /\
   match bdoQ p.Tape p.Ap (limQ p.Aw) (fv t) (fv h) (rv p.P) (rv w) yss with
   | .inl f=>r.1=f/\f.Ay≠0
   | .inr z=>r.1=⟨0,0,0,0⟩/\r.2.2.2.2.2.2.1=⟨toR z.1,toR z.2⟩/\QR 129 z.1/\QR 129 z.2/\z.1.length=w.length/\z.2.length=p.P.length:=by
 obtain⟨⟨N,O⟩,⟨P,Q⟩,R,S⟩:=ok.tp.r.1;obtain⟨⟨g1,U⟩,g3,g4,V,X⟩:=ok.sr.2.1;have M:=ok.yl;have L:=ok.pl;have i:=Jlb (ks0:=ks0) (nx:=nx) (er:=er) hn h0 hk ok C d m hyssl p.Ap.B.length n g ⟨[],rv w,List.replicate p.P.length 0⟩ ys k (xn _) (by unfold big at hn;omega) oc l (λq a I=>by simp at I) h0 om ⟨QR_rv C om,Q64 om,by show(rv w).length=_;rw[J5];exact d,oc,λ_ h=>by cases h⟩ K;rw[Jh5,w64 om om];unfold bdoQ;rw[J5 p.P];simp only[] at i;cases B:bstagesQ p.Tape p.Ap (limQ p.Aw) (fv t) (fv h) (rv p.P) (rv w) yss p.Ap.B.length ⟨[],rv w,List.replicate p.P.length 0⟩ with
 | inl f=>
   rw[B] at i;obtain⟨r,x,u,A⟩:=i;rw[x,sbind,Z0];exact⟨r,rfl,u,A⟩
 | inr z=>
   rw[B] at i;obtain⟨F,s,a1,a2,a3⟩:=i;rw[a2,sbind,Xi];unfold bdEnd;simp only[];obtain⟨e,x,u⟩:=Q0g (p:=p) (t:=t) (h:=h) (w:=w) (g:=F) (md:=⟨toRR yss,ks0,nx,er⟩) (sm:=⟨toR z.Y,toR z.P⟩) (ys:=s) (x2:=(p.Ap.B.length:Int)) hn (Jx a3.y om) (by rw[a3.yl];omega);rw[u,sbind,a1];cases J:fitQ (limQ p.Aw) z.Y 0 with
   | some j=>
     simp only[];rw[Yx oz,ov,bifT];exact⟨_,rfl,rfl,oz⟩
   | none=>
     simp only[];rw[Wf,ot,bifF,w1 om];obtain⟨G,A,E⟩:=Q0g (p:=p) (t:=t) (h:=h) (w:=w) (g:=e) (md:=⟨toRR yss,ks0,nx,er⟩) (sm:=⟨toR z.Y,toR z.P⟩) (ys:=s) (x2:=((p.Ap.B.length+1:Nat):Int)) hn (Jx a3.p om) (by rw[a3.pl];omega);rw[E,sbind,show e.limit=limQ p.Aw by omega];cases v:fitQ (limQ p.Aw) z.P 0 with
     | some j=>exact⟨_,rfl,rfl,by show(6:Int)≠0;decide⟩
     | none=>exact⟨_,rfl,rfl,rfl,Qmw (by unfold limQ;omega) J,Qmw (by unfold limQ;omega) v,by rw[a3.yl,d],a3.pl⟩
end
noncomputable def backThQ(p:Qn)(T H:Rat)(Y W:List Rat):Qe ⊕ (MadeQ×List Rat×List Rat):=
 match stepQ p T H Y with
 | .inl f=>if f.Ay=2\/W.length≠Y.length then .inl ⟨2,0,0,0⟩ else .inl f
 | .inr z=>if W.length≠Y.length then .inl ⟨2,0,0,0⟩ else match bdoQ p.Tape p.Ap (limQ p.Aw) T H (rv p.P) W z.ys with
   | .inl f=>.inl f
   | .inr x=>.inr (z,x.1,x.2)
theorem Q94:∀ {l:List Rat},addQ l (List.replicate l.length 0)=l
 | []=>rfl
 | a::l=>by have:=Q94 (l:=l);unfold addQ at this |-;rw[xm,vn,List.zipWith_cons_cons,this,wx]
theorem Q31{n k:Nat}{p:Qn}{t h:Qc}{y w:List Qc}(hn:big<=n)(h0:129<=k)(hk:k<8000)(E:PrbW k p)(B:Fk k t)(A:Fk k h)(F:FR k y)(C:FR k w):
 Qh5 n p t h y w=some (match backThQ p (fv t) (fv h) (rv y) (rv w) with | .inl f=>(⟨[],[]⟩,f) | .inr z=>(⟨toR z.2.1,toR z.2.2⟩,⟨0,0,0,0⟩))/\(∀ f,backThQ p (fv t) (fv h) (rv y) (rv w)=.inl f->f.Ay≠0)/\∀ z,backThQ p (fv t) (fv h) (rv y) (rv w)=.inr z->stepQ p (fv t) (fv h) (rv y)=.inr z.1/\QR 129 z.2.1/\QR 129 z.2.2/\z.2.1.length=y.length/\z.2.2.length=p.P.length/\w.length=y.length:=by
 obtain⟨q,s⟩:=Qrq hn h0 hk E B A F;unfold Qh5 backThQ;simp only[jn_eq];rw[q,sbind];cases m:stepQ p (fv t) (fv h) (rv y) with
 | inl f=>
   have v:=s f m;obtain⟨u,O,f3,f4⟩:=f;simp only[];rw[J5,J5,bifd];by_cases c1:u=2
   . rw[oo c1,oo (Or.inl c1)]
     exact⟨rfl,(λf h=>by cases h;show(2:Int)≠0;decide),λz h=>by cases h⟩
   rw[ol c1];by_cases d:w.length=y.length
   case neg=>
    rw[oj (show ¬(w.length:Int)=(y.length:Int) by omega),oo (.inr d)];exact⟨rfl,(λf h=>by cases h;show(2:Int)≠0;decide),λz h=>by cases h⟩
   rw[oi (show(w.length:Int)=(y.length:Int) by omega),ot,bifF,Yx v,ov,bifT,ol (by rintro(g | g)<;>contradiction)];exact⟨rfl,(λf h=>by cases h;exact v),λz h=>by cases h⟩
 | inr z=>
   obtain⟨R,G,r3,r4,r5⟩:=Qnt m;obtain⟨S,U⟩:=Q0f m;rw[J5] at G;have ok:=E.ok hn hk R B A F G;obtain⟨⟨q,s⟩,⟨V,X⟩,Y,Z⟩:=ok.tp.r.1;obtain⟨⟨g1,g2⟩,g3,g4,g5,g6⟩:=ok.sr.2.1;have Q:=ok.pl;simp only[];rw[J5,J5,show decide ((0:Int)=2)=false from rfl,bifF];by_cases d:w.length=y.length
   case neg=>
    rw[oj (show ¬(w.length:Int)=(y.length:Int) by omega),oo d];exact⟨rfl,(λf h=>by cases h;show(2:Int)≠0;decide),λz h=>by cases h⟩
   rw[oi (show(w.length:Int)=(y.length:Int) by omega),ot,bifF,Wf,ot,bifF,ol (by simp[d])];rw[Qmh hn om,sbind,Q02 (k:=k) hn om om C (λ_ h=>by cases h) (X8 (Q64 om)) (λ_ h=>by cases h) om oc,sbind,oo ⟨by rw[Kr];simp,rfl⟩,Qgl om om,sbind];unfold Z1;rw[sbind,Qmh hn om,sbind,Zo];have N:addQ (rv w) (List.replicate w.length 0)=rv w:=by
    have:=Q94 (l:=rv w);rwa [J5] at this
   rw[N];obtain⟨r,I,e⟩:=Jh6 (g:=⟨⟨0,0⟩,min (max p.Aw 0) 4096⟩) (yss:=z.ys) (ks0:=toRR z.ks) (nx:=toR z.next) (er:=toR z.err) (ys:=List.replicate p.Ap.B.length []) hn h0 hk ok C d (λa P=>by have:=S a P;rwa [J5] at this) U oc rfl;rw[show toM z=⟨toRR z.ys,toRR z.ks,toR z.next,toR z.err⟩ from rfl];simp only[];rw[I,sbind];cases hd:bdoQ p.Tape p.Ap (limQ p.Aw) (fv t) (fv h) (rv p.P) (rv w) z.ys with
   | inl f=>
     rw[hd] at e;obtain⟨j,i⟩:=e;refine⟨?_,(λf h=>by cases h;exact i),λz h=>by cases h⟩;simp only[];rw[j];obtain⟨u,O,f3,f4⟩:=f;rw[Yx i,ov,bifT]
   | inr x=>
     rw[hd] at e;obtain⟨j,i,J,K,L,M⟩:=e;refine⟨?_,(λf h=>by cases h),λz h=>by cases h;exact⟨rfl,J,K,L.trans d,M,d⟩⟩;simp only[];rw[j,i,Wf,ot,bifF]
set_option maxRecDepth 100000
theorem Q65{l:List Rat}{a:Int}:addAt l a 0=l:=by unfold addAt;rw[wx];by_cases h:a.toNat<l.length;rw[xh,oq h];exact List.set_getElem_self h;exact List.set_eq_of_length_le om
structure SameL(a b:BkS):Prop where
 c:b.co.length=a.co.length
 y:b.Y.length=a.Y.length
 p:b.P.length=a.P.length
theorem SameL.bk{x:Qz}{c1 d r:Rat}{vs:List Rat}{s1 a:BkS}(h:SameL s1 a):SameL (Qbg x c1 r vs s1) (Qbg x d r vs a):=by obtain⟨a1,a2,a3⟩:=Qub (x:=x) (c:=c1) (r:=r) (vs:=vs) (s:=s1);obtain⟨e,f,i⟩:=Qub (x:=x) (c:=d) (r:=r) (vs:=vs) (s:=a);exact⟨by rw[a1,e,h.c],by rw[a2,f,h.y],by rw[a3,i,h.p]⟩
theorem Jlc{m:Nat}{os:List Int}{w:List Rat}:(coQ m os w).length=m:=by
 unfold coQ;have:∀(l:List (Int×Rat)) (a:List Rat),(l.foldl (λco z=>addAt co z.1 z.2) a).length=a.length:=by
  intro l
  induction l with
  | nil=>intro a;rfl
  | cons x l d=>intro a;rw[jx,d,Qny]
 rw[this];simp
theorem Jjm{As:List (List Rat)}{b H:Rat}{i:Nat}{W:List Rat}{l:List (List Rat)}(g:∀ a∈l,a.length=W.length):(bslQ As b H W i l).length=W.length:=by unfold bslQ;rw[Qcd];exact Ql3 g (by rw[Qcd])
theorem Jjn{m j:Nat}:(List.replicate m (0:Rat)).getD j 0=0:=by rw[xh,List.getElem?_replicate];split<;>rfl
set_option maxRecDepth 100000
theorem Jgi{l:List Rat}{a:Int}{c:Rat}{j:Nat}:(addAt l a c).getD j 0=if j=a.toNat/\j<l.length then l.getD j 0+c else l.getD j 0:=by unfold addAt;generalize a.toNat=a;rw[xh,xh,xh,List.getElem?_set];by_cases h:j=a;subst h;by_cases d:j<l.length;rw[oo rfl,oo d,oo ⟨rfl,d⟩];rfl;rw[oo rfl,ol d,ol (λh=>d h.2),xa om];rw[ol (λe=>h e.symm),ol (λe=>h e.1)]
theorem Jjo{t:Qr}{i:Nat}{x:Qz}(h:mayR t i x):x.Op=1\/x.Op=2\/x.Op=3\/x.Op=4\/x.Op=6\/x.Op=7\/x.Op=8\/x.Op=9\/x.Op=10\/x.Op=11:=by unfold mayR at h;by_cases c1:x.Op=1;omega;rw[ol c1] at h;by_cases e:x.Op=2;omega;by_cases f:x.Op=3;omega;by_cases j:x.Op=4;omega;by_cases l:x.Op=6;omega;by_cases d:x.Op=11;omega;rw[ol e,ol f,ol j,ol l,ol d] at h;have a:=h.2.2;unfold rdT at a;rw[ol om] at a;by_cases m:x.Op=7\/x.Op=8\/x.Op=9\/x.Op=10;omega;rw[ol m] at a;simp at a
section
variable {t:Qr}{lim:Int}{T':Rat}{Y' P' vs ds:List Rat}
end
theorem Jh7{l:List Rat}{i j:Nat}(h:j<i):(l.take i).getD j 0=l.getD j 0:=by rw[xh,xh,uz,oo h]
theorem Qza{n k:Nat}{a b:List Rat}(hn:big<=n)(hk:k<274877906944)(l:QR k a)(m:QR k b)(q:a.length=b.length)(r:a.length<=1000000):Zy n (rR a) (rR b)=some (rR (addQ a b)):=by
 unfold Zy;rw[W1 (λi=>(rR (addQ (a.take i) (b.take i)),(i:Int))) a.length (rR (addQ a b))];intro i hi;have hp:a[i]?=some a[i]:=oq hi;have d:b[i]?=some (b[i]' om):=oq om;have f:=l a[i] (xb hi);have j:=m (b[i]' om) (xb om);generalize a[i]=x at hp f;generalize b[i]' om=y at d j;simp only[bifd];have e:addQ (a.take (i+1)) (b.take (i+1))=addQ (a.take i) (b.take i)++[x+y]:=by
  rw[Yy hp,Yy d];unfold addQ;rw[List.zipWith_append oh];rfl
 rw[oo (by rw[J7];omega),Je (Qim hp),sbind,Je (Qim d),sbind,V7 hn hk f j,sbind,Vt (by simp[J7,Qf4];omega) (by simp[J7,Qf4];omega),sbind,w1 om,e,Qmx];simp only[bifd];rw[ol (by rw[J7];omega),xu,q,xu];unfold big at hn;omega;rfl
theorem jn_to{σ ρ:Type}{A:(σ->Option ρ)->Option ρ}{k:σ->Option ρ}{b:σ}(d:∀ a,A a=a b):jn A k=k b:=by rw[jn_eq,d]
theorem Je8{lim:Int}{T:Rat}{Y P:List Rat}:∀ {c:List Qz}{i:Nat}{done l:List Rat},runQ lim T Y P c i done=.inr l ->
 (∃ e,l=done++e)/\∀(q:Nat) x,c[q]?=some x->opQ x T Y P (l.take (done.length+q))=some (l.getD (done.length+q) 0)
 | [],i,done,l,h=>by simp only[runQ] at h;cases h;exact⟨⟨[],oc⟩,λq x r=>by simp at r⟩
 | x::c,i,done,l,h=>by
   simp only[runQ] at h;cases d:opQ x T Y P done with
   | none=>rw[d] at h;cases h
   | some q=>
     rw[d] at h;simp only[] at h;split at h
     case isFalse=>cases h
     obtain⟨⟨a,j⟩,m⟩:=Je8 h;refine⟨⟨q::a,by rw[j];simp⟩,λk y f=>?_⟩;cases k with
     | zero=>
       simp only[List.getElem?_cons_zero,Option.some.injEq] at f;subst f;rw[xq,j];have g1:(done++[q]++a).getD done.length 0=q:=by rw[xl,xh,yu (xn _),Nat.sub_self];rfl
       have g3:(done++[q]++a).take done.length=done:=by rw[xl,List.take_left]
       rw[g1,g3,d]
     | succ k=>
       have:=m k y (by simpa using f);rw[yy,vv,show done.length+1+k=done.length+(k+1) by omega] at this;exact this
def partA(x:Qz)(c r:Rat)(vs:List Rat):Rat:=
 if x.Op=6 then -c else if x.Op=9 then c*vs.getD x.B.toNat 0 else if x.Op=10 then c / vs.getD x.B.toNat 0 else if x.Op=11 then c*((x.B:Rat)*turnQ (vs.getD x.A.toNat 0) r x.B) else c
def partB(x:Qz)(c r:Rat)(vs:List Rat):Rat:=
 if x.Op=8 then -c else if x.Op=9 then c*vs.getD x.A.toNat 0 else if x.Op=10 then -(c / vs.getD x.B.toNat 0*r) else c
def sentQ(x:Qz)(j:Nat)(c r:Rat)(vs:List Rat):Rat:=
 if x.Op<6\/c=0 then 0 else (if x.A=(j:Int) then partA x c r vs else 0)+(if (7<=x.Op/\x.Op<=10)/\x.B=(j:Int) then partB x c r vs else 0)
theorem Qio{l:List Rat}{a:Int}{c:Rat}{j:Nat}(h0:0<=a)(d:j<l.length):(addAt l a c).getD j 0=l.getD j 0+(if a=(j:Int) then c else 0):=by
 rw[Jgi];by_cases h:a=(j:Int)
 rw[oo ⟨om,d⟩,oo h];rw[ol (λg=>h om),ol h,wx]
theorem Jh8{t:Qr}{x:Qz}{k j:Nat}{c r:Rat}{vs:List Rat}{s:BkS}(e:mayR t k x)(a:j<s.co.length):(Qbg x c r vs s).co.getD j 0=s.co.getD j 0+sentQ x j c r vs:=by unfold Qbg sentQ partA partB;have f:=Qqb e;by_cases d:c=0;rw[oo d,oo (.inr d),wx];have nA:x.Op=6\/x.Op=11\/x.Op=7\/x.Op=8\/x.Op=9\/x.Op=10->0<=x.A:=λh=>(f _ (rdT_A h)).1;have nB:x.Op=7\/x.Op=8\/x.Op=9\/x.Op=10->0<=x.B:=λh=>(f _ (rdT_B h)).1;rw[ol d];rcases Jjo e with h | h | h | h | h | h | h | h | h | h;simp only[h,Int.reduceEq,Int.reduceLT,yn,yd,true_or,wx];simp only[h,Int.reduceEq,Int.reduceLT,yn,yd,true_or,wx];simp only[h,Int.reduceEq,Int.reduceLT,yn,yd,true_or,wx];simp only[h,Int.reduceEq,Int.reduceLT,yn,yd,true_or,wx];simp only[h,d,Int.reduceEq,Int.reduceLT,Int.reduceLE,yn,yd,or_self,false_and,wx];rw[Qio (nA om) a];simp only[h,d,Int.reduceEq,Int.reduceLT,Int.reduceLE,yn,yd,or_self,true_and,and_self];rw[Qio (nB om) (by rw[Qny];exact a),Qio (nA om) a,Rat.add_assoc];simp only[h,d,Int.reduceEq,Int.reduceLT,Int.reduceLE,yn,yd,or_self,true_and,and_self];rw[Qio (nB om) (by rw[Qny];exact a),Qio (nA om) a,Rat.add_assoc];simp only[h,d,Int.reduceEq,Int.reduceLT,Int.reduceLE,yn,yd,or_self,true_and,and_self];rw[Qio (nB om) (by rw[Qny];exact a),Qio (nA om) a,Rat.add_assoc];simp only[h,d,Int.reduceEq,Int.reduceLT,Int.reduceLE,yn,yd,or_self,true_and,and_self];rw[Qio (nB om) (by rw[Qny];exact a),Qio (nA om) a,Rat.add_assoc];simp only[h,d,Int.reduceEq,Int.reduceLT,Int.reduceLE,yn,yd,or_self,and_false,false_and,wx];rw[Qio (nA om) a]
theorem Jjp{x:Qz}{c r:Rat}{vs:List Rat}{s:BkS}:(Qbg x c r vs s).T=if x.Op=2 then s.T+c else s.T:=by
 unfold Qbg;by_cases d:c=0
 . rw[oo d,d];split<;>simp[wx]
 rw[ol d];by_cases a:x.Op=2
 . rw[oo a,oo a]
 rw[ol a,ol a]
 repeat' split
 all_goals rfl
theorem Jjq{x:Qz}{c r:Rat}{vs:List Rat}{s:BkS}:(Qbg x c r vs s).Y=if x.Op=3 then addAt s.Y x.A c else s.Y:=by
 unfold Qbg;by_cases d:c=0
 . rw[oo d,d,Q65];split<;>rfl
 rw[ol d];by_cases a:x.Op=3
 . rw[ol om,oo a,oo a]
 rw[ol a,ol a]
 repeat' split
 all_goals rfl
theorem Jjr{x:Qz}{c r:Rat}{vs:List Rat}{s:BkS}:(Qbg x c r vs s).P=if x.Op=4 then addAt s.P x.A c else s.P:=by
 unfold Qbg;by_cases d:c=0
 . rw[oo d,d,Q65];split<;>rfl
 rw[ol d];by_cases a:x.Op=4
 . rw[ol om,ol om,oo a,oo a]
 rw[ol a,ol a]
 repeat' split
 all_goals rfl
def PowR(t:Q4)(vs:List Rat):Prop:=∀(k:Nat) x,t.Code[k]?=some x->x.Op=11->vs.getD k 0=vs.getD x.A.toNat 0 ^ x.B/\-8<=x.B/\x.B<=8/\¬(x.B<0/\vs.getD x.A.toNat 0=0)
theorem Jld{t:Q4}{lim:Int}{T:Rat}{Y P l:List Rat}(j:tapeR (tT t))(h:runQ lim T Y P (tT t).Code 0 []=.inr l):PowR t l:=by
 intro k x m d;have a:(tT t).Code[k]?=some (tI x):=by show(t.Code.map tI)[k]?=_;exact Qav tI m
 have i:=j.2.1 k _ a;have q:=Qqb i;have e:=q _ (rdT_A (x:=tI x) (.inr (.inl d)));have eA:(tI x).A=x.A:=rfl;rw[eA] at e;have:=(Je8 h).2 k _ a;rw[yh,xj] at this;unfold opQ at this;rw[ol (show ¬(tI x).Op=6 by show ¬ x.Op=6;omega),oo (show(tI x).Op=11 from d),eA,Jh7 om,show(tI x).B=x.B from rfl] at this;split at this;cases this;rename_i f;exact⟨(Option.some.inj this).symm,om,om,λg=>f (.inr (.inr g))⟩
theorem Q66{n k j:Nat}{t:Q4}{x:Jv}{c r:Rat}{vs:List Rat}(hn:big<=n)(X:mayR (tT t) k (tI x))(hk:k<=vs.length)(v:qw c<=129)(hr:qw r<=129)(Y:QR 129 vs)
 (hp:x.Op=11->r=vs.getD x.A.toNat 0 ^ x.B/\-8<=x.B/\x.B<=8/\¬(x.B<0/\vs.getD x.A.toNat 0=0)) :
 Qao n x (j:Int) (rF c) (rF r) (rR vs)=some (rF (sentQ (tI x) j c r vs))/\qw (sentQ (tI x) j c r vs)<=2000:=by
 have eO:(tI x).Op=x.Op:=rfl;have eA:(tI x).A=x.A:=rfl;have eB:(tI x).B=x.B:=rfl;have G:=Qqb X;have i:=Q8t X;rw[eO] at i;have gA:x.Op=6\/x.Op=11\/x.Op=7\/x.Op=8\/x.Op=9\/x.Op=10->getI (rR vs) x.A=some (rF (vs.getD x.A.toNat 0)):=λh=>Qfk (G _ (rdT_A (x:=tI x) h)).1 (by have:=(G _ (rdT_A (x:=tI x) h)).2;rw[eA] at this;omega);have gB:x.Op=7\/x.Op=8\/x.Op=9\/x.Op=10->getI (rR vs) x.B=some (rF (vs.getD x.B.toNat 0)):=λh=>Qfk (G _ (rdT_B (x:=tI x) h)).1 (by have:=(G _ (rdT_B (x:=tI x) h)).2;rw[eB] at this;omega);have qA:qw (vs.getD x.A.toNat 0)<=129:=V4 Y oz;have qB:qw (vs.getD x.B.toNat 0)<=129:=V4 Y oz;have add:∀ {p q:Rat},qw p<=3000->qw q<=3000->Qy n (rF p) (rF q)=some (rF (p+q)):=λf l=>V7 hn oz f l;have mul:∀ {p q:Rat},qw p<=3000->qw q<=3000->Q3 n (rF p) (rF q)=some (rF (p*q)):=λf l=>V8 hn oz f l;have quo:∀ {p q:Rat},qw p<=3000->qw q<=3000->Vl n (rF p) (rF q)=some (rF (p / q)):=λf l=>Qf6 hn oz f l;have neg:∀ {p:Rat},qw p<=3000->V0 n (rF p)=some (rF (-p)):=λf=>Qoc hn oz f;unfold Qao sentQ;rw[Zp hn,sbind,eO,eA,eB];have q0:qw (0:Rat)<=1:=by rw[Qab];exact xn _
 by_cases h0:x.Op<6\/c=0
 . rw[oo h0]
   refine⟨(jn_to (b:=true) (λd=>?_)).trans rfl,om⟩;by_cases m:x.Op<6
   . rw[oi m,bifT]
   . rw[oj m,bifF,Qgw,sbind,oi (h0.resolve_left m)]
 rw[ol h0];have m:¬ x.Op<6:=λg=>h0 (.inl g);have I:¬ c=0:=λg=>h0 (.inr g)
 have bA:(x.A=(j:Int)->qw (partA (tI x) c r vs)<=1500)/\∀ {β:Type}(d:Qa->Option β),x.A=(j:Int)->(jn (λ(A:(Qa)->Option _)=>
         bif decide (x.Op=(6:Int)) then (
          (V0 n (rF c)).bind λK=>
          A K)
         else (
          A (rF c))) (λ(O:Qa)=>
         jn (λ(B:(Qa)->Option _)=>
          bif decide (x.Op=(9:Int)) then (
           (getI (rR vs) x.B).bind λS=>
           (Q3 n (rF c) S).bind λL=>
           B L)
          else (
           B O)) (λ(P:Qa)=>
          jn (λ(C:(Qa)->Option _)=>
           bif decide (x.Op=(10:Int)) then (
            (getI (rR vs) x.B).bind λU=>
            (Vl n (rF c) U).bind λM=>
            C M)
           else (
            C P)) (λ(Q:Qa)=>
           jn (λ(E:(Qa)->Option _)=>
            bif decide (x.Op=(11:Int)) then (
             (getI (rR vs) x.A).bind λV=>
             (Z6 n V x.B).bind λN=>
             (Q3 n (rF c) N).bind λr101=>
             E r101)
            else (
             E Q)) (λ(R:Qa)=>
            (Qy n (rF 0) R).bind λr103=>
            d r103)))))=d (rF (partA (tI x) c r vs)):=by
  unfold partA;rw[eO,eA,eB];simp only[jn_eq];rcases i with h | h | h | h | h | h | h | h | h | h
  . omega
  . omega
  . omega
  . omega
  . simp only[h,Int.reduceEq,yw,yg,bifT,bifF,yn,yd]
    have e:=Qjz c;refine⟨λ_=>om,λd _=>?_⟩;rw[neg om,sbind,add om om,sbind,Rat.zero_add]
  . obtain⟨p1,p2,p3,p4⟩:=hp h
    obtain⟨w1,Z⟩:=Qvj (a:=vs.getD x.A.toNat 0) (b:=x.B) hn (k:=129) oz qA ⟨p2,p3⟩ p4;rw[<-p1] at w1 Z;have w3:=Wa v Z;simp only[h,Int.reduceEq,yw,yg,bifT,bifF,yn,yd];refine⟨λ_=>om,λd _=>?_⟩;rw[gA om,sbind,w1,sbind,mul om om,sbind,add om om,sbind,Rat.zero_add]
  . simp only[h,Int.reduceEq,yg,bifF,yd]
    refine⟨λ_=>om,λd _=>?_⟩;rw[add om om,sbind,Rat.zero_add]
  . simp only[h,Int.reduceEq,yg,bifF,yd]
    refine⟨λ_=>om,λd _=>?_⟩;rw[add om om,sbind,Rat.zero_add]
  . simp only[h,Int.reduceEq,yw,yg,bifT,bifF,yn,yd]
    have e:=Wa v qB;refine⟨λ_=>om,λd _=>?_⟩;rw[gB om,sbind,mul om om,sbind,add om om,sbind,Rat.zero_add]
  . simp only[h,Int.reduceEq,yw,yg,bifT,bifF,yn,yd]
    have e:=Qj0 v qB;refine⟨λ_=>om,λd _=>?_⟩;rw[gB om,sbind,quo om om,sbind,add om om,sbind,Rat.zero_add]
 obtain⟨bA1,bA2⟩:=bA;have bA3:qw (if x.A=(j:Int) then partA (tI x) c r vs else 0)<=1500:=by
  split
  . rename_i h;exact bA1 h
  . omega
 have bB:((7<=x.Op/\x.Op<=10)/\x.B=(j:Int)->qw (partB (tI x) c r vs)<=400)/\∀ {β:Type}(d:Qa->Option β) (z:Rat),qw z<=1500->(7<=x.Op/\x.Op<=10)->(jn (λ(j155:(Qa)->Option _)=>
            bif decide (x.Op=(8:Int)) then (
             (V0 n (rF c)).bind λr158=>
             j155 r158)
            else (
             j155 (rF c))) (λ(s157:Qa)=>
            jn (λ(j164:(Qa)->Option _)=>
             bif decide (x.Op=(9:Int)) then (
              (getI (rR vs) x.A).bind λy167=>
              (Q3 n (rF c) y167).bind λr169=>
              j164 r169)
             else (
              j164 s157)) (λ(s166:Qa)=>
             jn (λ(j179:(Qa)->Option _)=>
              bif decide (x.Op=(10:Int)) then (
               (Q3 n (rF c) (rF r)).bind λr182=>
               (getI (rR vs) x.B).bind λy184=>
               (Vl n r182 y184).bind λr186=>
               (V0 n r186).bind λr188=>
               j179 r188)
              else (
               j179 s166)) (λ(s181:Qa)=>
              (Qy n (rF z) s181).bind λr190=>
              d r190))))=d (rF (z+partB (tI x) c r vs)):=by
  unfold partB;rw[eO,eA,eB];simp only[jn_eq];rcases i with h | h | h | h | h | h | h | h | h | h
  . omega
  . omega
  . omega
  . omega
  . exact⟨λg=>om,λ_ _ _ g=>om⟩
  . exact⟨λg=>om,λ_ _ _ g=>om⟩
  . simp only[h,Int.reduceEq,yg,bifF,yd]
    refine⟨λ_=>om,λd z J _=>?_⟩;rw[add om om,sbind]
  . simp only[h,Int.reduceEq,yw,yg,bifT,bifF,yn,yd]
    have e:=Qjz c;refine⟨λ_=>om,λd z J _=>?_⟩;rw[neg om,sbind,add om om,sbind]
  . simp only[h,Int.reduceEq,yw,yg,bifT,bifF,yn,yd]
    have e:=Wa v qA;refine⟨λ_=>om,λd z J _=>?_⟩;rw[gA om,sbind,mul om om,sbind,add om om,sbind]
  . simp only[h,Int.reduceEq,yw,yg,bifT,bifF,yn,yd]
    have e:=Wa v hr;have e2:=Qj0 e qB;have e3:c*r / vs.getD x.B.toNat 0=c / vs.getD x.B.toNat 0*r:=by rw[wh,wh];grind
    have e4:=Qjz (c*r / vs.getD x.B.toNat 0);rw[<-e3];refine⟨λ_=>om,λd z J _=>?_⟩;rw[mul om om,sbind,gB om,sbind,quo om om,sbind,neg om,sbind,add om om,sbind]
 obtain⟨bB1,bB2⟩:=bB;have bB3:qw (if (7<=x.Op/\x.Op<=10)/\x.B=(j:Int) then partB (tI x) c r vs else 0)<=400:=by
  split
  . rename_i h;exact bB1 h
  . omega
 refine⟨?_,by have:=Zn bA3 bB3;omega⟩;refine(jn_to (b:=false) (λd=>?_)).trans ?_
 . rw[oj m,bifF,Qgw,sbind,oj I]
 rw[bifF];refine(jn_to (b:=rF (if x.A=(j:Int) then partA (tI x) c r vs else 0)) (λd=>?_)).trans ?_
 . by_cases s:x.A=(j:Int)
   . rw[oi s,bifT,oo s];exact bA2 d s
   . rw[oj s,bifF,ol s]
 generalize (if x.A=(j:Int) then partA (tI x) c r vs else 0)=z at bA3 |-;refine(jn_to (b:=rF (z+if (7<=x.Op/\x.Op<=10)/\x.B=(j:Int) then partB (tI x) c r vs else 0)) (λd=>?_)).trans rfl;refine(jn_to (b:=decide ((7<=x.Op/\x.Op<=10)/\x.B=(j:Int))) (λd=>?_)).trans ?_
 . by_cases g1:7<=x.Op
   case neg=>rw[oj g1,bifF,oj (λg=>g1 g.1.1)]
   rw[oi g1,bifT];by_cases F:x.Op<=10
   case neg=>rw[oj F,bifF,oj (λg=>F g.1.2)]
   rw[oi F,bifT];by_cases g3:x.B=(j:Int)
   . rw[oi g3,oi ⟨⟨g1,F⟩,g3⟩]
   . rw[oj g3,oj (λg=>g3 g.2)]
 by_cases u:(7<=x.Op/\x.Op<=10)/\x.B=(j:Int)
 . rw[oi u,bifT,oo u];exact bB2 d z bA3 u.1
 . rw[oj u,bifF,ol u,wx]
def accB(code:List Qz)(vs:List Rat)(j:Nat):Nat->List Rat->Rat->Rat
 | _,[],z=>z
 | k,c::cs,z=>accB code vs j (k+1) cs (z+(match code[k]? with | some x=>sentQ x j c (vs.getD k 0) vs | none=>0))
theorem Jdj{code:List Qz}{vs:List Rat}{j:Nat}{d:Rat}:∀ {cs:List Rat}{k:Nat}{z:Rat},accB code vs j k cs (z+d)=accB code vs j k cs z+d
 | [],k,z=>rfl
 | c::cs,k,z=>by simp only[accB];generalize (match code[k]? with | some x=>sentQ x j c (vs.getD k 0) vs | none=>0)=e;rw[<-Jdj (d:=d)];congr 1;grind
theorem Jdk{α:Type}{l:List α}{i:Nat}{y:α}(h:i<l.length):(l.set i y).drop i=y::l.drop (i+1):=by rw[xi (by rw[wk];exact h),List.getElem_set_self,List.drop_set_of_lt om]
theorem Jh9(l:List Rat)(i:Nat)(x:Rat):(rR l).set i (rF x)=rR (l.set i x):=by unfold rR;rw[List.map_set]
theorem Q5f{kw:Nat}:∀(l:List (Int×Rat)) (a:List Rat) (b:Nat),1<=b->QR b a->(∀ z∈l,qw z.2<=kw)->QR (b+l.length*(kw+1)) (l.foldl (λco z=>addAt co z.1 z.2) a)
 | [],a,b,_,h,_=>by simpa using h
 | z::l,a,b,e,h,d=>by rw[jx,xm];have:=Q5f l (addAt a z.1 z.2) (b+kw+1) om (Qvk e h (d z (.head _))) (λy f=>d y (.tail _ f));exact Jx this (by rw[vk];omega)
theorem Jdl:∀(l:List (Int×Rat)) (a:List Rat),(l.foldl (λco z=>addAt co z.1 z.2) a).length=a.length
 | [],a=>rfl
 | z::l,a=>by rw[jx,Jdl l,Qny]
theorem Je9{n:Nat}{a b:Nat}(hn:big<=n)(d:a<=300)(e:b<=300):Xm n (a:Int) (b:Int)=some (rF 0,rR (List.replicate a 0),rR (List.replicate b 0)):=by unfold Xm;rw[Zp hn,sbind,Qj1 hn d,sbind,Qj1 hn e,sbind]
abbrev RbS:=(List Qa)×Qa×(List Qa)×(List Qa)×Int
abbrev RbT:=Qa×(List Qa)×(List Qa)
def rbBody(n:Nat)(t:Q4)(w vs:List Qa)(lim:Int)(g0:Jw):RbS->Option (Lp RbS (Lp RbT (Jw×Jj))):=λ(s426:(List Qa)×Qa×(List Qa)×(List Qa)×Int)=>
 bif decide ((0:Int)<=s426.2.2.2.2) then (
  jn (λ(j521:((List Qa)×Qa×(List Qa)×(List Qa))->Option _)=>
   (Ka n (0:Int)).bind λr524=>
   (loopM (λ(s544:Qa×Int)=>
    bif decide (s544.2<(t.Av.length:Int)) then (
     jn (λ(j551:(Qa)->Option _)=>
      (getI t.Av s544.2).bind λy554=>
      bif decide (y554=s426.2.2.2.2) then (
       (getI w s544.2).bind λy556=>
       (Qy n s544.1 y556).bind λr558=>
       j551 r558)
      else (
       j551 s544.1)) (λ(s553:Qa)=>
      some (Lp.go (s553,wrap64 (s544.2+(1:Int))))))
    else (
     some (Lp.out s544.1))) n (r524,(0:Int))).bind λ(t542:Qa)=>
   (loopM (λ(s573:Qa×Int)=>
    bif decide (s573.2<(vs.length:Int)) then (
     (getI t.Code s573.2).bind λy574=>
     (getI s426.1 s573.2).bind λy576=>
     (getI vs s573.2).bind λy578=>
     (Qao n y574 s426.2.2.2.2 y576 y578 vs).bind λr580=>
     (Qy n s573.1 r580).bind λr582=>
     some (Lp.go (r582,wrap64 (s573.2+(1:Int)))))
    else (
     some (Lp.out s573.1))) n (t542,wrap64 (s426.2.2.2.2+(1:Int)))).bind λ(t571:Qa)=>
   (Ki n t571 lim).bind λr584=>
   bif !r584 then (
    some (Lp.out (Lp.out ((g0,(⟨(6:Int),(2:Int),s426.2.2.2.2⟩:Jj)))))) 
   else (
    (getI s426.1 s426.2.2.2.2).bind λ_=>
    (getI t.Code s426.2.2.2.2).bind λy588=>
    jn (λ(j592:(Qa)->Option _)=>
     bif decide (y588.Op=(2:Int)) then (
      (Qy n s426.2.1 t571).bind λr595=>
      j592 r595)
     else (
      j592 s426.2.1)) (λ(s594:Qa)=>
     jn (λ(j603:((List Qa))->Option _)=>
      bif decide (y588.Op=(3:Int)) then (
       (getI s426.2.2.1 y588.A).bind λy606=>
       (Qy n y606 t571).bind λr608=>
       (getI s426.2.2.1 y588.A).bind λ_=>
       j603 (List.set s426.2.2.1 (Int.toNat y588.A) r608))
      else (
       j603 s426.2.2.1)) (λ(s605:(List Qa))=>
      bif decide (y588.Op=(4:Int)) then (
       (getI s426.2.2.2.1 y588.A).bind λy612=>
       (Qy n y612 t571).bind λr614=>
       (getI s426.2.2.2.1 y588.A).bind λ_=>
       j521 ((List.set s426.1 (Int.toNat s426.2.2.2.2) t571),s594,s605,(List.set s426.2.2.2.1 (Int.toNat y588.A) r614)))
      else (
       j521 ((List.set s426.1 (Int.toNat s426.2.2.2.2) t571),s594,s605,s426.2.2.2.1)))))) (λ(s523:(List Qa)×Qa×(List Qa)×(List Qa))=>
   some (Lp.go (s523.1,s523.2.1,s523.2.2.1,s523.2.2.2,wrap64 (s426.2.2.2.2 - (1:Int))))))
 else (
  some (Lp.out (Lp.go (s426.2.1,s426.2.2.1,s426.2.2.2.1))))
def rbEnd(n:Nat)(lim:Int)(g0:Jw):RbT->Option (Jw×Jj):=λ(t424:Qa×(List Qa)×(List Qa))=>
    (appM 56 ([t424.1]:List Qa) t424.2.1).bind λy618=>
    (appM 56 y618 t424.2.2).bind λy620=>
    (Jz n y620 lim).bind λr622=>
    bif decide (r622<(y620.length:Int)) then (
     some (g0,(⟨(6:Int),(3:Int),r622⟩:Jj)))
    else (
     some ((⟨t424.1,t424.2.1,t424.2.2⟩:Jw),(⟨0,0,0⟩:Jj)))
theorem Jnl{n:Nat}{e:Q4}{j:Vq}{x2:List Qa}{f:Int}:Qb0 n e j x2 f=(Xm n (0:Int) (0:Int)).bind λa=>
 (Y8 n e j f).bind λd=>
 bif !decide (d.2.1=(0:Int)) then (
  some ((⟨a.1,a.2.1,a.2.2⟩:Jw),(⟨d.2.1,(0:Int),d.2.2⟩:Jj)))
 else (
  (mkM 56 ((⟨false,[],[]⟩:Qa):Qa) (d.1.length:Int)).bind λl=>
  (Xm n e.A3 e.A9).bind λi=>
  (loopM (rbBody n e x2 d.1 f ⟨a.1,a.2.1,a.2.2⟩) n (l,i.1,i.2.1,i.2.2,wrap64 ((d.1.length:Int) - (1:Int)))).bind (lpK (rbEnd n f ⟨a.1,a.2.1,a.2.2⟩))):=ut (ut rfl)
section
variable {n kw:Nat}{t:Q4}{vs w:List Rat}{lim:Int}{g0:Jw}
structure RbOK(n kw:Nat)(t:Q4)(vs w:List Rat)(lim:Int):Prop where
 hn:big<=n
 hkw:kw<=1000000
 tp:tapeR (tT t)
 pw:PowR t vs
 vl:vs.length=t.Code.length
 vq:QR 129 vs
 wq:QR kw w
 wl:w.length=t.Av.length
 lm:lim<=4096
theorem RbOK.dims(h:RbOK n kw t vs w lim):t.Code.length<=300/\(∀ o∈t.Av,0<=o/\o<(t.Code.length:Int))/\t.Av.length<=6/\(1<=t.A3/\t.A3<=6)/\(0<=t.A9/\t.A9<=6)/\(∀(i:Nat) x,t.Code[i]?=some x->mayR (tT t) i (tI x)):=by obtain⟨⟨⟨m,q⟩,⟨r,s⟩,u,l⟩,j,C⟩:=h.tp;have a:1<=t.A3:=m;have d:t.A3<=6:=q;have e:0<=t.A9:=r;have f:t.A9<=6:=s;have v:(t.Av.length:Int)=t.A3:=u;have eC:(tT t).Code=t.Code.map tI:=rfl;refine⟨by rw[eC,ou] at l;exact l,λo A=>?_,om,⟨a,d⟩,⟨e,f⟩,λi x B=>j i (tI x) (by rw[eC];exact Qav tI B)⟩;have:=C o A;rw[eC,ou] at this;exact this
theorem Jle(h:RbOK n kw t vs w lim){i:Nat}(hi:i<vs.length){β:Type}(K:Qa->Option β):(loopM (λ(s544:Qa×Int)=>
 bif decide (s544.2<(t.Av.length:Int)) then (
     (getI t.Av s544.2).bind λy554=>
     bif decide (y554=(i:Int)) then (
      (getI (rR w) s544.2).bind λy556=>
      (Qy n s544.1 y556).bind λr558=>
      some (Lp.go (r558,wrap64 (s544.2+(1:Int)))))
     else (
      some (Lp.go (s544.1,wrap64 (s544.2+(1:Int))))))
 else (
  some (Lp.out s544.1))) n (rF 0,(0:Int))).bind K=K (rF ((coQ vs.length t.Av w).getD i 0)):=by
 obtain⟨v,j,E,_⟩:=h.dims;have F:=h.wl;have hn:=h.hn;have A:=h.wq;have hkw:=h.hkw;have vl:=h.vl;rw[W1 (λq=>(rF ((((List.zip t.Av w).take q).foldl (λco z=>addAt co z.1 z.2) (List.replicate vs.length 0)).getD i 0),(q:Int))) t.Av.length (rF ((coQ vs.length t.Av w).getD i 0))];intro q x;have f:t.Av[q]?=some t.Av[q]:=oq x;have a:w[q]?=some (w[q]' om):=oq om;have d:=j _ (xb x);have r:=A _ (xb (l:=w) (n:=q) om);generalize t.Av[q]=o at f d;generalize w[q]' om=c at a r;have s:=Q5f (kw:=kw) ((List.zip t.Av w).take q) (List.replicate vs.length 0) 1 (xn _) (Qpb _) (λz G=>A _ (List.of_mem_zip (yx G)).2);have m:((List.zip t.Av w).take q).length<=6:=by rw[xk,wo];omega
 have C:=xt (kw+1) m;have u:=Jdl ((List.zip t.Av w).take q) (List.replicate vs.length (0:Rat));rw[ur] at u;rw[Ja1 f a,List.foldl_append,jx,List.foldl_nil,Qio d.1 om];generalize ((List.zip t.Av w).take q).foldl (λco z=>addAt co z.1 z.2) (List.replicate vs.length 0)=co at s u |-;have B:=V4 (i:=i) s om;simp only[];rw[oi (show(q:Int)<(t.Av.length:Int) by omega),bifT,Je f,sbind];by_cases e:o=(i:Int)
 rw[oi e,bifT,oo e,Je (Qim a),sbind,V7 (k:=8*(kw+1)) hn om om om,sbind,w1 om];rw[oj e,bifF,ol e,wx,w1 om];simp only[];rw[oj om,bifF,xc (by rw[wo];omega)];rfl;unfold big at hn;omega;show _=(rF ((List.replicate vs.length (0:Rat)).getD i 0),(0:Int))
 rw[Jjn]
theorem Jlf(h:RbOK n kw t vs w lim){i:Nat}{co:List Qa}:∀(cs:List Rat) (q d:Nat) (z:Rat) (b:Nat),q+cs.length=t.Code.length->co.drop q=rR cs->QR 129 cs->qw z<=b->b+cs.length*2001<=100000000->cs.length<d ->
 loopM (λ(s573:Qa×Int)=>
       bif decide (s573.2<((rR vs).length:Int)) then (
        (getI t.Code s573.2).bind λy574=>
        (getI co s573.2).bind λy576=>
        (getI (rR vs) s573.2).bind λy578=>
        (Qao n y574 (i:Int) y576 y578 (rR vs)).bind λr580=>
        (Qy n s573.1 r580).bind λr582=>
        some (Lp.go (r582,wrap64 (s573.2+(1:Int)))))
       else (
        some (Lp.out s573.1))) d (rF z,(q:Int))=some (rF (accB (tT t).Code vs i q cs z))/\qw (accB (tT t).Code vs i q cs z)<=b+cs.length*2001:=by
 obtain⟨I,P,O,_,_,F⟩:=h.dims;have hn:=h.hn;have vl:=h.vl;have K:=h.vq;have A:=h.pw;have eC:(tT t).Code=t.Code.map tI:=rfl;intro cs
 induction cs with
 | nil=>
   intro q d z b B _ _ J _ e;rw[yh,xq] at B;refine⟨Vs (by simp only[];rw[J7,oj om,bifF];rfl) om,?_⟩;simp only[accB];omega
 | cons c cs U=>
   intro q d z b B hd G J M e;rw[xm] at B e M;obtain⟨n'',rfl⟩:∃ n'',d=n''+1:=⟨d - 1,om⟩
   have m:t.Code[q]?=some (t.Code[q]' om):=oq om;generalize t.Code[q]' om=x at m;have E:(tT t).Code[q]?=some (tI x):=by rw[eC];exact Qav tI m
   have C:vs[q]?=some (vs[q]' om):=oq om;have f:=K _ (xb (l:=vs) (n:=q) om);have a:vs.getD q 0=vs[q]' om:=Qqe C;generalize vs[q]' om=v at C f a;have s:co[q]?=some (rF c):=by have:=yj (λl=>l[0]?) hd;simp only[vw,xq] at this;rw[this];rfl
   have u:co.drop (q+1)=rR cs:=by rw[<-List.drop_drop,hd];rfl
   obtain⟨s1,V⟩:=Q66 (j:=i) (c:=c) (r:=v) hn (F q _ m) om (G c (.head _)) f K (λN=>by rw[<-a];exact A q x m N);have R:=Zn J V;obtain⟨S,X⟩:=U (q+1) n'' (z+sentQ (tI x) i c v vs) (b+2001) om u (λy Q=>G y (.tail _ Q)) om om om;have L:accB (tT t).Code vs i q (c::cs) z=accB (tT t).Code vs i (q+1) cs (z+sentQ (tI x) i c v vs):=by simp only[accB];rw[E,a]
   rw[L,xm,vk];refine⟨?_,om⟩
   rw[Qb5 (s':=(rF (z+sentQ (tI x) i c v vs),((q+1:Nat):Int))) (by
    simp only[]
    rw[J7,oi (show(q:Int)<(vs.length:Int) by omega),bifT,Je m,sbind,Je s,sbind,Je (Qim C),sbind,s1,sbind,V7 (k:=b+2000) hn om om om,sbind,w1 om])]
   exact S
structure RbI(t:Q4)(vs w:List Rat)(b:Nat)(co:List Qa)(cs:List Rat)(s:BkS)(i:Nat):Prop where
 cl:co.length=vs.length
 cd:co.drop i=rR cs
 cq:QR 129 cs
 ci:cs.length+i=vs.length
 ac:∀ j,j<vs.length->s.co.getD j 0=accB (tT t).Code vs j i cs ((coQ vs.length t.Av w).getD j 0)
 sl:s.co.length=vs.length
 yl:(s.Y.length:Int)=t.A3
 pl:(s.P.length:Int)=t.A9
 tq:qw s.T<=b
 yq:QR b s.Y
 pq:QR b s.P
theorem Jlg(h:RbOK n kw t vs w lim){b i:Nat}{co:List Qa}{cs:List Rat}{s:BkS}(hi:RbI t vs w b co cs s (i+1))(d:1<=b)(hb:b<=1000000){x:Jv}(P:t.Code[i]?=some x):
 rbBody n t (rR w) (rR vs) lim g0 (co,rF s.T,rR s.Y,rR s.P,(i:Int))=(if (qz (s.co.getD i 0):Int)<=lim then some (.go (co.set i (rF (s.co.getD i 0)),rF (Qbg (tI x) (s.co.getD i 0) (vs.getD i 0) vs s).T,rR (Qbg (tI x) (s.co.getD i 0) (vs.getD i 0) vs s).Y,rR (Qbg (tI x) (s.co.getD i 0) (vs.getD i 0) vs s).P,(i:Int) - 1)) else some (.out (.out (g0,⟨6,2,(i:Int)⟩)))) /\
 ((qz (s.co.getD i 0):Int)<=lim->RbI t vs w (b+131) (co.set i (rF (s.co.getD i 0))) (s.co.getD i 0::cs) (Qbg (tI x) (s.co.getD i 0) (vs.getD i 0) vs s) i):=by
 obtain⟨S,hoc,ho6,⟨d1,d2⟩,⟨d3,d4⟩,R⟩:=h.dims;have hn:=h.hn;have vl:=h.vl;have hkw:=h.hkw;have Y:=hi.ci;have hsl:=hi.sl;have M:=hi.cl;have hyl:=hi.yl;have hpl:=hi.pl;have B:i<vs.length:=om
 have N:=R i x P;have J:=hi.ac i B;have L:qw ((coQ vs.length t.Av w).getD i 0)<=1+6*(kw+1):=by
  have C:QR (1+6*(kw+1)) (coQ vs.length t.Av w):=by
   unfold coQ;refine Jx (Q5f (kw:=kw) (List.zip t.Av w) _ 1 (xn _) (Qpb _) (λz u=>h.wq _ (List.of_mem_zip u).2)) ?_;have V:(List.zip t.Av w).length<=6:=by rw[wo];omega
   have:=xt (kw+1) V;omega
  exact V4 C om
 obtain⟨F,U⟩:=Jlf h (i:=i) (co:=co) cs (i+1) n ((coQ vs.length t.Av w).getD i 0) (1+6*(kw+1)) om hi.cd hi.cq L om (by unfold big at hn;omega);rw[<-J] at F U;have e:=fun {β:Type}(K:Qa->Option β)=>Jle h B K;generalize (coQ vs.length t.Av w).getD i 0=base at F e;have A:Ki n (rF (s.co.getD i 0)) lim=some (decide ((qz (s.co.getD i 0):Int)<=lim)):=by unfold Ki;rw[Qgx (k:=100000000) hn oz om,sbind]
 have v:co[i]?=some (co[i]' om):=oq om;generalize co[i]' om=old at v
 have hstep:∀ j,j<vs.length->(Qbg (tI x) (s.co.getD i 0) (vs.getD i 0) vs s).co.getD j 0=accB (tT t).Code vs j i (s.co.getD i 0::cs) ((coQ vs.length t.Av w).getD j 0):=λj Z=>by
  have Q:(tT t).Code[i]?=some (tI x):=by show(t.Code.map tI)[i]?=_;exact Qav tI P
  rw[Jh8 N om,hi.ac j Z];simp only[accB];rw[Q,Jdj]
 have hlens:=Qub (x:=tI x) (c:=s.co.getD i 0) (r:=vs.getD i 0) (vs:=vs) (s:=s);have eT:=Jjp (x:=tI x) (c:=s.co.getD i 0) (r:=vs.getD i 0) (vs:=vs) (s:=s);have eY:=Jjq (x:=tI x) (c:=s.co.getD i 0) (r:=vs.getD i 0) (vs:=vs) (s:=s);have eP:=Jjr (x:=tI x) (c:=s.co.getD i 0) (r:=vs.getD i 0) (vs:=vs) (s:=s);rw[show(tI x).Op=x.Op from rfl] at eT eY eP;rw[show(tI x).A=x.A from rfl] at eY eP;have O:=hi.tq;have m:=hi.yq;have l:=hi.pq;generalize Qbg (tI x) (s.co.getD i 0) (vs.getD i 0) vs s=s' at hstep hlens eT eY eP |-;generalize s.co.getD i 0=c at *;unfold rbBody;simp only[jn_eq];rw[oi (show(0:Int)<=(i:Int) by omega),bifT,Zp hn,sbind,e,w1 om,F,sbind,A,sbind];by_cases u:(qz c:Int)<=lim
 case neg=>rw[oj u,ov,bifT,ol u];exact⟨rfl,λg=>absurd g u⟩
 have hlm:=h.lm;have hc129:qw c<=129:=by have:=qw_qz (q:=c) (b:=4096) om;omega
 rw[oi u,ot,bifF,oo u,Je v,sbind,Je P,sbind,w64 (x:=(i:Int) - 1) om om,yo]
 have X:∀ {β:Type}(K:Qa->Option β),(bif decide (x.Op=2) then (Qy n (rF s.T) (rF c)).bind λr595=>K r595 else K (rF s.T))=K (rF s'.T):=λK=>by
  rw[eT];by_cases o:x.Op=2
  . rw[oi o,bifT,oo o,V7 (k:=b+129) hn om om om,sbind]
  . rw[oj o,bifF,ol o]
 have I:∀ {β:Type}(K:List Qa->Option β),(bif decide (x.Op=3) then (getI (rR s.Y) x.A).bind λy606=>(Qy n y606 (rF c)).bind λr608=>(getI (rR s.Y) x.A).bind λ_=>K ((rR s.Y).set x.A.toNat r608) else K (rR s.Y))=K (rR s'.Y):=λK=>by
  rw[eY];by_cases o:x.Op=3
  . obtain⟨a1,a2⟩:=Qyx N o
    have f:0<=x.A:=a1;have E:x.A<t.A3:=a2;have:=V4 (i:=x.A.toNat) m d;rw[oi o,bifT,oo o,Qfk f om,sbind,V7 (k:=b+129) hn om om om,sbind,sbind,Jh9];rfl
  . rw[oj o,bifF,ol o]
 have G:∀ {β:Type}(K:List Qa->Option β),(bif decide (x.Op=4) then (getI (rR s.P) x.A).bind λy612=>(Qy n y612 (rF c)).bind λr614=>(getI (rR s.P) x.A).bind λ_=>K ((rR s.P).set x.A.toNat r614) else K (rR s.P))=K (rR s'.P):=λK=>by
  rw[eP];by_cases o:x.Op=4
  . obtain⟨a1,a2⟩:=Qyy N o
    have f:0<=x.A:=a1;have E:x.A<t.A9:=a2;have:=V4 (i:=x.A.toNat) l d;rw[oi o,bifT,oo o,Qfk f om,sbind,V7 (k:=b+129) hn om om om,sbind,sbind,Jh9];rfl
  . rw[oj o,bifF,ol o]
 constructor
 . refine(X (λa=>bif decide (x.Op=3) then (getI (rR s.Y) x.A).bind λy606=>(Qy n y606 (rF c)).bind λr608=>(getI (rR s.Y) x.A).bind λ_=>bif decide (x.Op=4) then (getI (rR s.P) x.A).bind λy612=>(Qy n y612 (rF c)).bind λr614=>(getI (rR s.P) x.A).bind λ_=>some (Lp.go (co.set i (rF c),a,(rR s.Y).set x.A.toNat r608,(rR s.P).set x.A.toNat r614,(i:Int) - 1)) else some (Lp.go (co.set i (rF c),a,(rR s.Y).set x.A.toNat r608,rR s.P,(i:Int) - 1))
    else bif decide (x.Op=4) then (getI (rR s.P) x.A).bind λy612=>(Qy n y612 (rF c)).bind λr614=>(getI (rR s.P) x.A).bind λ_=>some (Lp.go (co.set i (rF c),a,rR s.Y,(rR s.P).set x.A.toNat r614,(i:Int) - 1)) else some (Lp.go (co.set i (rF c),a,rR s.Y,rR s.P,(i:Int) - 1)))).trans ?_
   refine(I (λy=>bif decide (x.Op=4) then (getI (rR s.P) x.A).bind λy612=>(Qy n y612 (rF c)).bind λr614=>(getI (rR s.P) x.A).bind λ_=>some (Lp.go (co.set i (rF c),rF s'.T,y,(rR s.P).set x.A.toNat r614,(i:Int) - 1)) else some (Lp.go (co.set i (rF c),rF s'.T,y,rR s.P,(i:Int) - 1)))).trans ?_;exact G (λp=>some (Lp.go (co.set i (rF c),rF s'.T,rR s'.Y,p,(i:Int) - 1)))
 . intro _
   refine⟨by rw[wk];exact M,by rw[Jdk om,hi.cd];rfl,λq C=>?_,by rw[xm];omega,hstep,om,om,om,?_,?_,?_⟩
   . rcases xg.1 C with rfl | C
     . exact hc129
     . exact hi.cq q C
   . rw[eT];split
     . have:=Zn O hc129;omega
     . omega
   . rw[eY];split
     . exact Jx (Qvk d m hc129) om
     . exact Jx m om
   . rw[eP];split
     . exact Jx (Qvk d l hc129) om
     . exact Jx l om
theorem Jlh(h:RbOK n kw t vs w lim)(K:RbT->Option (Jw×Jj)):∀(i a b:Nat) (co:List Qa) (cs:List Rat) (s:BkS),RbI t vs w b co cs s i->1<=b->b+i*131<=1000000->i<a ->
 match pullQ lim (tT t).Code vs i s with
 | .inl j=>(loopM (rbBody n t (rR w) (rR vs) lim g0) a (co,rF s.T,rR s.Y,rR s.P,(i:Int) - 1)).bind (lpK K)=some (g0,⟨6,2,(j:Int)⟩)
 | .inr z=>(loopM (rbBody n t (rR w) (rR vs) lim g0) a (co,rF s.T,rR s.Y,rR s.P,(i:Int) - 1)).bind (lpK K)=K (rF z.T,rR z.Y,rR z.P)/\qw z.T<=1000000/\QR 1000000 z.Y/\QR 1000000 z.P/\(z.Y.length:Int)=t.A3/\(z.P.length:Int)=t.A9:=by
 intro i
 induction i with
 | zero=>
   intro a b co cs s hi d u f;simp only[pullQ];refine⟨?_,by have:=hi.tq;omega,Jx hi.yq om,Jx hi.pq om,hi.yl,hi.pl⟩;rw[Vs (t:=Lp.go (rF s.T,rR s.Y,rR s.P)) (by unfold rbBody;simp only[jn_eq];rw[oj om,bifF]) om,xy,Xi]
 | succ i A=>
   intro a b co cs s hi d u f;obtain⟨n'',rfl⟩:∃ n'',a=n''+1:=⟨a - 1,om⟩
   have v:=hi.ci;have vl:=h.vl;have l:t.Code[i]?=some (t.Code[i]' om):=oq om;generalize t.Code[i]' om=x at l;have m:(tT t).Code[i]?=some (tI x):=by show(t.Code.map tI)[i]?=_;exact Qav tI l
   obtain⟨e,r⟩:=Jlg (g0:=g0) h hi d om l;simp only[pullQ,m];rw[show((i+1:Nat):Int) - 1=(i:Int) by omega];by_cases q:(qz (s.co.getD i 0):Int)<=lim;rw[oo q] at e |-;rw[Qb5 e];exact A n'' (b+131) _ _ _ (r q) om om om;rw[ol q] at e |-;simp only[];rw[Vs e om,xy,Z0]
end
theorem Q67{n k kw:Nat}{t:Q4}{T:Rat}{Y P w:List Rat}{lim:Int}(hn:big<=n)(G:129<=k)(hk:k<1048576)(hkw:kw<=1000000)(B:tapeR (tT t))(O:∀ c∈t.Code,Fk k (tF c.N))
 (R:qw T<=k) (S:QR k Y) (Q:QR k P) (hw:QR kw w) (hy:(Y.length:Int)=t.A3) (hp:(P.length:Int)=t.A9) (C:w.length=t.Av.length) (v:lim<=4096) :
 Qb0 n t ⟨rF T,rR Y,rR P⟩ (rR w) lim=some (match backQ (tT t) lim T Y P w with | .inl e=>(⟨rF 0,[],[]⟩,⟨e.1,e.2.1,(e.2.2:Int)⟩) | .inr z=>(⟨rF z.1,rR z.2.1,rR z.2.2⟩,⟨0,0,0⟩)) /\
 (∀ e,backQ (tT t) lim T Y P w=.inl e->e.1≠0)/\∀ z,backQ (tT t) lim T Y P w=.inr z->(z.2.1.length:Int)=t.A3/\(z.2.2.length:Int)=t.A9/\QR 129 z.2.1/\QR 129 z.2.2:=by
 have eC:(tT t).Code=t.Code.map tI:=rfl;have U:Xm n 0 0=some (rF 0,[],[]):=Je9 (a:=0) (b:=0) hn om om;rw[Jnl];unfold backQ;rw[U,sbind,Qws hn G hk B O R S Q hy hp v,sbind];cases i:runQ lim T Y P (tT t).Code 0 [] with
 | inl e=>
   have X:=Qqc i;simp only[];rw[oj (show ¬ e.1=0 by omega),ov,bifT];exact⟨rfl,λz h=>(by cases h;show e.1≠0;omega),λz h=>by cases h⟩
 | inr vs=>
 obtain⟨v1,v2⟩:=Quh v (λ_ h=>by cases h) i;have A:=Jld B i;have vl:vs.length=t.Code.length:=by rw[v1,eC,ou,yh,xj]
 have ok:RbOK n kw t vs w lim:=⟨hn,hkw,B,A,vl,v2,hw,C,v⟩
 obtain⟨F,hoc,Z,⟨d1,d2⟩,⟨d3,d4⟩,mm1⟩:=ok.dims;obtain⟨d,eDim⟩:∃ d:Nat,t.A3=(d:Int):=⟨t.A3.toNat,om⟩
 obtain⟨f,ePar⟩:∃ f:Nat,t.A9=(f:Int):=⟨t.A9.toNat,om⟩
 simp only[];rw[oi trivial,ot,bifF,J7,Qgl om om,sbind,show Xm n t.A3 t.A9=some (rF 0,rR (List.replicate d 0),rR (List.replicate f 0)) by rw[eDim,ePar];exact Je9 hn om om,sbind];have eDn:(tT t).A3.toNat=d:=by show t.A3.toNat=d;omega
 have ePn:(tT t).A9.toNat=f:=by show t.A9.toNat=f;omega
 rw[eDn,ePn,show(tT t).Av=t.Av from rfl,w64 om om]
 have N:RbI t vs w 1 (List.replicate vs.length ⟨false,[],[]⟩) [] ⟨coQ vs.length t.Av w,0,List.replicate d 0,List.replicate f 0⟩ vs.length:=
  ⟨oc,by rw[xf oc];rfl,λ_ h=>(by cases h),oc,λj V=>(by simp only[accB]),Jlc,by simp[eDim],by simp[ePar],by rw[Qab];exact xn _,Qpb _,Qpb _⟩
 have r:=Jlh (g0:=⟨rF 0,[],[]⟩) ok (rbEnd n lim ⟨rF 0,[],[]⟩) vs.length n 1 _ _ _ N (xn _) om (by unfold big at hn;omega);cases u:pullQ lim (tT t).Code vs vs.length ⟨coQ vs.length t.Av w,0,List.replicate d 0,List.replicate f 0⟩ with
 | inl j=>
   rw[u] at r;simp only[] at r |-;exact⟨r,λe h=>(by cases h;show(6:Int)≠0;decide),λz h=>by cases h⟩
 | inr z=>
   rw[u] at r;simp only[] at r |-;obtain⟨x,I,J,K,L,M⟩:=r;rw[x];unfold rbEnd;have eall:[rF z.T]++rR z.Y++rR z.P=rR (z.T::(z.Y++z.P)):=by unfold rR;simp
   have s:QR 1000000 (z.T::(z.Y++z.P)):=λq l=>by rcases xg.1 l with rfl | l;exact I;rcases ym.1 l with l | l;exact J q l;exact K q l
   simp only[];rw[Vt (by simp[J7];omega) (by simp[J7];omega),sbind,Vt (by simp[J7];omega) (by simp[J7];omega),sbind,eall,Qad (lim:=lim) hn (show 1000000<274877906944 by decide) s oh,sbind];cases E:fitQ lim (z.T::(z.Y++z.P)) 0 with
   | some j=>
     have V:=Qgv E;simp only[];rw[J7,oi om,bifT];exact⟨rfl,λe h=>(by cases h;show(6:Int)≠0;decide),λz h=>by cases h⟩
   | none=>
     have l:=Qmw v E;simp only[];rw[J7,oj om,bifF];refine⟨rfl,λe h=>(by cases h),λz' h=>?_⟩;cases h;exact⟨L,M,λq m=>l q (by simp[m]),λq m=>l q (by simp[m])⟩
abbrev RcS:=(List (List Qa))×Q0×Int
def rcBody(n:Nat)(a:Qq)(f x2:Qa)(x4:List Qa)(d:List (List Qa))(e:Int):RcS->Option (Lp RcS (Lp Q0 (Q0×Jj))):=λ(s247:(List (List Qa))×Q0×Int)=>
 bif decide ((0:Int)<=s247.2.2) then (
  (loopM (λ(s289:(List Qa)×Int)=>
   bif decide (s289.2<(x4.length:Int)) then (
    (getI a.Ap.B s247.2.2).bind λy290=>
    (getI x4 s289.2).bind λy292=>
    (Q3 n y290 y292).bind λr294=>
    (loopM (λ(s311:Qa×Int)=>
     bif decide (s311.2<(a.Ap.B.length:Int)) then (
      (getI a.Ap.A s311.2).bind λy312=>
      (getI y312 s247.2.2).bind λy314=>
      (getI s247.1 s311.2).bind λy316=>
      (getI y316 s289.2).bind λy318=>
      (Q3 n y314 y318).bind λr320=>
      (Qy n s311.1 r320).bind λr322=>
      some (Lp.go (r322,wrap64 (s311.2+(1:Int)))))
     else (
      some (Lp.out s311.1))) n (r294,wrap64 (s247.2.2+(1:Int)))).bind λ(t309:Qa)=>
    (Q3 n x2 t309).bind λr324=>
    (appM 56 s289.1 ([r324]:List Qa)).bind λy326=>
    some (Lp.go (y326,wrap64 (s289.2+(1:Int)))))
   else (
    some (Lp.out s289.1))) n (([]:List Qa),(0:Int))).bind λ(t287:(List Qa))=>
  (Jz n t287 e).bind λr328=>
  bif decide (r328<(t287.length:Int)) then (
   some (Lp.out (Lp.out (((⟨[],[]⟩:Q0),(⟨(6:Int),s247.2.2,wrap64 ((300:Int)+r328)⟩:Jj))))))
  else (
   (Vj n a f x2 s247.2.2).bind λr330=>
   (getI d s247.2.2).bind λy332=>
   (Vr n a r330 y332).bind λr334=>
   (Qb0 n a.Tape r334 t287 e).bind λr336=>
   bif !decide (r336.2.a0=(0:Int)) then (
    some (Lp.out (Lp.out (((⟨[],[]⟩:Q0),(⟨r336.2.a0,s247.2.2,r336.2.a2⟩:Jj))))))
   else (
    (getI s247.1 s247.2.2).bind λ_=>
    (Zy n s247.2.1.Y r336.1.Y).bind λr340=>
    (Zy n s247.2.1.P r336.1.P).bind λr342=>
    some (Lp.go ((List.set s247.1 (Int.toNat s247.2.2) r336.1.Y),(⟨r340,r342⟩:Q0),wrap64 (s247.2.2 - (1:Int)))))))
 else (
  some (Lp.out (Lp.go s247.2.1)))
def rcEnd(n:Nat)(d:Qq)(a:Int):Q0->Option (Q0×Jj):=λ(t245:Q0)=>
    (Jz n t245.Y a).bind λr344=>
    bif decide (r344<(t245.Y.length:Int)) then (
     some ((⟨[],[]⟩:Q0),(⟨(6:Int),(d.Ap.B.length:Int),wrap64 ((300:Int)+r344)⟩:Jj)))
    else (
     (Jz n t245.P a).bind λr346=>
     bif decide (r346<(t245.P.length:Int)) then (
      some ((⟨[],[]⟩:Q0),(⟨(6:Int),wrap64 ((d.Ap.B.length:Int)+(1:Int)),wrap64 ((300:Int)+r346)⟩:Jj)))
     else (
      some (t245,(⟨0,0,0⟩:Jj))))
theorem Jnm{n:Nat}{a:Qq}{e x2:Qa}{i x4:List Qa}:Qca n a e x2 i x4=(Xy a.Aw).bind λf=>
 (Xr n a e x2 i).bind λd=>
 bif !decide (d.2.a0=(0:Int)) then (
  some ((⟨[],[]⟩:Q0),d.2))
 else (
  (mkM 24 ([]:(List Qa)) (a.Ap.B.length:Int)).bind λl=>
  (appM 56 ([]:List Qa) x4).bind λm=>
  (V5 n (a.P.length:Int)).bind λj=>
  (loopM (rcBody n a e x2 x4 d.1.Ys f) n (l,(⟨m,j⟩:Q0),wrap64 ((a.Ap.B.length:Int) - (1:Int)))).bind (lpK (rcEnd n a f))):=ut (ut rfl)
structure RcOK(n k:Nat)(p:Qq)(T H:Rat)(W:List Rat)(yss:List (List Rat)):Prop where
 hn:big<=n
 h0:129<=k
 hk:k<8000
 hp:PrbWr k p
 hr:prbR (tP p)
 qT:qw T<=k
 qH:qw H<=k
 qW:QR k W
 wl:(W.length:Int)=p.Tape.A3
 ys:∀ a∈yss,QR 129 a/\a.length=W.length
 yl:yss.length=p.Ap.B.length
section
variable {n k:Nat}{p:Qq}{T H:Rat}{W:List Rat}{yss:List (List Rat)}{lim:Int}
def coefQ(p:Qq)(i:Nat):List Rat:=(((tS p.Ap).A.map rv).drop (i+1)).map λa=>a.getD i 0
theorem Jia(h:RcOK n k p T H W yss){i:Nat}{b:Qa}{ls:List (List Rat)}{r:List (List Qa)}(hb:p.Ap.B[i]?=some b)(hls:ls.length+(i+1)=p.Ap.B.length)(e:∀ a∈ls,QR 129 a/\a.length=W.length)(Y:r.drop (i+1)=rRR ls):
 (∀ {β:Type}(K:List Qa->Option β),(loopM (λ(s289:(List Qa)×Int)=>
      bif decide (s289.2<((rR W).length:Int)) then (
       (getI p.Ap.B (i:Int)).bind λy290=>
       (getI (rR W) s289.2).bind λy292=>
       (Q3 n y290 y292).bind λr294=>
       (loopM (λ(s311:Qa×Int)=>
        bif decide (s311.2<(p.Ap.B.length:Int)) then (
         (getI p.Ap.A s311.2).bind λy312=>
         (getI y312 (i:Int)).bind λy314=>
         (getI r s311.2).bind λy316=>
         (getI y316 s289.2).bind λy318=>
         (Q3 n y314 y318).bind λr320=>
         (Qy n s311.1 r320).bind λr322=>
         some (Lp.go (r322,wrap64 (s311.2+(1:Int)))))
        else (
         some (Lp.out s311.1))) n (r294,wrap64 ((i:Int)+(1:Int)))).bind λ(t309:Qa)=>
       (Q3 n (rF H) t309).bind λr324=>
       (appM 56 s289.1 ([r324]:List Qa)).bind λy326=>
       some (Lp.go (y326,wrap64 (s289.2+(1:Int)))))
      else (
       some (Lp.out s289.1))) n (([]:List Qa),(0:Int))).bind K=K (rR (bslQ ((tS p.Ap).A.map rv) (fr b) H W i ls)))/\QR (21*k) (bslQ ((tS p.Ap).A.map rv) (fr b) H W i ls)/\(bslQ ((tS p.Ap).A.map rv) (fr b) H W i ls).length=W.length:=by
 have hn:=h.hn;have h0:=h.h0;have hk:=h.hk;obtain⟨X,V,hpl⟩:=h.hr;have v:schR (tS p.Ap):=V;have M:tapeR (tT p.Tape):=X;obtain⟨⟨d1,d2⟩,_⟩:=M.1;have d2':p.Tape.A3<=6:=d2;have hwl:=h.wl;obtain⟨nA,nB,nC,nE⟩:=Q3j v;obtain⟨⟨⟨g1,g2⟩,g3,g4,g5⟩,g6⟩:=Ql4.1 v.2.1;have F:=Jr hb;have ebF:=Qco (nB b F);have Z:qw (fr b)<=k:=qw_fr (Fk_wd (h.hp.s.b b F)) om;have s:(bslQ ((tS p.Ap).A.map rv) (fr b) H W i ls).length=W.length:=Jjm λa f=>(e a f).2;have eAl:((tS p.Ap).A.map rv).length=p.Ap.A.length:=by show((p.Ap.A.map (·.map tF)).map rv).length=_;rw[ou,ou]
 have hcl:(coefQ p i).length=ls.length:=by unfold coefQ;rw[ou,uy,eAl];omega
 have I:∀ q,q<ls.length->∃ a x,p.Ap.A[i+1+q]?=some a/\a[i]?=some x/\rF (fr x)=x/\(coefQ p i)[q]?=some (fr x)/\qw (fr x)<=k:=λq E=>by
  have f:p.Ap.A[i+1+q]?=some (p.Ap.A[i+1+q]' om):=oq om;have B:=xb (l:=p.Ap.A) (n:=i+1+q) om;generalize p.Ap.A[i+1+q]' om=a at f B;have hal:=g6 (i+1+q) om a f;have N:a[i]?=some (a[i]' om):=oq om;have C:=xb (l:=a) (n:=i) om;generalize a[i]' om=x at N C;refine⟨a,x,f,N,Qco (nA a B x C),?_,qw_fr (Fk_wd (h.hp.s.a a B x C)) om⟩;have O:((tS p.Ap).A.map rv)[i+1+q]?=some (rvr a):=by
   show((p.Ap.A.map (·.map tF)).map rv)[i+1+q]?=_;rw[yr,yr,f];exact yj some (Qaj a)
  unfold coefQ;rw[yr,vw,O];have P:(rvr a)[i]?=some (fr x):=by unfold rvr;exact Qav fr N
  exact yj some (Qqe P)
 have cQ:QR k (coefQ p i):=λz m=>by obtain⟨q,E,rfl⟩:=List.getElem_of_mem m;obtain⟨a,x,_,_,_,hc,N⟩:=I q om;rw[oq E] at hc;rw[Option.some.inj hc];exact N
 have h8:ls.length*(k+129+1)<=8*(k+129+1):=xt _ om;have zl:(scaleQ (fr b) W).length=W.length:=Qcd;have G:bslQ ((tS p.Ap).A.map rv) (fr b) H W i ls=scaleQ H (mixQ (coefQ p i) ls (scaleQ (fr b) W)):=rfl;have qmix:=Qu9 (b:=k+k) cQ (λa f=>(e a f).1) (Qnr Z h.qW);have qall:=Qnr h.qH qmix;refine⟨fun {β} K=>?_,?_,s⟩;rw[W1 (λd=>(rR ((bslQ ((tS p.Ap).A.map rv) (fr b) H W i ls).take d),(d:Int))) W.length (rR (bslQ ((tS p.Ap).A.map rv) (fr b) H W i ls))];intro d hd;have Q:W[d]?=some W[d]:=oq hd;have A:=h.qW _ (xb hd);generalize W[d]=u at Q A;have q0:=Wa Z A;have R:(bslQ ((tS p.Ap).A.map rv) (fr b) H W i ls)[d]?=some (H*mixI (coefQ p i) ls d (fr b*u)):=by
  have hm:=Q5b (cs:=coefQ p i) (l:=ls) (z:=scaleQ (fr b) W) hd (λa f=>(e a f).2) zl;have m:(scaleQ (fr b) W)[d]?=some (fr b*u):=by unfold scaleQ;rw[yr,Q];rfl
  rw[Qqe m] at hm;have hml:(mixQ (coefQ p i) ls (scaleQ (fr b) W)).length=W.length:=Ql3 (λa f=>(e a f).2) zl;have L:(mixQ (coefQ p i) ls (scaleQ (fr b) W))[d]?=some (mixI (coefQ p i) ls d (fr b*u)):=by rw[<-hm,xh,oq om];rfl
  rw[G];unfold scaleQ at L |-;rw[yr,L];rfl
 have hloop:∀ {γ:Type}(K':Qa->Option γ),(loopM (λ(s311:Qa×Int)=>
  bif decide (s311.2<(p.Ap.B.length:Int)) then (
   (getI p.Ap.A s311.2).bind λy312=>
   (getI y312 (i:Int)).bind λy314=>
   (getI r s311.2).bind λy316=>
   (getI y316 (d:Int)).bind λy318=>
   (Q3 n y314 y318).bind λr320=>
   (Qy n s311.1 r320).bind λr322=>
   some (Lp.go (r322,wrap64 (s311.2+(1:Int)))))
  else (
   some (Lp.out s311.1))) n (rF (fr b*u),((i+1:Nat):Int))).bind K'=K' (rF (mixI (coefQ p i) ls d (fr b*u))):=λK'=>by
  rw[W1 (λq=>(rF (mixI ((coefQ p i).take q) (ls.take q) d (fr b*u)),((i+1+q:Nat):Int))) ls.length (rF (mixI (coefQ p i) ls d (fr b*u)))];intro q E;obtain⟨a,x,O,P,e3,e4,e5⟩:=I q E;have S:ls[q]?=some ls[q]:=oq E;obtain⟨lq,ll⟩:=e _ (xb E);generalize ls[q]=l at S lq ll;have hy:r[i+1+q]?=some (rR l):=by have:=yj (λz=>z[q]?) Y;simp only[vw] at this;rw[this];exact Qsl S
  have U:l[d]?=some (l.getD d 0):=by rw[xh,oq om];rfl
  have J:=V4 (i:=d) lq oz;have hpar:=Quk (i:=d) (z:=fr b*u) (b:=k+k) (cs:=(coefQ p i).take q) (l:=ls.take q) (j:=k) (k:=129) om (λz m=>cQ z (yx m)) (λz m=>(e z (yx m)).1) om;have h8':(ls.take q).length*(k+129+1)<=8*(k+129+1):=xt _ (by rw[xk];omega);have hmul:=Wa e5 J;rw[Yy e4,Yy S,Q2q (by rw[xk,xk];omega)];simp only[];rw[oi (show((i+1+q:Nat):Int)<(p.Ap.B.length:Int) by omega),bifT,Je O,sbind,Je P,sbind,Je hy,sbind,Je (Qim U),sbind]
  rw[show Q3 n x (rF (l.getD d 0))=some (rF (fr x*l.getD d 0)) by
   have:=V8 (p:=fr x) (q:=l.getD d 0) (k:=k) hn om e5 om
   rwa [e3] at this,sbind,V7 (k:=20*k) hn om om om,sbind,w1 om]
  rfl;simp only[];rw[oj om,bifF,xc om,xu];unfold big at hn;omega;rfl
 have hmI:=Quk (i:=d) (z:=fr b*u) (b:=k+k) (cs:=coefQ p i) (l:=ls) (j:=k) (k:=129) om cQ (λz m=>(e z m).1) om;simp only[J7];rw[oi (show(d:Int)<(W.length:Int) by omega),bifT,Je hb,sbind,Je (Qim Q),sbind]
 rw[show Q3 n b (rF u)=some (rF (fr b*u)) by
  have:=V8 (p:=fr b) (q:=u) (k:=k) hn om Z A
  rwa [ebF] at this,sbind,w1 om,hloop,V8 (k:=20*k) hn om (by have:=h.qH;omega) om,sbind,Vt (by simp[J7];omega) (by simp[J7];omega),sbind,w1 om,Yy R,Qmx]
 simp only[J7];rw[oj om,bifF,<-s,xu];unfold big at hn;omega;rfl;rw[G];exact Jx qall om
structure RcI(p:Qq)(W:List Rat)(b:Nat)(ysr:List (List Qa))(z:BdS)(i:Nat):Prop where
 cl:ysr.length=p.Ap.B.length
 cd:ysr.drop i=rRR z.ls
 ci:z.ls.length+i=p.Ap.B.length
 lq:∀ a∈z.ls,QR 129 a/\a.length=W.length
 yl:z.Y.length=W.length
 pl:z.P.length=p.P.length
 yq:QR b z.Y
 pq:QR b z.P
theorem Jli(h:RcOK n k p T H W yss)(E:lim<=4096){u i:Nat}{d:List (List Qa)}{z:BdS}(hi:RcI p W u d z (i+1))(v:129<=u)(hb:u<=1000000):
 match bstageQ (tT p.Tape) lim T H (rvr p.P) (yss.getD i []) ((rv (tS p.Ap).C).getD i 0) (bslQ ((tS p.Ap).A.map rv) ((rv (tS p.Ap).B).getD i 0) H W i z.ls) i with
 | .inl f=>rcBody n p (rF T) (rF H) (rR W) (rRR yss) lim (d,⟨rR z.Y,rR z.P⟩,(i:Int))=some (.out (.out (⟨[],[]⟩,⟨f.Ay,f.Bb,f.At⟩)))
 | .inr g=>rcBody n p (rF T) (rF H) (rR W) (rRR yss) lim (d,⟨rR z.Y,rR z.P⟩,(i:Int))=some (.go (d.set i (rR g.1),⟨rR (addQ z.Y g.1),rR (addQ z.P g.2)⟩,(i:Int) - 1))/\RcI p W (u+130) (d.set i (rR g.1)) ⟨g.1::z.ls,addQ z.Y g.1,addQ z.P g.2⟩ i:=by
 have hn:=h.hn;have h0:=h.h0;have hk:=h.hk;obtain⟨X,V,S⟩:=h.hr;have q:schR (tS p.Ap):=V;have r:tapeR (tT p.Tape):=X;obtain⟨⟨d1,d2⟩,⟨d3,d4⟩,d5,d6⟩:=r.1;have d1':1<=p.Tape.A3:=d1;have d2':p.Tape.A3<=6:=d2;have d4':p.Tape.A9<=6:=d4;have d5':(p.Tape.Av.length:Int)=p.Tape.A3:=d5;have hwl:=h.wl;obtain⟨nA,nB,nC,nE⟩:=Q3j q;obtain⟨⟨⟨g1,g2⟩,g3,g4,g5⟩,g6⟩:=Ql4.1 q.2.1;have G:(p.P.length:Int)=p.Tape.A9:=by
  have e:((tP p).P.length:Int)=(p.P.length:Int):=by unfold tP;simp
  rw[<-e];exact S
 have N:QR k (rvr p.P):=Qfy (λf C=>Fk_wd (h.hp.pk f C)) om;have L:((rvr p.P).length:Int)=p.Tape.A9:=by rw[Wr];exact G
 have hNorm:K8 n p.P=some (rR (rvr p.P)):=Qaq hn om (λf C=>Fk_wd (h.hp.pk f C)) h.hp.pl;have hci:=hi.ci;have R:=hi.cl;have hyl:=h.yl;have hil:i<p.Ap.B.length:=om
 have I:p.Ap.B[i]?=some (p.Ap.B[i]' om):=oq om;have J:p.Ap.C[i]?=some (p.Ap.C[i]' om):=oq om;have O:yss[i]?=some (yss[i]' om):=oq om;obtain⟨yq,yl⟩:=h.ys _ (xb (l:=yss) (n:=i) om);have s:=xb (l:=p.Ap.C) (n:=i) om;generalize p.Ap.B[i]' om=b at I;generalize p.Ap.C[i]' om=c at J s;have eYd:yss.getD i []=yss[i]' om:=by rw[xh,O];rfl
 rw[eYd];generalize yss[i]' om=yi at O yq yl;have eB:(rv (tS p.Ap).B).getD i 0=fr b:=by have:rv (tS p.Ap).B=rvr p.Ap.B:=Qaj _;rw[this];exact Qqe (by unfold rvr;exact Qav fr I)
 have eC:(rv (tS p.Ap).C).getD i 0=fr c:=by have:rv (tS p.Ap).C=rvr p.Ap.C:=Qaj _;rw[this];exact Qqe (by unfold rvr;exact Qav fr J)
 rw[eB,eC];obtain⟨s1,s2,s3⟩:=Jia h I om hi.lq hi.cd;have U:=Qco (nC c s);have B:qw (fr c)<=k:=qw_fr (Fk_wd (h.hp.s.c c s)) om;have m:=Qad (lim:=lim) hn (show 21*k<274877906944 by omega) s2 om;generalize bslQ ((tS p.Ap).A.map rv) (fr b) H W i z.ls=sl at s1 s2 s3 m |-;unfold bstageQ rcBody;simp only[];rw[oi (show(0:Int)<=(i:Int) by omega),bifT,s1,m,sbind];cases C:fitQ lim sl 0 with
 | some j=>
   have hj:=Qgv C;simp only[];rw[J7,oi om,bifT,w64 om om]
 | none=>
   simp only[];have F:=Wa h.qH B;have hadd:=Zn h.qT F;have qT:=h.qT;have K:Vj n p (rF T) (rF H) (i:Int)=some (rF (T+H*fr c)):=by unfold Vj;rw[Je J,sbind,<-U,V8 (k:=k) hn om h.qH B,sbind,fr_rF,V7 (k:=4*k) hn om om om,sbind]
   have M:Vr n p (rF (T+H*fr c)) (rR yi)=some ⟨rF (T+H*fr c),rR yi,rR (rvr p.P)⟩:=by unfold Vr;rw[hNorm,sbind]
   obtain⟨b1,b2,b3⟩:=Q67 (k:=22*k) (kw:=21*k) (t:=p.Tape) (T:=T+H*fr c) (Y:=yi) (P:=rvr p.P) (w:=sl) (lim:=lim) hn om om om r (λx hx=>Vm (h.hp.t x hx) om) om (Jx yq om) (Jx N om) s2 om L om E;rw[J7,oj om,bifF,K,sbind,Je (Qsl O),sbind,M,sbind,b1,sbind];cases A:backQ (tT p.Tape) lim (T+H*fr c) yi (rvr p.P) sl with
   | inl e=>
     have:=b2 e A;simp only[];rw[oj this,ov,bifT]
   | inr g=>
     obtain⟨l1,l2,Z,q2⟩:=b3 g A;have hold:d[i]?=some (d[i]' om):=oq om;have hyl':=hi.yl;have hpl2:=hi.pl;simp only[];rw[oi trivial,ot,bifF,Je hold,sbind,Qza (k:=u) hn om hi.yq (Jx Z v) om om,sbind,Qza (k:=u) hn om hi.pq (Jx q2 v) om om,sbind,yo,w64 (x:=(i:Int) - 1) om om];refine⟨rfl,by rw[wk];exact R,?_,by simp only[xm];omega,λa Q=>?_,by simp only[Qf4];omega,by simp only[Qf4];omega,Jx (Qu8 hi.yq Z) om,Jx (Qu8 hi.pq q2) om⟩;rw[Jdk om,hi.cd];rfl;rcases xg.1 Q with rfl | Q;exact⟨Z,om⟩;exact hi.lq a Q
theorem Jlj(h:RcOK n k p T H W yss)(m:lim<=4096)(K:Q0->Option (Q0×Jj)):∀(i d e:Nat) (a:List (List Qa)) (z:BdS),RcI p W e a z i->129<=e->e+i*130<=1000000->i<d ->
 match bstagesQ (tT p.Tape) (tS p.Ap) lim T H (rvr p.P) W yss i z with
 | .inl f=>(loopM (rcBody n p (rF T) (rF H) (rR W) (rRR yss) lim) d (a,⟨rR z.Y,rR z.P⟩,(i:Int) - 1)).bind (lpK K)=some (⟨[],[]⟩,⟨f.Ay,f.Bb,f.At⟩)
 | .inr g=>(loopM (rcBody n p (rF T) (rF H) (rR W) (rRR yss) lim) d (a,⟨rR z.Y,rR z.P⟩,(i:Int) - 1)).bind (lpK K)=K ⟨rR g.Y,rR g.P⟩/\QR 1000000 g.Y/\QR 1000000 g.P/\g.Y.length=W.length/\g.P.length=p.P.length:=by
 intro i
 induction i with
 | zero=>
   intro d e a z hi l v r;simp only[bstagesQ];refine⟨?_,Jx hi.yq om,Jx hi.pq om,hi.yl,hi.pl⟩;rw[Vs (t:=Lp.go ⟨rR z.Y,rR z.P⟩) (by unfold rcBody;simp only[];rw[oj om,bifF]) om,xy,Xi]
 | succ i x=>
   intro d e a z hi l v r;obtain⟨n'',rfl⟩:∃ n'',d=n''+1:=⟨d - 1,om⟩
   have j:=Jli h m hi l om;simp only[bstagesQ];rw[show((i+1:Nat):Int) - 1=(i:Int) by omega];cases q:bstageQ (tT p.Tape) lim T H (rvr p.P) (yss.getD i []) ((rv (tS p.Ap).C).getD i 0) (bslQ ((tS p.Ap).A.map rv) ((rv (tS p.Ap).B).getD i 0) H W i z.ls) i with
   | inl f=>
     rw[q] at j;simp only[] at j |-;rw[Vs j om,xy,Z0]
   | inr g=>
     rw[q] at j;simp only[] at j |-;obtain⟨s,u⟩:=j;rw[Qb5 s];exact x n'' (e+130) _ _ u om om om
end
theorem Q2u{n k:Nat}{p:Qq}{T H:Rat}{Y W:List Rat}(hn:big<=n)(h0:129<=k)(hk:k<8000)(hp:PrbWr k p)(hr:prbR (tP p))(C:qw T<=k)(B:qw H<=k)(S:QR k Y)(G:(Y.length:Int)=p.Tape.A3)(E:QR k W)(v:W.length=Y.length):
 Qca n p (rF T) (rF H) (rR Y) (rR W)=some (match backThQ (tP p) T H Y W with | .inl f=>(⟨[],[]⟩,⟨f.Ay,f.Bb,f.At⟩) | .inr z=>(⟨rR z.2.1,rR z.2.2⟩,⟨0,0,0⟩)):=by
 have i:=Q0d (T:=T) (H:=H) hr G;have eL:Xy p.Aw=some (limQ p.Aw):=rfl;have hlim4:limQ p.Aw<=4096:=by unfold limQ;omega
 have r:rv (tP p).P=rvr p.P:=Qaj p.P;have l:schR (tS p.Ap):=hr.2.1;have q:tapeR (tT p.Tape):=hr.1;obtain⟨⟨⟨g1,g2⟩,g3,g4,g5⟩,g6⟩:=Ql4.1 l.2.1;obtain⟨⟨d1,K⟩,⟨d3,M⟩,d5,d6⟩:=q.1;have L:p.Tape.A3<=6:=K;have N:p.Tape.A9<=6:=M;have I:(p.P.length:Int)=p.Tape.A9:=by
  have e:((tP p).P.length:Int)=(p.P.length:Int):=by unfold tP;simp
  rw[<-e];exact hr.2.2
 rw[Jnm];unfold backThQ;rw[eL,sbind,Qpn hn h0 hk hp hr C B S G,sbind,i];cases hd:doQ (tT p.Tape) (tS p.Ap) (limQ p.Aw) T H Y (rvr p.P) with
 | inl f=>
   have u:=Q5c hd;have X:f.Ay≠2:=by have:=(doQ_f hd).1;omega
   simp only[];rw[oj u,ov,bifT,ol (by rintro(g | g)<;>contradiction)]
 | inr z=>
 rw[hd] at i;obtain⟨J,Z⟩:=Q0f i;have A:z.ys.length=p.Ap.B.length:=by rw[Z];show(tS p.Ap).B.length=_;unfold tS;simp
 simp only[];rw[oi trivial,ot,bifF,ol (by intro g;exact g v),r];rw[show(tP p).Tape=tT p.Tape from rfl,show(tP p).Ap=tS p.Ap from rfl,show(tP p).Aw=p.Aw from rfl,show(toMr z).Ys=rRR z.ys from rfl];have ok:RcOK n k p T H W z.ys:=⟨hn,h0,hk,hp,hr,C,B,E,om,λa F=>⟨(J a F).1,by rw[(J a F).2];omega⟩,A⟩
 have eZ:V5 n (p.P.length:Int)=some (rR (List.replicate p.P.length 0)):=Qj1 hn om;rw[Qgl om om,sbind,Vt (by simp[J7];omega) (by simp[J7];omega),sbind,eZ,sbind,uf,w64 om om]
 have R:RcI p W k (List.replicate p.Ap.B.length []) ⟨[],W,List.replicate p.P.length 0⟩ p.Ap.B.length:=
  ⟨oc,by rw[xf oc];rfl,oc,λ_ h=>(by cases h),rfl,oc,E,Jx (Qpb _) om⟩
 have d:=Jlj ok hlim4 (rcEnd n p (limQ p.Aw)) p.Ap.B.length n k _ _ R h0 om (by unfold big at hn;omega);have eBl:(tS p.Ap).B.length=p.Ap.B.length:=by unfold tS;simp
 have ePl:(rvr p.P).length=p.P.length:=Wr _;unfold bdoQ;rw[eBl,ePl];cases m:bstagesQ (tT p.Tape) (tS p.Ap) (limQ p.Aw) T H (rvr p.P) W z.ys p.Ap.B.length ⟨[],W,List.replicate p.P.length 0⟩ with
 | inl f=>
   rw[m] at d;simp only[] at d |-;exact d
 | inr g=>
   rw[m] at d;simp only[] at d |-;obtain⟨O,P,Q,e4,e5⟩:=d;rw[O];unfold rcEnd;simp only[];rw[Qad (lim:=limQ p.Aw) hn (show 1000000<274877906944 by decide) P om,sbind];cases U:fitQ (limQ p.Aw) g.Y 0 with
   | some j=>
     have V:=Qgv U;simp only[];rw[J7,oi om,bifT,w64 om om]
   | none=>
     simp only[];rw[J7,oj om,bifF,Qad (lim:=limQ p.Aw) hn (show 1000000<274877906944 by decide) Q om,sbind];cases s:fitQ (limQ p.Aw) g.P 0 with
     | some j=>
       have V:=Qgv s;simp only[];rw[J7,oi om,bifT,w64 (x:=300+(j:Int)) om om,w1 om];rfl
     | none=>
       simp only[];rw[J7,oj om,bifF]
set_option maxRecDepth 100000
theorem w35:Qbl big=some true:=ox
set_option maxRecDepth 100000
theorem Jib{p:Qn}{T H:Rat}{Y W:List Rat}(h:¬(prbR p/\(Y.length:Int)=p.Tape.A3/\W.length=Y.length)):backThQ p T H Y W=.inl ⟨2,0,0,0⟩:=by
 unfold backThQ;by_cases a:prbR p/\(Y.length:Int)=p.Tape.A3;have hn:W.length≠Y.length:=λd=>h ⟨a.1,a.2,d⟩;cases e:stepQ p T H Y with
 | inl f=>simp only[];rw[oo (.inr hn)]
 | inr z=>simp only[];rw[oo hn]
 have:stepQ p T H Y=.inl ⟨2,0,0,0⟩:=by unfold stepQ;rw[ol a]
 rw[this];simp only[true_or,yn]
theorem Q95{t:Qr}{s:Q2}{lim:Int}{T H:Rat}{P W:List Rat}{yss:List (List Rat)}:∀ {i:Nat}{z f},bstagesQ t s lim T H P W yss i z=.inl f->f.Step=0
 | 0,z,f,h=>by simp only[bstagesQ] at h;cases h
 | i+1,z,f,h=>by
   simp only[bstagesQ] at h;cases a:bstageQ t lim T H P (yss.getD i []) ((rv s.C).getD i 0) (bslQ (s.A.map rv) ((rv s.B).getD i 0) H W i z.ls) i with
   | inr g=>rw[a] at h;exact Q95 h
   | inl g=>
     rw[a] at h;cases h;unfold bstageQ at a;split at a;cases a;rfl;split at a;cases a;rfl;cases a
theorem Jnn{p:Qn}{T H:Rat}{Y W:List Rat}{f}(h:backThQ p T H Y W=.inl f):f.Step=0:=by
 unfold backThQ at h;cases d:stepQ p T H Y with
 | inl g=>
   rw[d] at h;simp only[] at h;split at h;cases h;rfl;cases h;unfold stepQ at d;split at d;exact(doQ_f d).2;cases d;rfl
 | inr z=>
   rw[d] at h;simp only[] at h;split at h;cases h;rfl;cases hd:bdoQ p.Tape p.Ap (limQ p.Aw) T H (rv p.P) W z.ys with
   | inr w=>rw[hd] at h;cases h
   | inl g=>
     rw[hd] at h;cases h;unfold bdoQ at hd;cases a:bstagesQ p.Tape p.Ap (limQ p.Aw) T H (rv p.P) W z.ys p.Ap.B.length ⟨[],W,List.replicate (rv p.P).length 0⟩ with
     | inl e=>rw[a] at hd;cases hd;exact Q95 a
     | inr x=>
       rw[a] at hd;simp only[] at hd;split at hd;cases hd;rfl;split at hd;cases hd;rfl;cases hd
theorem Jic{n k:Nat}{a b:List Rat}(hn:big<=n)(hk:k<274877906944)(d:QR k a)(e:QR k b)(la:a.length<=1000000)(lb:b.length<=1000000):((Qaf n ⟨toR a,toR b⟩).bind λr=>Zc n r ⟨rR a,rR b⟩)=some true:=by unfold Qaf Zc;simp only[jn_eq];rw[Qmi hn (by rw[Kr];exact la),sbind,Qmi hn (by rw[Kr];exact lb),sbind,sbind,Q2o,Q2o];simp only[];rw[Qf7 hn la hk d,sbind,oi rfl,bifT,Qf7 hn lb hk e,sbind,oi rfl]
theorem Q68(p:Qq)(f:Zb)(w:List Qa)(P:X9 p)(A:Qou f)(U:Km w):∃ n,Qaw n p f w=some true:=by
 refine⟨big,?_⟩;have hn:big<=big:=xn _;unfold Qaw;simp only[jn_eq];obtain⟨v,N,E⟩:=Qrp (p:=p) (a:=10) (b:=4) (k:=2) hn oz oz;rw[show((10:Nat):Int)=10 from rfl,show((4:Nat):Int)=4 from rfl,show((2:Nat):Int)=2 from rfl] at N;rw[N,sbind];cases v
 case true=>rw[bifT,bifT,w35];rfl
 obtain⟨⟨t1,t2,t3⟩,⟨s1,s2,s3,s4,s5,s6⟩,p1⟩:=E rfl;rw[bifF];by_cases c1:(3:Int)<(p.Ap.B.length:Int)
 . rw[oi c1,bifT,bifT,w35];rfl
 rw[oj c1,bifF];obtain⟨v,X,Y⟩:=Q63 (f:=f) hn;rw[X,sbind];cases v
 case true=>rw[bifT,bifT,w35];rfl
 obtain⟨f1,f2,f3⟩:=Y rfl;obtain⟨v,O,Z⟩:=Yb (l:=w) (many:=6) (k:=2) hn oz;rw[show((6:Nat):Int)=6 from rfl,show((2:Nat):Int)=2 from rfl] at O;rw[bifF,O,sbind];cases v
 case true=>rw[bifT,bifT,w35];rfl
 have L:=Z rfl;rw[bifF];by_cases M:(400:Int)<p.Aw
 . rw[oi M,bifT,w35];rfl
 rw[oj M,bifF];have F:=Q8v (bits:=p.Aw) P oz (E rfl);have u:=Q5d P oz oz oz (E rfl);have S:Fk 129 (tF f.T):=Vm (Fk_tF A.1 f1) oz;have Q:Fk 129 (tF f.H):=Vm (Fk_tF A.2.1 f2) oz;have hY:FR 129 (f.Y.map tF):=W3 (FR_tF A.2.2.1 f3) oz;have hU:FR 129 (w.map tF):=W3 (FR_tF U L) oz;have s:FRr 129 f.Y:=Qin (Qve A.2.2.1 f3) oz;have q:FRr 129 w:=Qin (Qve U L) oz;have j:=Fk_wd S;have i:=Fk_wd Q;have f4:=f3.1;have u4:=L.1;have p2:=p1.1;have V:∀ x:Qa,Kb x=some (tF x):=λ_=>rfl;rw[Qts hn om om om (by have:=s3.1;omega) (by have:=s4.1;omega) (by have:=s5.1;omega) (λr hr=>by have:=(s6 r hr).1;omega) om,sbind,V,sbind,V,sbind,Qa2 hn om,sbind,Qa2 hn om,sbind];obtain⟨a1,a2,a3⟩:=Q31 (p:=tP p) (t:=tF f.T) (h:=tF f.H) (y:=f.Y.map tF) (w:=w.map tF) hn oz oz F S Q hY hU;rw[Qaj,Qaj,fr_tF,fr_tF] at a1 a2 a3;have qT:=qw_fr j oz;have qH:=qw_fr i oz;have qY:=Qfy s oz;have qU:=Qfy q oz;have hPn:(tP p).P.length=p.P.length:=by unfold tP;simp
 rw[a1,sbind,Qps (k:=129) hn oz oz u,sbind,bifnP];have C:=Jic (n:=big) (k:=1) (a:=[]) (b:=[]) hn oz (λ_ h=>by cases h) (λ_ h=>by cases h) oz oz
 have d:∀ {β:Type}(K:Bool->Option β),((Qaf big ⟨[],[]⟩).bind λm=>(Zc big m ⟨[],[]⟩).bind K)=K true:=λK=>by have:=yj (λz=>z.bind K) C;simp only[Option.bind_assoc] at this;exact this
 have e:¬(prbR (tP p)/\((rvr f.Y).length:Int)=(tP p).Tape.A3/\(rvr w).length=(rvr f.Y).length)->backThQ (tP p) (fr f.T) (fr f.H) (rvr f.Y) (rvr w)=.inl ⟨2,0,0,0⟩:=Jib;by_cases hr:prbR (tP p)
 case neg=>
  rw[ol hr,bifT,e λh=>hr h.1];simp only[];rw[d,bifT,Wf,bifT,w35];rfl
 rw[oo hr];by_cases B:(f.Y.length:Int)=p.Tape.A3
 case neg=>
  rw[oj B,ov,bifT,bifT,e λh=>B (by rw[Wr] at h;exact h.2.1)];simp only[];rw[d,bifT,Wf,bifT,w35];rfl
 rw[oi B,ot,bifF];by_cases I:(w.length:Int)=(f.Y.length:Int)
 case neg=>
  rw[oj I,ov,bifT,e λh=>I (by have:=h.2.2;rw[Wr,Wr] at this;omega)];simp only[];rw[d,bifT,Wf,bifT,w35];rfl
 clear e;rw[oi I,ot,bifF,Xb hn j.1 j.2.1 om om,sbind,Xb hn i.1 i.2.1 om om,sbind,Qaq hn (show 129<1099511627776 by decide) s om,sbind,Qaq hn (show 129<1099511627776 by decide) q om,sbind];have J:((rvr f.Y).length:Int)=p.Tape.A3:=by rw[Wr];exact B
 rw[Q2u hn oz oz u hr qT qH qY J qU (by rw[Wr,Wr];omega),sbind];unfold Qfn;cases R:backThQ (tP p) (fr f.T) (fr f.H) (rvr f.Y) (rvr w) with
 | inl g=>
   have g0:=Jnn R;obtain⟨b1,b2,b3,b4⟩:=g;simp only[] at g0;subst g0;simp only[];rw[d,bifT,sbind,Wf,bifT,w35];rfl
 | inr z=>
   obtain⟨z1,z2,z3,z4,z5,z6⟩:=a3 z R;rw[ou] at z4;have hs:=Jic (n:=big) (k:=129) (a:=z.2.1) (b:=z.2.2) hn oz z2 z3 om om
   have G:∀ {β:Type}(K:Bool->Option β),((Qaf big ⟨toR z.2.1,toR z.2.2⟩).bind λm=>(Zc big m ⟨rR z.2.1,rR z.2.2⟩).bind K)=K true:=λK=>by have:=yj (λz=>z.bind K) hs;simp only[Option.bind_assoc] at this;exact this
   simp only[];rw[G,bifT,sbind,Wf,bifT,w35];rfl
end Go.Proofs.YtbdgngdpkdagoabGreatDoor
