import Derived.Test.YtkkfedionkhgnaaGreatDoorModaa
import Derived.Test.YtkkfedionkhgnaaGreatDoorPa1
namespace Go.Proofs.YtkkfedionkhgnaaGreatDoor
open Go Go.RowKit
set_option maxRecDepth 100000
theorem w34:W0 big=some true:=by kernel_rfl
set_option maxRecDepth 100000
theorem Qys{L:List (List Rat)}{m:Nat}(hL:∀ c∈L,c.length=m)(hm:m≤1000)(hl:L.length≤1000):Qaj (toRR L) (m:Int)=some (toRR (colQ L m)):=Q36 hL hm hl
set_option maxRecDepth 100000
noncomputable def tuQ(p:Qf)(T H:Rat)(Y:List Rat)(n k i:Nat):Qc ⊕ (MadeQ×List Rat×List Rat):=tiltQ p T H Y (uniQ n i) (if n≤i then uniQ k (i - n) else zerQ k)
noncomputable def ysM(p:Qf)(T H:Rat)(Y:List Rat)(n k i:Nat):List (List Rat):=(List.range (min i n)).map λj=>movP p T H Y (uniQ n j) (zerQ k)
noncomputable def psM(p:Qf)(T H:Rat)(Y:List Rat)(n k i:Nat):List (List Rat):=(List.range (i - n)).map λj=>movP p T H Y (zerQ n) (uniQ k j)
theorem Jbi{p:Qf}{T H:Rat}{Y:List Rat}{n k i:Nat}(h:i<n):ysM p T H Y n k (i+1)=ysM p T H Y n k i++[movP p T H Y (uniQ n i) (zerQ k)]:=by unfold ysM;rw[show min (i+1) n=min i n+1 by omega,show min i n=i by omega,List.range_succ,List.map_append];rfl
theorem Jbj{p:Qf}{T H:Rat}{Y:List Rat}{n k i:Nat}(h:n≤i):ysM p T H Y n k (i+1)=ysM p T H Y n k i:=by unfold ysM;rw[show min (i+1) n=min i n by omega]
theorem Jbk{p:Qf}{T H:Rat}{Y:List Rat}{n k i:Nat}(h:n≤i):psM p T H Y n k (i+1)=psM p T H Y n k i++[movP p T H Y (zerQ n) (uniQ k (i - n))]:=by unfold psM;rw[show i+1 - n=i - n+1 by omega,List.range_succ,List.map_append];rfl
theorem Jbl{p:Qf}{T H:Rat}{Y:List Rat}{n k i:Nat}(h:i<n):psM p T H Y n k (i+1)=psM p T H Y n k i:=by unfold psM;rw[show i+1 - n=0 by omega,show i - n=0 by omega]
theorem Qw1{n:Nat}{p:Qf}{t h:Qa}{y:List Qa}(hn:big≤n)(hw:PrbW 129 p)(ht:Fk 129 t)(hh:Fk 129 h)(hy:FR 129 y)(hyl:y.length≤200)(hpl:p.P.length≤200):
 ∃ r,Qgi n p t h y=some r∧((r.2.2.Aq≠0∧r.1=[]∧r.2.1=[]) ∨
   (r.2.2=⟨0,0,0,0⟩∧y.length≠0∧(∀ i,i<y.length+p.P.length->∃ z,tuQ p (fv t) (fv h) (rv y) y.length p.P.length i=.inr z) ∧
     r.1=toRR (colQ (ysM p (fv t) (fv h) (rv y) y.length p.P.length (y.length+p.P.length)) y.length)∧r.2.1=toRR (colQ (psM p (fv t) (fv h) (rv y) y.length p.P.length (y.length+p.P.length)) y.length))):=by
 unfold Qgi;simp only[jn_eq];rw[w64 (x:=(y.length:Int)+(p.P.length:Int)) (by omega) (by omega)]
 have one:∀ i:Nat,i<y.length+p.P.length->∃ r,((Ve n (y.length:Int) (i:Int)).bind λr66=>(Ve n (p.P.length:Int) (wrap64 ((i:Int) - (y.length:Int)))).bind λr68=>Wt n p t h y r66 r68)=some r ∧
  ((r.2.Aq≠0∧∀ z,tuQ p (fv t) (fv h) (rv y) y.length p.P.length i≠.inr z)∨(∃ z,tuQ p (fv t) (fv h) (rv y) y.length p.P.length i=.inr z∧r.2=⟨0,0,0,0⟩∧r.1.A0=toR (movP p (fv t) (fv h) (rv y) (uniQ y.length i) (if y.length≤i then uniQ p.P.length (i - y.length) else zerQ p.P.length)))):=by
  intro i hi;rw[Qdj hn (by omega),sbind,if_pos (by omega),Int.toNat_natCast,w64 (by omega) (by omega),Qdj hn (by omega),sbind];have e:(if 0≤(i:Int) - (y.length:Int) then uniQ p.P.length ((i:Int) - (y.length:Int)).toNat else zerQ p.P.length)=(if y.length≤i then uniQ p.P.length (i - y.length) else zerQ p.P.length):=by by_cases c:y.length≤i;rw[if_pos (by omega),if_pos c];congr 1;omega;rw[if_neg (by omega),if_neg c]
  rw[e];have hv:FR 129 (toR (if y.length≤i then uniQ p.P.length (i - y.length) else zerQ p.P.length)):=by split;exact Qli;exact Q37
  obtain⟨d1,x1,z1⟩:=Qe8 (t:=t) (h:=h) (y:=y) (u:=toR (uniQ y.length i)) (v:=toR (if y.length≤i then uniQ p.P.length (i - y.length) else zerQ p.P.length)) hn (by decide) (by decide) hw ht hh hy Qli hv;refine⟨_,d1,?_⟩;rw[Kw,Kw] at x1 ⊢;unfold tuQ;cases hs:tiltQ p (fv t) (fv h) (rv y) (uniQ y.length i) (if y.length≤i then uniQ p.P.length (i - y.length) else zerQ p.P.length) with
  | inl f=>exact .inl ⟨x1 f hs,λz hz=>by cases hz⟩
  | inr z=>exact .inr ⟨z,rfl,rfl,by show toR z.2.1=_;rw[Qpo hs]⟩
 generalize hT:fv t=T at *;generalize hH:fv h=H at *;generalize hY:rv y=Y at *;generalize hN:y.length=N at *;generalize hK:p.P.length=K at *
 let body:(List (List Qa))×(List (List Qa))×Int->Option (Lp ((List (List Qa))×(List (List Qa))×Int) (Lp ((List (List Qa))×(List (List Qa))) ((List (List Qa))×(List (List Qa))×Qc))):=λs52=>
  bif decide (s52.2.2<((N:Int)+(K:Int))) then
   (Ve n (N:Int) s52.2.2).bind λr66=>
    (Ve n (K:Int) (wrap64 (s52.2.2 - (N:Int)))).bind λr68=>
    (Wt n p t h y r66 r68).bind λr70=>
    bif !(Qo r70.2 (⟨0,0,0,0⟩:Qc)) then (
     some (Lp.out (Lp.out ((([]:List (List Qa)),([]:List (List Qa)),r70.2)))))
    else (
     bif decide (s52.2.2<(N:Int)) then (
      (appM 24 s52.1 ([r70.1.A0]:List (List Qa))).bind λy72=>
      some (Lp.go (y72,s52.2.1,wrap64 (s52.2.2+(1:Int)))))
     else (
      (appM 24 s52.2.1 ([r70.1.A0]:List (List Qa))).bind λy74=>
      some (Lp.go (s52.1,y74,wrap64 (s52.2.2+(1:Int))))))
  else some (Lp.out (Lp.go (s52.1,s52.2.1)))
 have hbody:∀ i:Nat,i<N+K->(∃ f:Qc,f.Aq≠0∧body (toRR (ysM p T H Y N K i),toRR (psM p T H Y N K i),(i:Int))=some (.out (.out ([],[],f)))) ∨
  ((∃ z,tuQ p T H Y N K i=.inr z)∧body (toRR (ysM p T H Y N K i),toRR (psM p T H Y N K i),(i:Int))=some (.go (toRR (ysM p T H Y N K (i+1)),toRR (psM p T H Y N K (i+1)),((i+1:Nat):Int)))):=by
  intro i hi;obtain⟨r,e1,e2⟩:=one i hi
  have e3:body (toRR (ysM p T H Y N K i),toRR (psM p T H Y N K i),(i:Int))=(((Ve n (N:Int) (i:Int)).bind λr66=>(Ve n (K:Int) (wrap64 ((i:Int) - (N:Int)))).bind λr68=>Wt n p t h y r66 r68).bind λr70=>
   bif !(Qo r70.2 (⟨0,0,0,0⟩:Qc)) then (
    some (Lp.out (Lp.out ((([]:List (List Qa)),([]:List (List Qa)),r70.2)))))
   else (
    bif decide ((i:Int)<(N:Int)) then (
     (appM 24 (toRR (ysM p T H Y N K i)) ([r70.1.A0]:List (List Qa))).bind λy72=>
     some (Lp.go (y72,toRR (psM p T H Y N K i),wrap64 ((i:Int)+(1:Int)))))
    else (
     (appM 24 (toRR (psM p T H Y N K i)) ([r70.1.A0]:List (List Qa))).bind λy74=>
     some (Lp.go (toRR (ysM p T H Y N K i),y74,wrap64 ((i:Int)+(1:Int))))))):=by
   show(bif decide ((i:Int)<((N:Int)+(K:Int))) then _ else _)=_;rw[decide_eq_true (by omega),bifT];rw[Option.bind_assoc];congr 1;funext r66;rw[Option.bind_assoc]
  rw[e3,e1,sbind];rcases e2 with ⟨hk,_⟩ | ⟨z,hz,hf,hx⟩;left;obtain⟨r1,k,a,b,c⟩:=r;refine⟨⟨k,a,b,c⟩,hk,?_⟩;simp only[];rw[Jw hk,Bool.not_false,bifT];right;refine⟨⟨z,hz⟩,?_⟩;rw[hf,J2,Bool.not_true,bifF,hx,w1 (by omega)];have hl1:(toRR (ysM p T H Y N K i)).length=min i N:=by rw[Vs];simp[ysM]
  have hl2:(toRR (psM p T H Y N K i)).length=i - N:=by rw[Vs];simp[psM]
  by_cases c:i<N;rw[decide_eq_true (by omega),bifT,if_neg (by omega),Km (by simp only[hl1,List.length_singleton];omega) (by simp only[hl1,List.length_singleton];omega),sbind,Jbi c,Jbl c];unfold toRR;rw[List.map_append];rfl;rw[decide_eq_false (by omega),bifF,if_pos (by omega),Km (by simp only[hl2,List.length_singleton];omega) (by simp only[hl2,List.length_singleton];omega),sbind,Jbj (by omega),Jbk (by omega),Qny (show N≤i by omega)];unfold toRR;rw[List.map_append];rfl
 have loop:∀(d i m:Nat),i+d=N+K->d<m->(∀ j,j<i->∃ z,tuQ p T H Y N K j=.inr z) →
  (∃ f:Qc,f.Aq≠0∧loopM body m (toRR (ysM p T H Y N K i),toRR (psM p T H Y N K i),(i:Int))=some (.out ([],[],f))) ∨
  ((∀ j,j<N+K->∃ z,tuQ p T H Y N K j=.inr z)∧loopM body m (toRR (ysM p T H Y N K i),toRR (psM p T H Y N K i),(i:Int))=some (.go (toRR (ysM p T H Y N K (N+K)),toRR (psM p T H Y N K (N+K))))):=by
  intro d
  induction d with
  | zero=>
    intro i m hi hm hj;right;have:i=N+K:=by omega
    subst this;refine⟨hj,?_⟩;refine Yh ?_ hm;show(bif decide (((N+K:Nat):Int)<((N:Int)+(K:Int))) then _ else _)=_;rw[decide_eq_false (by omega),bifF]
  | succ d ih=>
    intro i m hi hm hj;cases m with
    | zero=>omega
    | succ m=>
      rcases hbody i (by omega) with ⟨f,hf,e⟩ | ⟨hz,e⟩;exact .inl ⟨f,hf,Yh e (by omega)⟩;rw[Qfu e]
      exact ih (i+1) m (by omega) (by omega) λj hj2=>by
       by_cases c:j<i;exact hj j c;have:j=i:=by omega
       subst this;exact hz
 have hb:∀ s,body s=(bif decide (s.2.2<((N:Int)+(K:Int))) then
  (Ve n (N:Int) s.2.2).bind λr66=>
   (Ve n (K:Int) (wrap64 (s.2.2 - (N:Int)))).bind λr68=>
   (Wt n p t h y r66 r68).bind λr70=>
   bif !(Qo r70.2 (⟨0,0,0,0⟩:Qc)) then (
    some (Lp.out (Lp.out ((([]:List (List Qa)),([]:List (List Qa)),r70.2)))))
   else (
    bif decide (s.2.2<(N:Int)) then (
     (appM 24 s.1 ([r70.1.A0]:List (List Qa))).bind λy72=>
     some (Lp.go (y72,s.2.1,wrap64 (s.2.2+(1:Int)))))
    else (
     (appM 24 s.2.1 ([r70.1.A0]:List (List Qa))).bind λy74=>
     some (Lp.go (s.1,y74,wrap64 (s.2.2+(1:Int))))))
  else some (Lp.out (Lp.go (s.1,s.2.1)))):=λ_=>rfl
 have h0:=loop (N+K) 0 n (by omega) (by unfold big at hn;omega) (λj hj=>absurd hj (Nat.not_lt_zero _));rw[show toRR (ysM p T H Y N K 0)=[] by simp[ysM,toRR],show toRR (psM p T H Y N K 0)=[] by simp[psM,toRR],show(((0:Nat)):Int)=(0:Int) from rfl] at h0;change ∃ r,((loopM body n ([],[],(0:Int))).bind _)=some r∧_;rcases h0 with ⟨f,hf,e⟩ | ⟨hz,e⟩;rw[e,sbind,Qft];exact⟨_,rfl,.inl ⟨hf,rfl,rfl⟩⟩;rw[e,sbind,Wr];by_cases c:(N:Int)=0;rw[decide_eq_true c,bifT];exact⟨_,rfl,.inl ⟨by show(2:Int)≠0;decide,rfl,rfl⟩⟩;rw[decide_eq_false c,bifF];have hN0:0<N:=by omega
 obtain⟨z0,hz0⟩:=hz 0 (by omega);have hm:p.Tape.Ar.length=N:=by
  obtain⟨a1,a2,a3,a4⟩:=Qnx hz0;obtain⟨dd,dl,_⟩:=Qa0 a1;have:=dd.1.1.2.2.1;have:Y.length=N:=by rw[←hY,Q3,hN]
  omega
 have l1:∀ c∈ysM p T H Y N K (N+K),c.length=N:=λc hc=>by unfold ysM at hc;obtain⟨j,_,rfl⟩:=List.mem_map.1 hc;rw[Ql8 (by rw[Qbd];exact hm),Qbd]
 have l2:∀ c∈psM p T H Y N K (N+K),c.length=N:=λc hc=>by unfold psM at hc;obtain⟨j,_,rfl⟩:=List.mem_map.1 hc;rw[Ql8 (by rw[Yv];exact hm),Yv]
 rw[Qys l1 (by omega) (by simp[ysM];omega),sbind,Qys l2 (by omega) (by simp[psM];omega),sbind];exact⟨_,rfl,.inr ⟨rfl,by omega,hz,rfl,rfl⟩⟩
set_option maxRecDepth 100000
theorem tu_ok{n:Nat}{p:Qf}{t h:Qa}{y:List Qa}{N K i:Nat}{z}(hn:big≤n)(hw:PrbW 129 p)(ht:Fk 129 t)(hh:Fk 129 h)(hy:FR 129 y)(hz:tuQ p (fv t) (fv h) (rv y) N K i=.inr z):
 QR 129 (movP p (fv t) (fv h) (rv y) (uniQ N i) (if N≤i then uniQ K (i - N) else zerQ K)):=by
 have hv:FR 129 (toR (if N≤i then uniQ K (i - N) else zerQ K)):=by split;exact Qli;exact Q37
 obtain⟨_,_,z1⟩:=Qe8 (t:=t) (h:=h) (y:=y) (u:=toR (uniQ N i)) (v:=toR (if N≤i then uniQ K (i - N) else zerQ K)) hn (by decide) (by decide) hw ht hh hy Qli hv;rw[Kw,Kw] at z1;obtain⟨_,q,_⟩:=z1 z hz;rw[←Qpo hz];exact q
theorem Q0c(p:Qz)(f:J7)(b:Kb)(hB:Vr p)(hF:Yo f)(hb:Zh b):∃ n,Xs n p f b=some true:=by
 refine⟨big,?_⟩;have hn:big≤big:=Nat.le_refl _;unfold Xs;simp only[jn_eq];obtain⟨v,e1,e2⟩:=Qd9 (p:=p) (a:=10) (b:=4) (k:=2) hn (by decide) (by decide);rw[show((10:Nat):Int)=10 from rfl,show((4:Nat):Int)=4 from rfl,show((2:Nat):Int)=2 from rfl] at e1;rw[e1,sbind];cases v
 case true=>rw[bifT,bifT,w34];rfl
 obtain⟨⟨t1,t2,t3⟩,⟨s1,s2,s3,s4,s5,s6⟩,p1⟩:=e2 rfl;rw[bifF];by_cases c1:(3:Int)<(p.An.B.length:Int)
 . rw[decide_eq_true c1,bifT,bifT,w34];rfl
 rw[decide_eq_false c1,bifF];obtain⟨v,e3,e4⟩:=Qg4 (f:=f) hn;rw[e3,sbind];cases v
 case true=>rw[bifT,bifT,w34];rfl
 obtain⟨f1,f2,f3⟩:=e4 rfl;rw[bifF];by_cases c2:(3:Int)<(f.Y.length:Int)
 . rw[decide_eq_true c2,bifT,bifT,w34];rfl
 rw[decide_eq_false c2,bifF];obtain⟨v,e5,e6⟩:=Qlb (b:=b) hn;rw[e5,sbind];cases v
 case true=>rw[bifT,w34];rfl
 obtain⟨u1,v1⟩:=e6 rfl;rw[bifF];obtain⟨bu,bv,_⟩:=hb;have hw:PrbW 129 ⟨(tP p).Tape,(tP p).An,(tP p).P,1500⟩:=Qra (bits:=1500) hB (by decide) (e2 rfl);have hT:Fk 129 (tF f.T):=Vq (Fk_tF hF.1 f1) (by decide);have hH:Fk 129 (tF f.H):=Vq (Fk_tF hF.2.1 f2) (by decide);have hY:FR 129 (f.Y.map tF):=Js (FR_tF hF.2.2.1 f3) (by decide);have hU:=FR_tF bu u1;have hV:=FR_tF bv v1;have lU:(b.U.map tF).length≤1000:=by have:=u1.1;rw[List.length_map];omega
 have lV:(b.V.map tF).length≤1000:=by have:=v1.1;rw[List.length_map];omega
 have lY:(f.Y.map tF).length≤3:=by rw[List.length_map];omega
 have to:∀ x:Qe,Jt x=some (tF x):=λ_=>rfl;rw[Qgk hn (by omega) (by omega) (by omega) (by have:=s3.1;omega) (by have:=s4.1;omega) (by have:=s5.1;omega) (λr hr=>by have:=(s6 r hr).1;omega) (by have:=p1.1;omega),sbind,to,sbind,to,sbind,Kx hn (by have:=f3.1;omega),sbind,Kx hn (by have:=u1.1;omega),sbind,Kx hn (by have:=v1.1;omega),sbind];rw[show(⟨(tP p).Tape,(tP p).An,(tP p).P,1500⟩:Qf)=⟨tT p.Tape,tS p.An,p.P.map tF,1500⟩ from rfl] at hw;rw[show(⟨(tP p).Tape,(tP p).An,(tP p).P,1500⟩:Qf)=⟨tT p.Tape,tS p.An,p.P.map tF,1500⟩ from rfl];have lP:(⟨tT p.Tape,tS p.An,p.P.map tF,1500⟩:Qf).P.length≤200:=by
  show(p.P.map tF).length≤200;rw[List.length_map];have:=p1.1;omega
 generalize (⟨tT p.Tape,tS p.An,p.P.map tF,1500⟩:Qf)=q at hw lP ⊢;generalize f.Y.map tF=y at *;generalize b.U.map tF=U at *;generalize b.V.map tF=V at *;generalize tF f.T=t at *;generalize tF f.H=h at *;obtain⟨r,r1,r2⟩:=Qw1 (n:=big) hn hw hT hH hY (by omega) lP;obtain⟨d1,x1,z1⟩:=Qe8 (t:=t) (h:=h) (y:=y) (u:=U) (v:=V) hn (by decide) (by decide) hw hT hH hY (Js hU (by decide)) (Js hV (by decide));rw[r1,sbind,d1,sbind];obtain⟨ra,rb,rc⟩:=r;rcases r2 with ⟨k1,k2,k3⟩ | ⟨k1,k2,k3,k4,k5⟩
 . obtain⟨a1,a2,a3,a4⟩:=rc
   simp only[] at k1 k2 k3 ⊢;subst k2 k3;rw[Jw k1,Bool.not_false,bifT];show(bif decide (((0:Nat):Int)=0) then _ else _)=_;rw[decide_eq_true (by omega),bifT,decide_eq_true (by simp),bifT,w34];rfl
 simp only[] at k1 k3 k4 k5 ⊢;subst k1 k4 k5;rw[J2,Bool.not_true,bifF];cases hs:tiltQ q (fv t) (fv h) (rv y) (rv U) (rv V) with
 | inl e=>
   have:=x1 e hs;obtain⟨a1,a2,a3,a4⟩:=e;simp only[];rw[Jw this,Bool.not_false,bifT,w34];rfl
 | inr z=>
   obtain⟨_,b1,b2,b3,b4⟩:=z1 z hs;simp only[];rw[J2,Bool.not_true,bifF];have hm:q.Tape.Ar.length=y.length:=by obtain⟨a1,a2,a3,a4⟩:=Qnx hs;obtain⟨dd,dl,_⟩:=Qa0 a1;have:=dd.1.1.2.2.1;rw[Q3] at dl;omega
   have hpl:q.P.length≤6:=by obtain⟨a1,a2,a3,a4⟩:=Qnx hs;obtain⟨dd,dl,_⟩:=Qa0 a1;have:=dd.1.1.2.1;have:=dd.2.2;have:=dd.1.1;omega
   generalize hN:y.length=N at *;generalize hK:q.P.length=K at *;have g1:ysM q (fv t) (fv h) (rv y) N K (N+K)=(List.range N).map λj=>movP q (fv t) (fv h) (rv y) (uniQ N j) (zerQ K):=by unfold ysM;rw[show min (N+K) N=N by omega]
   have g2:psM q (fv t) (fv h) (rv y) N K (N+K)=(List.range K).map λj=>movP q (fv t) (fv h) (rv y) (zerQ N) (uniQ K j):=by unfold psM;rw[show N+K - N=K by omega]
   rw[g1,g2]
   have q1:∀ c∈(List.range N).map λj=>movP q (fv t) (fv h) (rv y) (uniQ N j) (zerQ K),QR 129 c:=λc hc=>by obtain⟨j,hj,rfl⟩:=List.mem_map.1 hc;have hj:=List.mem_range.1 hj;obtain⟨w,hw2⟩:=k3 j (by omega);have:=tu_ok hn hw hT hH hY hw2;rw[if_neg (by omega)] at this;exact this
   have q2:∀ c∈(List.range K).map λj=>movP q (fv t) (fv h) (rv y) (zerQ N) (uniQ K j),QR 129 c:=λc hc=>by obtain⟨j,hj,rfl⟩:=List.mem_map.1 hc;have hj:=List.mem_range.1 hj;obtain⟨w,hw2⟩:=k3 (N+j) (by omega);have:=tu_ok hn hw hT hH hY hw2;rw[if_pos (by omega),Qny (by omega),show N+j - N=j by omega] at this;exact this
   generalize hL1:((List.range N).map λj=>movP q (fv t) (fv h) (rv y) (uniQ N j) (zerQ K))=L1 at *;generalize hL2:((List.range K).map λj=>movP q (fv t) (fv h) (rv y) (zerQ N) (uniQ K j))=L2 at *;have n1:L1.length=N:=by rw[←hL1];simp
   have n2:L2.length=K:=by rw[←hL2];simp
   have ne:∀ L:List (List Rat),colQ L N≠[]:=λL hc=>by have:=congrArg List.length hc;rw[Qb6] at this;exact k2 this
   rw[Qg5 (k:=129) (w:=N) hn (by decide) (by decide) (λr hr=>⟨by rw[Qr5 r hr,n1],Qnz (by decide) q1 r hr⟩) (ne _) (Js hU (by decide)) (by omega) (by rw[Qb6];omega),sbind,if_pos b3.symm,
    Qg5 (k:=129) (w:=K) hn (by decide) (by decide) (λr hr=>⟨by rw[Qr5 r hr,n2],Qnz (by decide) q2 r hr⟩) (ne _) (Js hV (by decide)) (by omega) (by rw[Qb6];omega),sbind,if_pos b4.symm]
   simp only[]
   have bd:∀ {L:List (List Rat)}{W:List Qa}{w:Nat},(∀ c∈L,QR 129 c)->FR 2 W->w≤6->QR 1600 ((colQ L N).map λr=>psum r (rv W) w):=fun {L W w} hL hW hw6 x hx=>by obtain⟨r,hr,rfl⟩:=List.mem_map.1 hx;have:=Qwz (k:=129) (by decide) (Qnz (by decide) hL r hr) (QR_rv (Js hW (by decide)) (by decide)) w;have:w*(2*129+1)≤6*(2*129+1):=Nat.mul_le_mul_right _ hw6;omega
   have m1:=bd q1 hU (show N≤6 by omega);have m2:=bd q2 hV hpl;rw[Qaz (k:=1600) hn (by decide) (by decide) (J6 m1) (J6 m2) (by rw[Q2,List.length_map,Qb6];omega),sbind,if_pos (by simp only[Q2,List.length_map,Qb6]),Kw,Kw];simp only[];have fin:addQ ((colQ L1 N).map λr=>psum r (rv U) N) ((colQ L2 N).map λr=>psum r (rv V) K)=z.2.1:=by rw[Qpo hs,←hL1,←hL2];exact Qyr (Jff (k:=K) hm) (by rw[Q3];exact b3) (by rw[Q3];exact b4)
   rw[fin,bifT,bifT,bifT,Qb4 (k:=129) hn (by decide) (by decide) (J6 b1) (J6 b1),sbind,decide_eq_true rfl,bifT,w34];rfl
end Go.Proofs.YtkkfedionkhgnaaGreatDoor
