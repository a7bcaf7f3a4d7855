import Derived.Test.YtbdgngdpkdagoabGreatDoorP2
namespace Go.Proofs.YtbdgngdpkdagoabGreatDoor
open Go Go.RowKit
theorem Qj1{n m:Nat}(hn:big<=n)(a:m<=300):V5 n (m:Int)=some (rR (List.replicate m 0)):=by unfold V5;rw[W1 (λi=>(rR (List.replicate i 0),(i:Int))) m (rR (List.replicate m 0))];intro i hi;simp only[jn_eq];rw[oi (show(i:Int)<(m:Int) by omega),bifT,oi (show(i:Int)<300 by omega),bifT,Zp hn,sbind,Vt (by simp[J7];omega) (by simp[J7];omega),sbind,w1 om,je,Qmx];simp only[jn_eq];rw[oj om,bifF,bifF];unfold big at hn;omega;rfl
theorem Q2r:∀ {Y:List Rat}{m:Nat},Y.length=m->addQ (List.replicate m 0) Y=Y
 | [],m,h=>by unfold addQ;simp
 | x::Y,m,h=>by
   obtain⟨j,rfl⟩:∃ j,m=j+1:=⟨m - 1,by simp at h;omega⟩
   have:=Q2r (Y:=Y) (m:=j) (by simpa using h);unfold addQ at this |-;rw[vn,List.zipWith_cons_cons,this];congr 1;grind
theorem Q61{t:Qr}{lim:Int}{T H:Rat}{Y P:List Rat}(g:lim<=4096):∀ {r:List (List Rat×Rat)}{i:Nat}{yss kss:List (List Rat)}{z}{j:Nat},(∀ a∈kss,QR 129 a)->kss.length=j->yss.length=j->stagesQ t lim T H Y P r i yss kss=.inr z ->
 (∀ a∈z.2,QR 129 a)/\z.2.length=j+r.length/\z.1.length=j+r.length
 | [],i,yss,kss,z,j,m,p,q,h=>by simp only[stagesQ] at h;cases h;exact⟨m,p,q⟩
 | x::r,i,yss,kss,z,j,m,p,q,h=>by
   simp only[stagesQ] at h;cases d:stageQ t lim T H Y P x.1 x.2 i kss with
   | inl f=>rw[d] at h;cases h
   | inr w=>
     rw[d] at h;have u:QR 129 w.2:=by
      unfold stageQ at d;split at d;cases d;cases n:fieldQ t lim (T+H*x.2) (fromQ H Y x.1 kss) P with
      | inl e=>rw[n] at d;cases d
      | inr k=>rw[n] at d;cases d;exact(Q2l g n).2
     obtain⟨g1,s,g3⟩:=Q61 g (j:=j+1) (λa l=>by
      rcases ym.1 l with l | l;exact m a l
      rw[xx.1 l];exact u) oh oh h
     exact⟨g1,by rw[s,xm];omega,by rw[g3,xm];omega⟩
def noMr:Kc:=⟨[],[],[],[]⟩
def toMr(z:MadeQ):Kc:=⟨rRR z.ys,rRR z.ks,rR z.next,rR z.err⟩
theorem Q3j{s:Jo}(h:schR (tS s)):(∀ r∈s.A,∀ f∈r,numR (tF f))/\(∀ f∈s.B,numR (tF f))/\(∀ f∈s.C,numR (tF f))/\∀ f∈s.E,numR (tF f):=by obtain⟨d,a⟩:=h.2.2.1;have eB:(tS s).B=s.B.map tF:=rfl;have eC:(tS s).C=s.C.map tF:=rfl;have eE:(tS s).E=s.E.map tF:=rfl;have eA:(tS s).A=s.A.map (·.map tF):=rfl;rw[eA] at d;rw[eB,eC,eE] at a;exact⟨λr hr=>Qi9.1 (d (r.map tF) (ua hr)),Qi9.1 (a _ oc),Qi9.1 (a _ oc),Qi9.1 (a _ oc)⟩
theorem Q3k{s:Jo}(h:schR (tS s)):gapQ (tS s)=[]↔s.E=[]:=by obtain⟨⟨⟨g1,e⟩,g3,g4,f⟩,g⟩:=Ql4.1 h.2.1;have eE:(tS s).E=s.E.map tF:=rfl;have eB:(tS s).B=s.B.map tF:=rfl;constructor;intro d;unfold gapQ at d;split at d;rename_i a;rw[eE] at a;simpa using a;have:=yj List.length d;rw[Qf4,Qcd,J5,J5,eE,eB] at this;simp only[ou,yh] at this;exact ow om;intro a;unfold gapQ;rw[oo (by rw[eE,a];rfl)]
theorem Qpn{n k:Nat}{p:Qq}{T H:Rat}{Y:List Rat}(hn:big<=n)(h0:129<=k)(hk:k<8000)(hp:PrbWr k p)(hr:prbR (tP p))(hT:qw T<=k)(V:qw H<=k)(hY:QR k Y)(hl:(Y.length:Int)=p.Tape.A3):
 Xr n p (rF T) (rF H) (rR Y)=some (match doQ (tT p.Tape) (tS p.Ap) (limQ p.Aw) T H Y (rvr p.P) with | .inl f=>(noMr,⟨f.Ay,f.Bb,f.At⟩) | .inr z=>(toMr z,⟨0,0,0⟩)):=by
 obtain⟨hta,hsc,hpl⟩:=hr;have B:tapeR (tT p.Tape):=hta;have w:schR (tS p.Ap):=hsc;have hpl':(p.P.length:Int)=p.Tape.A9:=by
  have e:((tP p).P.length:Int)=(p.P.length:Int):=by unfold tP;simp
  rw[<-e];exact hpl
 obtain⟨nA,nB,nC,nE⟩:=Q3j w;obtain⟨⟨⟨g1,g2⟩,g3,g4,g5⟩,g6⟩:=Ql4.1 w.2.1;obtain⟨⟨d1,d2⟩,⟨d3,d4⟩,d5,d6⟩:=B.1;have d1':1<=p.Tape.A3:=d1;have d2':p.Tape.A3<=6:=d2
 have hoc:∀ o∈p.Tape.Av,0<=o/\o<(p.Tape.Code.length:Int):=λo ho=>by
  have:=B.2.2 o ho;have e:(tT p.Tape).Code.length=p.Tape.Code.length:=by unfold tT;simp
  rw[e] at this;exact this
 have hol:(p.Tape.Av.length:Int)=p.Tape.A3:=d5;have hPq:QR k (rvr p.P):=Qfy (λf A=>Fk_wd (hp.pk f A)) om;have hPl:((rvr p.P).length:Int)=p.Tape.A9:=by rw[Wr];exact hpl'
 have hNorm:K8 n p.P=some (rR (rvr p.P)):=Qaq hn om (λf A=>Fk_wd (hp.pk f A)) hp.pl;obtain⟨lim,v⟩:∃ lim,lim=limQ p.Aw:=⟨_,rfl⟩
 have hlim4:lim<=4096:=by rw[v];unfold limQ;omega
 have eL:Xy p.Aw=some lim:=by rw[v];rfl
 unfold Xr;rw[eL,sbind,<-v];clear eL v
 have key:∀(m i X:Nat) (yss kss:List (List Rat)) (K:(List (List Qa))×(List (List Qa))->Option (Kc×Jj)),i+m=p.Ap.B.length->m<X->yss.length=i->kss.length=i->(∀ a∈kss,QR 129 a)->(∀ a∈kss,a.length=Y.length) ->
  (loopM (λ(g:(List (List Qa))×(List (List Qa))×Int)=>
  bif decide (g.2.2<(p.Ap.B.length:Int)) then (
   (getI p.Ap.A g.2.2).bind λy44=>
   (Kw n (rR Y) y44 g.2.1 (rF H)).bind λI=>
   (Jz n I lim).bind λr48=>
   bif decide (r48<(I.length:Int)) then (
    some (Lp.out (Lp.out (((⟨[],[],[],[]⟩:Kc),(⟨(6:Int),g.2.2,wrap64 ((300:Int)+r48)⟩:Jj))))))
   else (
    (Vj n p (rF T) (rF H) g.2.2).bind λr50=>
    (Vr n p r50 I).bind λr52=>
    (Y8 n p.Tape r52 lim).bind λJ=>
    bif !decide (J.2.1=(0:Int)) then (
     some (Lp.out (Lp.out (((⟨[],[],[],[]⟩:Kc),(⟨J.2.1,g.2.2,J.2.2⟩:Jj))))))
    else (
     (appM 24 g.1 ([I]:List (List Qa))).bind λy56=>
     (Y9 n p.Tape J.1).bind λr58=>
     (appM 24 g.2.1 ([r58]:List (List Qa))).bind λy60=>
     some (Lp.go (y56,y60,wrap64 (g.2.2+(1:Int)))))))
  else (
   some (Lp.out (Lp.go (g.1,g.2.1))))) X (rRR yss,rRR kss,(i:Int))).bind (lpK K)=match stagesQ (tT p.Tape) lim T H Y (rvr p.P) ((pairQ (tS p.Ap)).drop i) i yss kss with | .inl f=>some (noMr,⟨f.Ay,f.Bb,f.At⟩) | .inr z=>K (rRR z.1,rRR z.2):=by
  intro m
  induction m with
  | zero=>
    intro i X yss kss K hi hn' hy1 hk1 hq E;have he:(pairQ (tS p.Ap)).drop i=[]:=by apply jm;unfold pairQ tS;rw[wo,J5,ou,ou,ou];omega
    rw[Vs (t:=Lp.go (rRR yss,rRR kss)) (by simp only[];rw[oj om];rfl) om,xy,Xi,he];rfl
  | succ m ih=>
    intro i X yss kss K hi hn' hy1 hk1 hq E;obtain⟨n'',rfl⟩:∃ n'',X=n''+1:=⟨X - 1,om⟩
    have W:p.Ap.A[i]?=some (p.Ap.A[i]' om):=oq om;have hc:p.Ap.C[i]?=some (p.Ap.C[i]' om):=oq om;have O:=xb (l:=p.Ap.A) (n:=i) om;have Q:=xb (l:=p.Ap.C) (n:=i) om;generalize p.Ap.A[i]' om=a at W O;generalize p.Ap.C[i]' om=c at hc Q;have hal:=g6 i om a W;have hra:=Qnv (nA a O);have hrc:=Qco (nC c Q);have haq:QR k (rvr a):=Qfy (λf A=>Fk_wd (hp.s.a a O f A)) om;have hcq:qw (fr c)<=k:=qw_fr (Fk_wd (hp.s.c c Q)) om;have hpd:=Q9t (s:=tS p.Ap) (i:=i) (a:=a.map tF) (c:=tF c) (Qav _ W) (Qav _ hc);rw[Qaj,fr_tF] at hpd;rw[hpd];simp only[stagesQ];have N:=Qgy (c:=rvr a) hn h0 om V hY haq hq om (by rw[Wr];omega) E om;rw[hra] at N;have C:=Qns hY V haq hq om h0;have hfl:=Qha (H:=H) (Y:=Y) (c:=rvr a) E;have d:=Qad (lim:=lim) hn (show 22*k<274877906944 by omega) C om;unfold stageQ;cases A:fitQ lim (fromQ H Y (rvr a) kss) 0 with
    | some j=>
      rw[A] at d;have hj:=Qgv A;simp only[] at d |-
      rw[Vs (t:=Lp.out (noMr,⟨6,(i:Int),300+(j:Int)⟩)) (by
       simp only[]
       rw[oi (show(i:Int)<(p.Ap.B.length:Int) by omega),bifT,Je W,sbind,N,sbind,d,sbind,J7,oi om,bifT,w64 om om];rfl) om,xy,Z0]
    | none=>
      rw[A] at d;simp only[] at d |-;have hmul:=Wa V hcq;have hadd:=Zn hT hmul;have hMo:Vj n p (rF T) (rF H) (i:Int)=some (rF (T+H*fr c)):=by unfold Vj;rw[Je hc,sbind,<-hrc,V8 (k:=k) hn om V hcq,sbind,fr_rF,V7 (k:=4*k) hn om om om,sbind]
      have hPo:Vr n p (rF (T+H*fr c)) (rR (fromQ H Y (rvr a) kss))=some ⟨rF (T+H*fr c),rR (fromQ H Y (rvr a) kss),rR (rvr p.P)⟩:=by unfold Vr;rw[hNorm,sbind]
      have y:=Qws (k:=22*k) (t:=p.Tape) (T:=T+H*fr c) (Y:=fromQ H Y (rvr a) kss) (P:=rvr p.P) (lim:=lim) hn om om B (λx G=>Vm (hp.t x G) om) om C (Jx hPq om) (by rw[hfl];exact hl) hPl hlim4;unfold fieldQ;cases F:runQ lim (T+H*fr c) (fromQ H Y (rvr a) kss) (rvr p.P) (tT p.Tape).Code 0 [] with
      | inl e=>
        rw[F] at y;have hkd:=Qqc F;simp only[] at y |-
        rw[Vs (t:=Lp.out (noMr,⟨e.1,(i:Int),(e.2:Int)⟩)) (by
         simp only[];rw[oi (show(i:Int)<(p.Ap.B.length:Int) by omega),bifT,Je W,sbind,N,sbind,d,sbind,J7,oj om,bifF,hMo,sbind,hPo,sbind,y,sbind];simp only[]
         rw[oj (show ¬ e.1=0 by omega),ov,bifT];rfl) om,xy,Z0]
      | inr l=>
        rw[F] at y;obtain⟨l1,l2⟩:=Quh hlim4 (λ_ h=>by cases h) F;have l1':l.length=p.Tape.Code.length:=by rw[l1];unfold tT;simp
        have hOu:=Qwt (t:=p.Tape) (l:=l) hn hp.o (by rw[l1'];exact hoc);simp only[] at y |-;have hoe:(tT p.Tape).Av=p.Tape.Av:=rfl;rw[hoe]
        rw[Qb5 (s':=(rRR (yss++[fromQ H Y (rvr a) kss]),rRR (kss++[p.Tape.Av.map λo=>l.getD o.toNat 0]),((i+1:Nat):Int))) (by
         simp only[];rw[oi (show(i:Int)<(p.Ap.B.length:Int) by omega),bifT,Je W,sbind,N,sbind,d,sbind,J7,oj om,bifF,hMo,sbind,hPo,sbind,y,sbind];simp only[]
         rw[oi trivial,ot,bifF,Vt (by simp[Qlo];omega) (by simp[Qlo];omega),sbind,hOu,sbind,Vt (by simp[Qlo];omega) (by simp[Qlo];omega),sbind,w1 om,Qvf,Qvf])]
        exact ih (i+1) n'' _ _ K om om oh oh (λb hb=>by
         rcases ym.1 hb with h | h;exact hq b h;rw[xx.1 h];intro q hq';obtain⟨o,_,rfl⟩:=xd.1 hq';exact V4 l2 om) (λb hb=>by
         rcases ym.1 hb with h | h;exact E b h
         rw[xx.1 h];simp;omega)
 have M:=key p.Ap.B.length 0 n [] [] (λ(L:(List (List Qa))×(List (List Qa)))=>
 (Kw n (rR Y) p.Ap.B L.2 (rF H)).bind λR=>
 (Jz n R lim).bind λr64=>
 bif decide (r64<(R.length:Int)) then (
  some ((⟨[],[],[],[]⟩:Kc),(⟨(6:Int),(p.Ap.B.length:Int),wrap64 ((300:Int)+r64)⟩:Jj)))
 else (
  jn (λ(j76:((List Qa))->Option _)=>
   bif decide ((0:Int)<(p.Ap.E.length:Int)) then (
    (V5 n ((rR Y).length:Int)).bind λr79=>
    (Zw n p.Ap).bind λr81=>
    (Kw n r79 r81 L.2 (rF H)).bind λr83=>
    j76 r83)
   else (
    j76 [])) (λ(S:(List Qa))=>
   (Jz n S lim).bind λr85=>
   bif decide (r85<(S.length:Int)) then (
    some ((⟨[],[],[],[]⟩:Kc),(⟨(6:Int),wrap64 ((p.Ap.B.length:Int)+(1:Int)),wrap64 ((300:Int)+r85)⟩:Jj)))
   else (
    some ((⟨L.1,L.2,R,S⟩:Kc),(⟨0,0,0⟩:Jj)))))) om (by unfold big at hn;omega) rfl rfl (λ_ h=>by cases h) (λ_ h=>by cases h)
 refine M.trans ?_;clear M key;rw[gy];unfold doQ;have epair:List.zip ((tS p.Ap).A.map rv) (rv (tS p.Ap).C)=pairQ (tS p.Ap):=rfl;rw[epair];cases hst:stagesQ (tT p.Tape) lim T H Y (rvr p.P) (pairQ (tS p.Ap)) 0 [] [] with
 | inl f=>rfl
 | inr z=>
   simp only[];obtain⟨z1,z2,z3,z4⟩:=Qs2 (m:=Y.length) hlim4 (by have e:((tT p.Tape).Av.length:Int)=p.Tape.A3:=hol;omega) rfl (λ_ h=>by cases h) (λ_ h=>by cases h) hst;obtain⟨y1,y2,y3⟩:=Q61 hlim4 (λ_ h=>by cases h) rfl rfl hst;have hzl:z.2.length=p.Ap.B.length:=by rw[y2];show 0+(pairQ (tS p.Ap)).length=_;unfold pairQ tS;rw[wo,J5,ou,ou,ou];omega
   have hrB:=Qnv nB;have hBq:QR k (rvr p.Ap.B):=Qfy (λf A=>Fk_wd (hp.s.b f A)) om;have N:=Qgy (c:=rvr p.Ap.B) hn h0 om V hY hBq y1 om (by rw[Wr];omega) z1 om;rw[hrB] at N;have C:=Qns hY V hBq y1 om h0;have hfl:=Qha (H:=H) (Y:=Y) (c:=rvr p.Ap.B) z1;have d:=Qad (lim:=lim) hn (show 22*k<274877906944 by omega) C om;have eB:rv (tS p.Ap).B=rvr p.Ap.B:=Qaj _;have eBl:((tS p.Ap).B.length:Int)=(p.Ap.B.length:Int):=by unfold tS;simp
   unfold endQ;rw[eB,eBl,N,sbind,d,sbind];cases A:fitQ lim (fromQ H Y (rvr p.Ap.B) z.2) 0 with
   | some j=>
     have hj:=Qgv A;simp only[];rw[J7,oi om,bifT,w64 om om];rfl
   | none=>
     simp only[];rw[J7,oj om,bifF,jn_eq];by_cases U:p.Ap.E=[]
     have hg:=(Q3k w).2 U;rw[U,oo hg];have h00:=Qad (k:=1) (l:=[]) (lim:=lim) hn oz (λ_ h=>by cases h) oc;have Z:Jz n [] lim=some 0:=h00;rw[oj oc,bifF];simp only[];rw[Z,sbind,oj oc,bifF];rfl;have hg:gapQ (tS p.Ap)≠[]:=λh=>U ((Q3k w).1 h);have hEl:p.Ap.E.length≠0:=λh=>U (ow h);have hgapl:(gapQ (tS p.Ap)).length=p.Ap.B.length:=by
      have eE:(tS p.Ap).E=p.Ap.E.map tF:=rfl;have eB2:(tS p.Ap).B=p.Ap.B.map tF:=rfl;unfold gapQ;rw[ol (by rw[eE];simpa using U),Qf4,Qcd,J5,J5,eE,eB2];simp;omega
     have hgq:QR (2*k+2) (gapQ (tS p.Ap)):=by
      have hs:SchW k (tS p.Ap):=⟨λr hr=>by
       have eA:(tS p.Ap).A=p.Ap.A.map (·.map tF):=rfl;rw[eA] at hr;obtain⟨l,hl',rfl⟩:=xd.1 hr;intro x G;obtain⟨f,u,rfl⟩:=xd.1 G;exact hp.s.a l hl' f u,λx G=>by
       obtain⟨f,u,rfl⟩:=xd.1 G;exact hp.s.b f u,λx G=>by
       obtain⟨f,u,rfl⟩:=xd.1 G;exact hp.s.c f u,λx G=>by
       obtain⟨f,u,rfl⟩:=xd.1 G;exact hp.s.e f u,by
       have:=hp.s.nl;show p.Ap.Bh.length<=_
       omega⟩
      exact Q6v om hs
     have hGap:=Qy8 hn (show 1<=k by omega) om hp.s nB nE om g2 U;have hF2:=Qgy (k:=2*k+2) (Y:=List.replicate Y.length 0) (c:=gapQ (tS p.Ap)) hn om om (show qw H<=2*k+2 by omega) (Jx (Qpb _) om) hgq y1 om om (by simpa using z1) oh;have e0:fromQ H (List.replicate Y.length 0) (gapQ (tS p.Ap)) z.2=towQ H Y.length (gapQ (tS p.Ap)) z.2:=by
      unfold fromQ;rw[ur,Q2r (Qmv z1)]
     rw[e0] at hF2;have htl:=Qmv (H:=H) (c:=gapQ (tS p.Ap)) z1;have htb:=Qsg (m:=Y.length) (show qw H<=2*k+2 by omega) hgq y1 om om;have hRow2:=Qad (lim:=lim) hn (show 20*(2*k+2)<274877906944 by omega) htb om;rw[ol hg,oi (show(0:Int)<(p.Ap.E.length:Int) by omega),bifT,J7 Y,Qj1 hn om,sbind,hGap,sbind,hF2,sbind];simp only[];rw[hRow2,sbind];cases hf2:fitQ lim (towQ H Y.length (gapQ (tS p.Ap)) z.2) 0 with
     | some j=>
       have hj:=Qgv hf2;simp only[];rw[J7,oi om,bifT,w64 (x:=300+(j:Int)) om om,w1 om];rfl
     | none=>
       simp only[];rw[J7,oj om,bifF];rfl
set_option maxRecDepth 100000
theorem Fk_tF{k:Nat}{x:Qa}(a:Kd x)(h:x.N.length<=k/\x.D.length<=k):Fk k (tF x):=⟨a.2.1.2,h.1,a.2.2.1.2,h.2⟩
theorem FR_tF{many k:Nat}{l:List Qa}(d:Km l)(h:FL many k l):FR k (l.map tF):=λx e=>by obtain⟨y,a,rfl⟩:=xd.1 e;exact Fk_tF (d.2 y a) (h.2 y a)
theorem Q8v{a b k:Nat}{p:Qq}{bits:Int}(g:X9 p)(hk:k<=129)
 (h:(p.Tape.Code.length<=a/\p.Tape.Av.length<=a/\∀ c∈p.Tape.Code,c.N.N.length<=k/\c.N.D.length<=k)/\(p.Ap.Bh.length<=50/\p.Ap.A.length<=b/\FL b 4 p.Ap.B/\FL b 4 p.Ap.C/\FL b 4 p.Ap.E/\∀ r∈p.Ap.A,FL b 4 r)/\FL 6 k p.P) :
 PrbW 129 ⟨tT p.Tape,tS p.Ap,p.P.map tF,bits⟩:=by
 obtain⟨f,e,bp,_⟩:=g;obtain⟨⟨t,u,t3⟩,⟨s1,s,l,m,n,q⟩,j⟩:=h;refine⟨λc i=>?_,f.2.2.1,⟨λr hr=>?_,W3 (FR_tF e.2.2.2.1 l) om,W3 (FR_tF e.2.1 m) om,W3 (FR_tF e.2.2.2.2.1 n) om,by show p.Ap.Bh.length<=_;omega⟩,W3 (FR_tF bp j) hk⟩;obtain⟨d,hd,rfl⟩:=xd.1 i;exact Vm (Fk_tF (f.1.2 d hd).2.2.2.1 (t3 d hd)) hk;obtain⟨d,hd,rfl⟩:=xd.1 hr;exact W3 (FR_tF (e.2.2.1.2 d hd) (q d hd)) om
theorem PrbW.mono{j k:Nat}{p:Qn}(h:PrbW j p)(hk:j<=k):PrbW k p:=
 ⟨λc a=>Vm (h.t c a) hk,h.d,⟨λr hr=>W3 (h.s.a r hr) hk,W3 h.s.b hk,W3 h.s.c hk,W3 h.s.e hk,h.s.n⟩,W3 h.p hk⟩
set_option maxRecDepth 100000
theorem Jgh{t:Qr}{lim:Int}{T H:Rat}{Y P a:List Rat}{c:Rat}{i:Nat}{kss:List (List Rat)}{f}(h:stageQ t lim T H Y P a c i kss=.inl f):f.Ay≠0:=by
 unfold stageQ at h;split at h;cases h;show(6:Int)≠0;decide;cases d:fieldQ t lim (T+H*c) (fromQ H Y a kss) P with
 | inl e=>rw[d] at h;cases h;have:=Qxv d;show e.1≠0;omega
 | inr k=>rw[d] at h;cases h
theorem Q4l{t:Qr}{lim:Int}{T H:Rat}{Y P:List Rat}:∀ {r:List (List Rat×Rat)}{i:Nat}{yss kss:List (List Rat)}{f},stagesQ t lim T H Y P r i yss kss=.inl f->f.Ay≠0
 | [],i,yss,kss,f,h=>by simp only[stagesQ] at h;cases h
 | x::r,i,yss,kss,f,h=>by
   simp only[stagesQ] at h;cases a:stageQ t lim T H Y P x.1 x.2 i kss with
   | inl g=>rw[a] at h;cases h;exact Jgh a
   | inr w=>rw[a] at h;exact Q4l h
theorem Q5c{t:Qr}{s:Q2}{lim:Int}{T H:Rat}{Y P:List Rat}{f}(h:doQ t s lim T H Y P=.inl f):f.Ay≠0:=by
 unfold doQ at h;cases a:stagesQ t lim T H Y P (List.zip (s.A.map rv) (rv s.C)) 0 [] [] with
 | inl g=>rw[a] at h;cases h;exact Q4l a
 | inr z=>
   rw[a] at h;simp only[] at h;unfold endQ at h;split at h;cases h;show(6:Int)≠0;decide;split at h;cases h;show(6:Int)≠0;decide;cases h
theorem Q0d{p:Qq}{T H:Rat}{Y:List Rat}(hr:prbR (tP p))(a:(Y.length:Int)=p.Tape.A3):stepQ (tP p) T H Y=doQ (tT p.Tape) (tS p.Ap) (limQ p.Aw) T H Y (rvr p.P):=by unfold stepQ;rw[oo ⟨hr,a⟩,show rv (tP p).P=rvr p.P from Qaj p.P];rfl
theorem Q5d{a b k:Nat}{p:Qq}(y:X9 p)(hk:k<=129)(B:a<=1000000)(C:b<=1000000)
 (h:(p.Tape.Code.length<=a/\p.Tape.Av.length<=a/\∀ c∈p.Tape.Code,c.N.N.length<=k/\c.N.D.length<=k)/\(p.Ap.Bh.length<=50/\p.Ap.A.length<=b/\FL b 4 p.Ap.B/\FL b 4 p.Ap.C/\FL b 4 p.Ap.E/\∀ r∈p.Ap.A,FL b 4 r)/\FL 6 k p.P) :
 PrbWr 129 p:=by
 obtain⟨t,d,bp,_⟩:=y;obtain⟨⟨F,G,t3⟩,⟨s1,E,i,n,q,s⟩,g⟩:=h;have mk:∀ {m j:Nat}{l:List Qa},Km l->FL m j l->j<=129->FKs 129 l:=λu v w f A=>Vm (FR_tF u v (tF f) (ua A)) w;refine⟨λx e=>Vm (Fk_tF (t.1.2 x e).2.2.2.1 (t3 x e)) hk,om,⟨λr hr=>mk (d.2.2.1.2 r hr) (s r hr) om,λr hr=>by have:=(s r hr).1;omega,mk d.2.2.2.1 i om,by have:=i.1;omega,mk d.2.1 n om,by have:=n.1;omega,mk d.2.2.2.2.1 q om,by have:=q.1;omega,om⟩,mk bp g hk,by have:=g.1;omega⟩
theorem PrbWr.mono{j k:Nat}{p:Qq}(h:PrbWr j p)(hk:j<=k):PrbWr k p:=
 ⟨λx d=>Vm (h.t x d) hk,h.o,⟨λr hr f a=>Vm (h.s.a r hr f a) hk,h.s.al,λf a=>Vm (h.s.b f a) hk,h.s.bl,λf a=>Vm (h.s.c f a) hk,h.s.cl,λf a=>Vm (h.s.e f a) hk,h.s.el,h.s.nl⟩,λf a=>Vm (h.pk f a) hk,h.pl⟩
set_option maxRecDepth 100000
theorem Qin{j k:Nat}{l:List Qa}(h:FRr j l)(hk:j<=k):FRr k l:=λf e=>by obtain⟨a,b,c,d⟩:=h f e;exact⟨a,b,om,om⟩
set_option maxRecDepth 100000
def tTry(t:Qt):Q6:=⟨tF t.T,tF t.Ax,tF t.H,tF t.A5,t.Y.map tF,t.Ok⟩
def tHis(h:Qh):Qs:=⟨h.Aq.map tTry,tF h.T,h.Y.map tF⟩
theorem Q01{n:Nat}{h:Qh}(hn:big<=n)(f:h.Aq.length<=1000000)(d:h.Y.length<=1000000)(e:∀ t∈h.Aq,t.Y.length<=1000000):Qc5 n h=some (tHis h):=by unfold Qc5 Kb;rw[sbind,Qa2 hn d,sbind];rw[W1 (λi=>((h.Aq.take i).map tTry,(i:Int))) h.Aq.length (h.Aq.map tTry)];rfl;intro i hi;have hp:h.Aq[i]?=some h.Aq[i]:=oq hi;have a:=e h.Aq[i] (xb hi);generalize h.Aq[i]=t at hp a;rw[oi (show(i:Int)<(h.Aq.length:Int) by omega),bifT,Je hp,sbind,sbind,sbind,sbind,sbind,Qa2 hn a,sbind,Vt oh oh,sbind,w1 om,Qg8 tTry hp];rfl;rw[oj om,bifF,xu];unfold big at hn;omega;rfl
def FT(k:Nat)(t:Q6):Prop:=FR k [t.T,t.Ax,t.H,t.A5]/\FR k t.Y/\t.Y.length<=1000000
def FTr(k:Nat)(t:Qt):Prop:=FRr k [t.T,t.Ax,t.H,t.A5]/\FRr k t.Y/\t.Y.length<=1000000
set_option maxRecDepth 100000
def RulW(k:Nat)(r:Kg):Prop:=FR k [r.Bd,r.A4,r.Be,r.A6,r.Az]
theorem RulW.all{k:Nat}{r:Kg}(h:RulW k r):Fk k r.Bd/\Fk k r.A4/\Fk k r.Be/\Fk k r.A6/\Fk k r.Az:=
 ⟨h _ oc,h _ oc,h _ oc,h _ oc,h _ oc⟩
set_option maxRecDepth 100000
theorem sg_lt{a b:Rat}:(a - b).num.sign<0↔a<b:=by rw[Int.sign_neg_iff,<-Int.not_le,Rat.num_nonneg,<-Rat.le_iff_sub_nonneg,Rat.not_le]
theorem sg_gt{a b:Rat}:0<(a - b).num.sign↔b<a:=by
 have e:(a - b).num=-(b - a).num:=by rw[<-Qyv,Rat.neg_sub]
 rw[Int.sign_pos_iff,e,<-sg_lt,Int.sign_neg_iff];omega
theorem sg_le{a b:Rat}:(a - b).num.sign<=0↔a<=b:=by rw[<-Int.not_lt,sg_gt,Rat.not_lt]
theorem sg_ge{a b:Rat}:0<=(a - b).num.sign↔b<=a:=by rw[<-Int.not_lt,sg_lt,Rat.not_lt]
theorem Qnx{a:Rat}:0<a.num.sign↔0<a:=by have:=@sg_gt a 0;rwa [show a - 0=a by grind] at this
theorem Q2s{a:Rat}:0<=a.num.sign↔0<=a:=by have:=@sg_ge a 0;rwa [show a - 0=a by grind] at this
structure TryA where
 T:Rat
 Ax:Rat
 H:Rat
 A5:Rat
 Y:List Rat
 Ok:Bool
set_option maxRecDepth 100000
theorem Q62{p:Qn}{T H:Rat}{Y:List Rat}{f}(h:stepQ p T H Y=.inl f):f.Ay≠0:=by unfold stepQ at h;split at h;exact Q5c h;cases h;show(2:Int)≠0;decide
set_option maxRecDepth 100000
def toTryAr(t:TryA):Qt:=⟨rF t.T,rF t.Ax,rF t.H,rF t.A5,rR t.Y,t.Ok⟩
set_option maxRecDepth 100000
def canF(x:Qc):Prop:=x=toF (fv x)
theorem Qvg{n k:Nat}{l:List (List Qc)}(hn:big<=n)(hk:k<1099511627776)(h:∀ r∈l,FR k r):Qg2 n l=some (dP (∀ r∈l,∀ x∈r,canF x)):=by
 classical
 unfold Qg2;rw[Qb8 (λ_ (r:List Qc)=>∀ x∈r,canF x) (r:=false),Qil];by_cases g:∀ r∈l,∀ x∈r,canF x;rw[oo g,dP_t g];rw[ol g,dP_f g];intro i r hr;have e:=h r (Jr hr)
 have a:((rangeL (λ(_:Nat) (j:Qc) (_:Unit)=>
  (Yl n j).bind λf=>
  bif !f then (
   some (Lp.out (Lp.out (false))))
  else (
   some (Lp.go ()))) r 0 ()).bind (lpK λ(_:Unit)=>
 some (Lp.go ())))=if (∀(i:Nat) x,r[i]?=some x->canF x) then (some (Lp.go ()):Option (Lp Unit Bool)) else some (Lp.out false):=by refine Qb8 (λ_ (x:Qc)=>canF x) r (λi x m=>?_);rw[Qro hn (Fk_Fw (e x (Jr m)) om),sbind];exact⟨λd=>by rw[oi (show x=toF (fv x) from d)];rfl,λd=>by rw[oj (show ¬ x=toF (fv x) from d)];rfl⟩
 rw[Qil] at a;exact⟨λg=>by rw[a,oo g],λg=>by rw[a,ol g]⟩
def nextT(h:Qs)(i:Nat):Qc:=match h.Aq[i+1]? with | some u=>u.T | none=>h.T
def nextY(h:Qs)(i:Nat):List Qc:=match h.Aq[i+1]? with | some u=>u.Y | none=>h.Y
structure Qgm(h:Qs):Prop where
 c:(∀ t∈h.Aq,∀ r∈[[t.T,t.Ax,t.H,t.A5],t.Y],∀ x∈r,canF x)/\∀ r∈[[h.T],h.Y],∀ x∈r,canF x
 l:(∀ t∈h.Aq,t.Y.length=h.Y.length)/\1<=h.Y.length/\h.Y.length<=6
 m:h.Aq.length<=200
 s:∀ t∈h.Aq,0<fv t.Ax/\0<fv t.H/\fv t.H<=fv t.Ax/\0<=fv t.A5
 n:∀(i:Nat) t,h.Aq[i]?=some t->(t.Ok=true->fv (nextT h i)=fv t.T+fv t.H)/\(t.Ok=false->fv (nextT h i)=fv t.T/\rv (nextY h i)=rv t.Y)
theorem Qrv{n k:Nat}{h:Qs}(hn:big<=n)(d:1<=k)(hk:k<100000000)(T:h.Aq.length<=1000000)(j:∀ t∈h.Aq,FT k t)(H:Fk k h.T)(I:FR k h.Y)(M:h.Y.length<=1000000):
 Qk3 n h=some (dP (Qgm h)):=by
 classical
 have pk:∀ t∈h.Aq,Fk k t.T/\Fk k t.Ax/\Fk k t.H/\Fk k t.A5:=λt f=>by have g:=(j t f).1;exact⟨g _ oc,g _ oc,g _ oc,g _ oc⟩
 unfold Qk3 Qqw;have eP:Qnh n h=some (dP ((∀ t∈h.Aq,∀ r∈[[t.T,t.Ax,t.H,t.A5],t.Y],∀ x∈r,canF x)/\∀ r∈[[h.T],h.Y],∀ x∈r,canF x)):=by
  unfold Qnh
  rw[Qb8 (λ_ (t:Q6)=>∀ r∈[[t.T,t.Ax,t.H,t.A5],t.Y],∀ x∈r,canF x) (r:=false),Qil,Qvg (k:=k) hn om (λr hr=>by
   rcases xg.1 hr with rfl | hr
   . intro x O;rw[xx.1 O];exact H
   . rw[xx.1 hr];exact I),sbind]
  . by_cases g:∀ t∈h.Aq,∀ r∈[[t.T,t.Ax,t.H,t.A5],t.Y],∀ x∈r,canF x
    . rw[oo g];exact Q3f ⟨λa=>⟨g,a⟩,λa=>a.2⟩
    . rw[ol g,dP_f λa=>g a.1]
  . intro i t hi
    have f:=Jr hi
    have e:Qg2 n [[t.T,t.Ax,t.H,t.A5],t.Y]=some (dP (∀ r∈[[t.T,t.Ax,t.H,t.A5],t.Y],∀ x∈r,canF x)):=Qvg (k:=k) hn om (λr hr=>by
     rcases xg.1 hr with rfl | hr
     . exact(j t f).1
     . rw[xx.1 hr];exact(j t f).2.1)
    unfold Qc3;rw[sbind,e,sbind];exact⟨λg=>by rw[dP_t g];rfl,λg=>by rw[dP_f g];rfl⟩
 have eL:Qk2 h=some (dP ((∀ t∈h.Aq,t.Y.length=h.Y.length)/\1<=h.Y.length/\h.Y.length<=6)):=by
  unfold Qk2;simp only[jn_eq];rw[Qb8 (λ_ (t:Q6)=>t.Y.length=h.Y.length) (r:=false),Qil]
  . by_cases g:∀ t∈h.Aq,t.Y.length=h.Y.length
    . rw[oo g]
      by_cases g1:(1:Int)<=(h.Y.length:Int)
      . rw[oi g1,bifT];exact Qei ⟨λa=>⟨g,om,om⟩,λa=>by have:=a.2.2;omega⟩
      . rw[oj g1,bifF,dP_f λa=>g1 (by have:=a.2.1;omega)]
    . rw[ol g,dP_f λa=>g a.1]
  . intro i t hi
    exact⟨λg=>by rw[oi om];rfl,λg=>by rw[oj om];rfl⟩
 have eS:Qni n h=some (dP (∀ t∈h.Aq,0<fv t.Ax/\0<fv t.H/\fv t.H<=fv t.Ax/\0<=fv t.A5)):=by
  unfold Qni;simp only[jn_eq];rw[Qb8 (λ_ (t:Q6)=>0<fv t.Ax/\0<fv t.H/\fv t.H<=fv t.Ax/\0<=fv t.A5) (r:=false),Qil]
  . by_cases g:∀ t∈h.Aq,0<fv t.Ax/\0<fv t.H/\fv t.H<=fv t.Ax/\0<=fv t.A5
    . rw[oo g,dP_t g]
    . rw[ol g,dP_f g]
  . intro i t hi
    obtain⟨q,A,l,L⟩:=pk t (Jr hi);rw[Qdc (k:=k) hn d om A,sbind,Qdc (k:=k) hn d om l,sbind,Zj (k:=k) hn d om l A,sbind,Qdc (k:=k) hn d om L,sbind];by_cases c1:(fv t.Ax).num.sign<=0
    . rw[oi c1];exact⟨λg=>absurd (Qnx.2 g.1) om,λ_=>rfl⟩
    rw[oj c1];by_cases E:(fv t.H).num.sign<=0
    . rw[oi E];exact⟨λg=>absurd (Qnx.2 g.2.1) om,λ_=>rfl⟩
    rw[oj E];by_cases F:0<(fv t.H - fv t.Ax).num.sign
    . rw[oi F];exact⟨λg=>absurd (sg_le.2 g.2.2.1) om,λ_=>rfl⟩
    rw[oj F];by_cases G:(fv t.A5).num.sign<0
    . rw[oi G];exact⟨λg=>absurd (Q2s.2 g.2.2.2) om,λ_=>rfl⟩
    rw[oj G];exact⟨λ_=>rfl,λg=>absurd ⟨Qnx.1 om,Qnx.1 om,sg_le.1 om,Q2s.1 om⟩ g⟩
 have eC:Qnj n h=some (dP (∀(i:Nat) t,h.Aq[i]?=some t->(t.Ok=true->fv (nextT h i)=fv t.T+fv t.H)/\(t.Ok=false->fv (nextT h i)=fv t.T/\rv (nextY h i)=rv t.Y))):=by
  unfold Qnj Qn4;simp only[jn_eq];rw[Qb8 (λi (t:Q6)=>(t.Ok=true->fv (nextT h i)=fv t.T+fv t.H)/\(t.Ok=false->fv (nextT h i)=fv t.T/\rv (nextY h i)=rv t.Y)) (r:=false)]
  . by_cases g:∀(i:Nat) t,h.Aq[i]?=some t->(t.Ok=true->fv (nextT h i)=fv t.T+fv t.H)/\(t.Ok=false->fv (nextT h i)=fv t.T/\rv (nextY h i)=rv t.Y)
    . rw[oo g,dP_t g]
    . rw[ol g,dP_f g]
  . intro i t hi
    have N:=K1 hi;obtain⟨q,A,l,L⟩:=pk t (Jr hi);have pY:=(j t (Jr hi)).2.1;have w:=Zn (qw_fv q d) (qw_fv l d)
    have core:∀(a:Qc) (y:List Qc),Fk k a->FR k y->∀(K:Bool->Option (Lp Unit Bool)),
     ((bif t.Ok then (Xd n t.T t.H).bind λR=>(Xl n a R).bind λS=>some S else (Xl n a t.T).bind λB=>bif B then (Qji n y t.Y).bind λC=>some C else some false).bind K)=K (dP ((t.Ok=true->fv a=fv t.T+fv t.H)/\(t.Ok=false->fv a=fv t.T/\rv y=rv t.Y))):=λa y J Q K=>by
     cases U:t.Ok with
     | true=>
       rw[bifT,Xt (k:=k) hn d om q l,sbind,Qb7 (k:=k+k+1) hn om om (Vm J om) (Js w),sbind,sbind,Jf,decP];congr 1;exact dP_c ⟨λg=>⟨λ_=>g,(λv=>by cases v)⟩,λg=>g.1 rfl⟩
     | false=>
       rw[bifF,Qb7 (k:=k) hn d om J q,sbind];by_cases c:fv a=fv t.T
       . rw[oi c,bifT,Qtq (k:=k) hn d om Q pY,sbind,sbind,decP]
         congr 1;exact dP_c ⟨λg=>⟨(λv=>by cases v),λ_=>⟨c,g⟩⟩,λg=>(g.2 rfl).2⟩
       . rw[oj c,bifF,sbind,dP_f λg=>c (g.2 rfl).1]
    have fin:∀ P:Prop,((P->(λs:Bool=>bif !s then some (Lp.out false) else some (Lp.go ()):Bool->Option (Lp Unit Bool)) (dP P)=some (.go ()))/\(¬ P->(λs:Bool=>bif !s then some (Lp.out false) else some (Lp.go ()):Bool->Option (Lp Unit Bool)) (dP P)=some (.out false))):=λP=>⟨λg=>by rw[dP_t g];rfl,λg=>by rw[dP_f g];rfl⟩
    rw[w1 om];by_cases c:i+1<h.Aq.length
    . have hp:h.Aq[i+1]?=some h.Aq[i+1]:=oq c
      have f:=xb c;generalize h.Aq[i+1]=u at hp f;have eT:nextT h i=u.T:=by unfold nextT;rw[hp]
      have eY:nextY h i=u.Y:=by unfold nextY;rw[hp]
      rw[oi (show((i+1:Nat):Int)<(h.Aq.length:Int) by omega),bifT,Je hp,sbind,sbind,core u.T u.Y (pk u f).1 (j u f).2.1,eT,eY];exact fin _
    . have hp:h.Aq[i+1]?=none:=xa om
      have eT:nextT h i=h.T:=by unfold nextT;rw[hp]
      have eY:nextY h i=h.Y:=by unfold nextY;rw[hp]
      rw[oj (show ¬((i+1:Nat):Int)<(h.Aq.length:Int) by omega),bifF,core h.T h.Y H I,eT,eY];exact fin _
 rw[eP,sbind,bifnP];by_cases g1:(∀ t∈h.Aq,∀ r∈[[t.T,t.Ax,t.H,t.A5],t.Y],∀ x∈r,canF x)/\∀ r∈[[h.T],h.Y],∀ x∈r,canF x
 case neg=>rw[ol g1,sbind,dP_f λa=>g1 a.c];rfl
 rw[oo g1,eL,sbind,bifnP];by_cases m:(∀ t∈h.Aq,t.Y.length=h.Y.length)/\1<=h.Y.length/\h.Y.length<=6
 case neg=>rw[ol m,sbind,dP_f λa=>m a.l];rfl
 rw[oo m];by_cases g3:(200:Int)<(h.Aq.length:Int)
 . rw[oi g3,bifT,sbind,dP_f λa=>by have:=a.m;omega];rfl
 rw[oj g3,bifF,eS,sbind,bifnP];by_cases g4:∀ t∈h.Aq,0<fv t.Ax/\0<fv t.H/\fv t.H<=fv t.Ax/\0<=fv t.A5
 case neg=>rw[ol g4,sbind,dP_f λa=>g4 a.s];rfl
 rw[oo g4,eC,sbind,bifnP];by_cases p:∀(i:Nat) t,h.Aq[i]?=some t->(t.Ok=true->fv (nextT h i)=fv t.T+fv t.H)/\(t.Ok=false->fv (nextT h i)=fv t.T/\rv (nextY h i)=rv t.Y)
 . rw[oo p,sbind,dP_t ⟨g1,m,om,g4,p⟩];rfl
 . rw[ol p,sbind,dP_f λa=>p a.n];rfl
set_option maxRecDepth 100000
def SmaK(k:Nat)(t:Qt):Prop:=FL 4 k [t.T,t.Ax,t.H,t.A5]/\FL 8 k t.Y
theorem Qvh{n a k:Nat}{h:Qh}(hn:big<=n)(J:a<=1000)(_:k<=1000):∃ v,Za n h (a:Int) (k:Int)=some v/\(v=false->h.Aq.length<=a/\(h.T.N.length<=k/\h.T.D.length<=k)/\FL 8 k h.Y/\∀ t∈h.Aq,SmaK k t):=by
 unfold Za Wv;simp only[jn_eq,bifd];by_cases C:(a:Int)<(h.Aq.length:Int)
 . rw[oo C];exact⟨true,rfl,λh=>by cases h⟩
 have F:=Qfi h.T k;rw[ol C,F,sbind];by_cases s:h.T.N.length<=k/\h.T.D.length<=k
 case neg=>rw[oj s];exact⟨true,rfl,λh=>by cases h⟩
 rw[oi s,ot,bifF];have p:∀ l,∃ v,Q9 n l 4 (k:Int)=some v/\(v=false->FL 4 k l):=λl=>Yb (many:=4) (k:=k) hn oz;have m:∀ l,∃ v,Q9 n l 8 (k:Int)=some v/\(v=false->FL 8 k l):=λl=>Yb (many:=8) (k:=k) hn oz;obtain⟨v,g1,G⟩:=m h.Y;rw[g1,sbind];cases v
 case true=>exact⟨true,rfl,λh=>by cases h⟩
 rw[bifF]
 have H:=Qkg (f:=λ(e:Int)=>
  if e<(h.Aq.length:Int) then (
   (getI h.Aq e).bind λj=>
   (some ([j.T,j.Ax,j.H,j.A5]:List Qa)).bind λx=>
   (Q9 n x 4 (k:Int)).bind λy=>
   bif y then (bif true then some (Lp.out (Lp.out true)) else some (Lp.go (wrap64 (e+(1:Int)))))
   else (
    (getI h.Aq e).bind λB=>
    (Q9 n B.Y 8 (k:Int)).bind λA=>
    bif A then some (Lp.out (Lp.out true)) else some (Lp.go (wrap64 (e+(1:Int))))))
  else (
   some (Lp.out (Lp.go ())))) (n:=n) (K:=λ(_:Unit)=>some false) (r:=true) (λi=>∀ t,h.Aq[i]?=some t->Q9 n [t.T,t.Ax,t.H,t.A5] 4 (k:Int)=some false/\Q9 n t.Y 8 (k:Int)=some false) h.Aq.length (λi hi=>by
  have hp:h.Aq[i]?=some h.Aq[i]:=oq hi;generalize h.Aq[i]=t at hp;obtain⟨v,k1,k2⟩:=p [t.T,t.Ax,t.H,t.A5];obtain⟨w,q,E⟩:=m t.Y;rw[oo om,Je hp,sbind,sbind,k1,sbind,sbind,q,sbind];cases v
  . cases w
    . rw[bifF,bifF,w1 om]
      exact⟨λ_=>rfl,λg=>absurd (λd hd=>by rw[hp] at hd;cases hd;exact⟨k1,q⟩) g⟩
    . exact⟨λg=>(by have:=(g t hp).2;rw[q] at this;cases this),λ_=>rfl⟩
  . exact⟨λg=>(by have:=(g t hp).1;rw[k1] at this;cases this),λ_=>rfl⟩) (by rw[ol om]) (by unfold big at hn;omega)
 rw[H];by_cases u:∀ i,i<h.Aq.length->∀ t,h.Aq[i]?=some t->Q9 n [t.T,t.Ax,t.H,t.A5] 4 (k:Int)=some false/\Q9 n t.Y 8 (k:Int)=some false
 . rw[oo u]
   refine⟨false,rfl,λ_=>⟨om,s,G rfl,λt I=>?_⟩⟩;obtain⟨i,hi⟩:=vf I;obtain⟨v,k1,k2⟩:=p [t.T,t.Ax,t.H,t.A5];obtain⟨w,q,E⟩:=m t.Y;obtain⟨a1,a2⟩:=u i (K1 hi) t hi;rw[k1] at a1;rw[q] at a2;exact⟨k2 (Option.some.inj a1),E (Option.some.inj a2)⟩
 . rw[ol u];exact⟨true,rfl,λh=>by cases h⟩
theorem Jda{k:Nat}{t:Qt}(m:Qgn t)(h:SmaK k t):FT k (tTry t):=by obtain⟨e,f,g,i,j,_⟩:=m;obtain⟨s1,d⟩:=h;have g1:=s1.2 t.T oc;have l:=s1.2 t.Ax oc;have g3:=s1.2 t.H oc;have g4:=s1.2 t.A5 oc;have yl:=d.1;refine⟨λx a=>?_,FR_tF j d,by show(t.Y.map tF).length<=_;rw[ou];omega⟩;rcases xg.1 a with rfl | a;exact Fk_tF e g1;rcases xg.1 a with rfl | a;exact Fk_tF f l;rcases xg.1 a with rfl | a;exact Fk_tF g g3;rw[xx.1 a];exact Fk_tF i g4
theorem Q2t:∀ {l:List Qa},rR (rvr l)=l↔∀ f∈l,canF (tF f)
 | []=>⟨λ_ _ h=>(by cases h),λ_=>rfl⟩
 | x::l=>by
   have g:=Q2t (l:=l);have e:rR (rvr (x::l))=rF (fr x)::rR (rvr l):=rfl;rw[e];constructor;intro h f a;have d:=(List.cons.inj h)
   rcases xg.1 a with rfl | a;exact Qc0.1 d.1;exact g.1 d.2 f a;intro h;rw[Qc0.2 (h x (.head _)),g.2 λf a=>h f (.tail _ a)]
theorem Qoe{n k:Nat}{l:List Qa}(hn:big<=n)(d:1<=k)(hk:k<274877906944)(h:FRr k l)(a:l.length<=1000000):Zx n l=some (!dP (∀ f∈l,canF (tF f))):=by
 unfold Zx
 rw[Qaq hn (show k<1099511627776 by omega) h a,sbind,Qrt hn (by rw[J7,Wr];exact a) (λf g=>by
  obtain⟨q,j,rfl⟩:=xd.1 g;have:=Q3h (Qfy h d q j)
  omega),sbind]
 have e:∀ i:Decidable (rR (rvr l)=l),@decide _ i=dP (∀ f∈l,canF (tF f)):=λi=>by rw[@decP _ i,dP_c Q2t]
 rw[e]
def nxR(h:Qh)(i:Nat):Qt:=match h.Aq[i+1]? with | some u=>u | none=>⟨h.T,⟨false,[],[]⟩,⟨false,[],[]⟩,⟨false,[],[]⟩,h.Y,false⟩
def P1(t:Qt):Prop:=(∀ f∈t.Y,canF (tF f))/\∀ f∈[t.T,t.Ax,t.H,t.A5],canF (tF f)
def S1(t:Qt):Prop:=0<fr t.Ax/\0<fr t.H/\fr t.H<=fr t.Ax/\0<=fr t.A5
def C1(h:Qh)(i:Nat)(t:Qt):Prop:=(t.Ok=true->fr (nxR h i).T=fr t.T+fr t.H)/\(t.Ok=false->fr (nxR h i).T=fr t.T/\rvr (nxR h i).Y=rvr t.Y)
theorem Je4(h:Qh)(i:Nat):nextT (tHis h) i=tF (nxR h i).T:=by
 unfold nextT nxR;have e:(tHis h).Aq[i+1]?=(h.Aq[i+1]?).map tTry:=by unfold tHis;rw[yr]
 rw[e];cases h.Aq[i+1]?<;>rfl
theorem Je5(h:Qh)(i:Nat):nextY (tHis h) i=(nxR h i).Y.map tF:=by
 unfold nextY nxR;have e:(tHis h).Aq[i+1]?=(h.Aq[i+1]?).map tTry:=by unfold tHis;rw[yr]
 rw[e];cases h.Aq[i+1]?<;>rfl
theorem mapCan{l:List Qa}:(∀ x∈l.map tF,canF x)↔∀ f∈l,canF (tF f):=⟨λh f a=>h _ (ua a),λh x d=>by
 obtain⟨f,a,rfl⟩:=xd.1 d
 exact h f a⟩
theorem Q0e{h:Qh}:Qgm (tHis h)↔((∀ f∈h.Y,canF (tF f))/\∀ f∈[h.T],canF (tF f))/\(∀ t∈h.Aq,P1 t/\t.Y.length=h.Y.length)/\(1<=h.Y.length/\h.Y.length<=6)/\h.Aq.length<=200/\(∀(i:Nat) t,h.Aq[i]?=some t->S1 t/\C1 h i t):=by
 have eY:(tHis h).Y=h.Y.map tF:=rfl;have eT:(tHis h).Aq=h.Aq.map tTry:=rfl;have eE:(tHis h).T=tF h.T:=rfl;constructor;rintro⟨⟨c1,g⟩,⟨w,y,A⟩,m,s,B⟩;rw[eT] at c1 w m s B;rw[eY] at g w y A;rw[eE] at g;refine⟨⟨mapCan.1 (g _ oc),λf q=>?_⟩,λt a=>⟨⟨?_,λf q=>?_⟩,?_⟩,⟨by simpa using y,by simpa using A⟩,by simpa using m,λi t hi=>⟨?_,?_⟩⟩;rw[xx.1 q];exact g [tF h.T] oc _ oc;exact mapCan.1 (c1 _ (ua a) (t.Y.map tF) (by show _∈[_,t.Y.map tF];simp));have:=c1 _ (ua a) ([t.T,t.Ax,t.H,t.A5].map tF) (by show _∈[[tF t.T,tF t.Ax,tF t.H,tF t.A5],_];simp);exact mapCan.1 this f q;have:=w _ (ua a);have e:(tTry t).Y=t.Y.map tF:=rfl;rw[e] at this;simpa using this;have:=s (tTry t) (ua (Jr hi));unfold S1;rw[<-fr_tF,<-fr_tF,<-fr_tF];exact this;have:=B i (tTry t) (Qav tTry hi);rw[Je4,Je5,Qaj,fr_tF] at this;have j:fv (tTry t).T=fr t.T:=fr_tF _;have k:fv (tTry t).H=fr t.H:=fr_tF _;have n:rv (tTry t).Y=rvr t.Y:=Qaj _;rw[j,k,n] at this;exact this;rintro⟨⟨c1,g⟩,p,l,m,s⟩
 have u:∀ x∈(tHis h).Aq,∃ t∈h.Aq,x=tTry t:=λx d=>by rw[eT] at d;obtain⟨t,a,rfl⟩:=xd.1 d;exact⟨t,a,rfl⟩
 refine⟨⟨λx d r hr=>?_,λr hr=>?_⟩,⟨λx d=>?_,by rw[eY];simpa using l.1,by rw[eY];simpa using l.2⟩,by rw[eT];simpa using m,λx d=>?_,λi x d=>?_⟩;obtain⟨t,a,rfl⟩:=u x d;obtain⟨⟨C,E⟩,_⟩:=p t a;have:r=[t.T,t.Ax,t.H,t.A5].map tF\/r=t.Y.map tF:=by have e:[[(tTry t).T,(tTry t).Ax,(tTry t).H,(tTry t).A5],(tTry t).Y]=[[t.T,t.Ax,t.H,t.A5].map tF,t.Y.map tF]:=rfl;rw[e] at hr;simpa using hr
 rcases this with rfl | rfl;exact mapCan.2 E;exact mapCan.2 C;have:r=[h.T].map tF\/r=h.Y.map tF:=by have e:[[(tHis h).T],(tHis h).Y]=[[h.T].map tF,h.Y.map tF]:=rfl;rw[e] at hr;simpa using hr
 rcases this with rfl | rfl;exact mapCan.2 g;exact mapCan.2 c1;obtain⟨t,a,rfl⟩:=u x d;have:=(p t a).2;rw[eY];show(t.Y.map tF).length=_
 simpa using this
 obtain⟨t,a,rfl⟩:=u x d;obtain⟨i,hi,rfl⟩:=List.getElem_of_mem a;have:=(s i _ (oq hi)).1;unfold S1 at this;rw[<-fr_tF,<-fr_tF,<-fr_tF] at this;exact this;rw[eT,yr] at d;cases a:h.Aq[i]? with
 | none=>rw[a] at d;cases d
 | some t=>
   rw[a] at d;have v:tTry t=x:=Option.some.inj d;subst v;have:=(s i t a).2;unfold C1 at this;rw[Je4,Je5,Qaj,fr_tF];have j:fv (tTry t).T=fr t.T:=fr_tF _;have k:fv (tTry t).H=fr t.H:=fr_tF _;have n:rv (tTry t).Y=rvr t.Y:=Qaj _;rw[j,k,n];exact this
theorem Qvi{q:Rat}:q.num.sign<=0↔¬ 0<q:=by
 rw[Rat.not_lt,<-Int.not_lt,Int.sign_pos_iff];have h:=Rat.num_nonneg (q:=-q);have e:(-q).num=-q.num:=Qyv q;have a:0<=-q↔q<=0:=by grind
 rw[<-a,<-h,e];omega
theorem Jdb{q:Rat}:q.num.sign<0↔¬ 0<=q:=by rw[Int.sign_neg_iff,<-Int.not_le,Rat.num_nonneg]
theorem Je6{p q:Rat}:0<(p - q).num.sign↔¬ p<=q:=by
 have h:=Qvi (q:=p - q);have e:¬ 0<p - q↔p<=q:=by grind
 rw[<-e,<-h];omega
theorem Q92{β R:Type}{f:β×Int->Option (Lp (β×Int) (Lp β R))}{K:β->Option R}{n:Nat}{Q:R->Prop}(a:Nat->β->Prop)(N:Nat)(w0:β)(h0:a 0 w0)
 (q:∀ i w,i<N->a i w->(∃ w',f (w,(i:Int))=some (.go (w',((i+1:Nat):Int)))/\a (i+1) w')\/(∃ r,f (w,(i:Int))=some (.out (.out r))/\Q r))
 (s:∀ w,a N w->f (w,(N:Int))=some (.out (.go w))) (hn:N<n) (p:∀ w,a N w->∃ v,K w=some v/\Q v):∃ v,(loopM f n (w0,0)).bind (lpK K)=some v/\Q v:=by
 have l:∀(m i d:Nat) (w:β),i+m=N->m<d->a i w->∃ v,(loopM f d (w,(i:Int))).bind (lpK K)=some v/\Q v:=by
  intro m
  induction m with
  | zero=>
    intro i d w hi j g;have e:i=N:=om
    subst e;rw[Vs (s w g) om,xy,Xi];exact p w g
  | succ m t=>
    intro i d w hi j g;obtain⟨n'',rfl⟩:∃ n'',d=n''+1:=⟨d - 1,om⟩
    rcases q i w om g with ⟨w',e,k⟩ | ⟨r,e,hr⟩;rw[Qb5 e];exact t (i+1) n'' w' om om k;rw[Vs e om,xy,Z0];exact⟨r,rfl,hr⟩
 exact l N 0 n w0 om hn h0
theorem Jk8{h:Qh}{i:Nat}{β:Type}(g:Qt->Option β)(a:h.Aq.length<=1000000)(hi:i<h.Aq.length):
 (bif decide (wrap64 ((i:Int)+1)<(h.Aq.length:Int)) then (getI h.Aq (wrap64 ((i:Int)+1))).bind g else g ⟨h.T,⟨false,[],[]⟩,⟨false,[],[]⟩,⟨false,[],[]⟩,h.Y,false⟩)=g (nxR h i):=by
 rw[w1 om];unfold nxR;by_cases c:i+1<h.Aq.length;rw[oi om,bifT,Qcx c,sbind,oq c];rw[oj om,bifF,xa om]
theorem Qpt{n k:Nat}{h:Qh}(hn:big<=n)(E:1<=k)(hk:k<100000000)(hl:h.Aq.length<=1000000)(d:∀ t∈h.Aq,FTr k t)(hT:FRr k [h.T])(hY:FRr k h.Y)(K:h.Y.length<=1000000):
 ∃ v,Z5 n h=some v/\(v=0↔Qgm (tHis h)):=by
 simp only[Q0e];unfold Z5;simp only[jn_eq];have I:∀ {r:Int}{A:Prop},r≠0->¬ A->∃ v,some r=some v/\(v=0↔A):=λhr hA=>⟨_,rfl,λe=>absurd e hr,λa=>absurd a hA⟩
 rw[Qoe hn E om hY K,sbind];by_cases a1:∀ f∈h.Y,canF (tF f)
 case neg=>rw[dP_f a1,ov,bifT,bifT];exact I oz λp=>a1 p.1.1
 rw[dP_t a1,ot,bifF,Qoe hn E om hT oc,sbind];by_cases a2:∀ f∈[h.T],canF (tF f)
 case neg=>rw[dP_f a2,ov,bifT];exact I oz λp=>a2 p.1.2
 rw[dP_t a2,ot,bifF];refine Q92 (λi w=>(w=0\/w=2)/\(∀ t∈h.Aq.take i,P1 t)/\(w=0↔∀ t∈h.Aq.take i,t.Y.length=h.Y.length)) h.Aq.length 0 ⟨.inl rfl,λt d=>by simp at d,λ_ t d=>by simp at d,λ_=>rfl⟩ ?_ ?_ (by unfold big at hn;omega) ?_
 . intro i w hi H
   obtain⟨m,J,B⟩:=H;have s:h.Aq[i]?=some h.Aq[i]:=oq hi;have G:=xb hi;generalize h.Aq[i]=x at s G;obtain⟨N,x2,x3⟩:=d x G;have eN:Wv x=some [x.T,x.Ax,x.H,x.A5]:=rfl;simp only[];rw[oi (show(i:Int)<(h.Aq.length:Int) by omega),bifT,Je s,sbind,Qoe hn E om x2 x3,sbind];by_cases O:∀ f∈x.Y,canF (tF f)
   case neg=>rw[dP_f O,ov,bifT,bifT];exact .inr ⟨1,rfl,λe=>absurd e oz,λp=>absurd (p.2.1 x G).1.1 O⟩
   rw[dP_t O,ot,bifF,sbind,eN,sbind,Qoe hn E om N oc,sbind];by_cases P:∀ f∈[x.T,x.Ax,x.H,x.A5],canF (tF f)
   case neg=>rw[dP_f P,ov,bifT];exact .inr ⟨1,rfl,λe=>absurd e oz,λp=>absurd (p.2.1 x G).1.2 P⟩
   rw[dP_t P,ot,bifF,sbind,w1 om]
   have hP:∀ t∈h.Aq.take (i+1),P1 t:=λt d=>by
    rw[Yy s] at d;rcases ym.1 d with d | d
    . exact J t d
    . rw[xx.1 d];exact⟨O,P⟩
   by_cases b3:x.Y.length=h.Y.length
   . rw[oi (show(x.Y.length:Int)=(h.Y.length:Int) by omega),ot,bifF]
     refine .inl ⟨w,rfl,m,hP,B.trans ⟨λq t d=>?_,λq t d=>q t ?_⟩⟩
     . rw[Yy s] at d
       rcases ym.1 d with d | d
       . exact q t d
       . rw[xx.1 d];exact b3
     . rw[Yy s];exact yp _ d
   . rw[oj (show ¬(x.Y.length:Int)=(h.Y.length:Int) by omega),ov,bifT]
     exact .inl ⟨2,rfl,.inr rfl,hP,λe=>absurd e oz,λq=>absurd (q x (by rw[Yy s];simp)) b3⟩
 . intro w _
   simp only[];rw[oj om,bifF]
 intro w H;obtain⟨m,J,B⟩:=H;rw[xu] at J B;by_cases c1:w=2
 . rw[oi c1,bifT,bifT]
   refine I oz λp=>?_;have:=B.2 λt d=>(p.2.1 t d).2;omega
 have w0:w=0:=om
 have hL:=B.1 w0;rw[oj c1,bifF];by_cases c2:h.Y.length<1
 . rw[oi (show(h.Y.length:Int)<1 by omega),bifT,bifT]
   exact I oz λp=>by have:=p.2.2.1.1;omega
 rw[oj (show ¬(h.Y.length:Int)<1 by omega),bifF];by_cases c3:6<h.Y.length
 . rw[oi (show(6:Int)<(h.Y.length:Int) by omega),bifT]
   exact I oz λp=>by have:=p.2.2.1.2;omega
 rw[oj (show ¬(6:Int)<(h.Y.length:Int) by omega),bifF];by_cases c4:200<h.Aq.length
 . rw[oi (show(200:Int)<(h.Aq.length:Int) by omega),bifT]
   exact I oz λp=>by have:=p.2.2.2.1;omega
 rw[oj (show ¬(200:Int)<(h.Aq.length:Int) by omega),bifF];subst w0;clear m B c1;refine Q92 (λi w=>(∀ j t,j<i->h.Aq[j]?=some t->S1 t)/\(w=0↔∀ j t,j<i->h.Aq[j]?=some t->C1 h j t)) h.Aq.length 0 ⟨λj t F=>absurd F (dz _),λ_ j t F=>absurd F (dz _),λ_=>rfl⟩ ?_ ?_ (by unfold big at hn;omega) ?_
 . intro i w hi H
   obtain⟨m,B⟩:=H;have s:h.Aq[i]?=some h.Aq[i]:=oq hi;have G:=xb hi;generalize h.Aq[i]=x at s G;obtain⟨N,x2,x3⟩:=d x G;obtain⟨p1,V⟩:=J x G;have eT:rF (fr x.T)=x.T:=Qc0.2 (V _ oc);have eW:rF (fr x.Ax)=x.Ax:=Qc0.2 (V _ oc);have eH:rF (fr x.H)=x.H:=Qc0.2 (V _ oc);have eE:rF (fr x.A5)=x.A5:=Qc0.2 (V _ oc);have eY:rR (rvr x.Y)=x.Y:=Q2t.2 p1;have qT:qw (fr x.T)<=k:=qw_fr (N _ oc) E;have qW:qw (fr x.Ax)<=k:=qw_fr (N _ oc) E;have qH:qw (fr x.H)<=k:=qw_fr (N _ oc) E;have sW:Kj x.Ax=some (fr x.Ax).num.sign:=by have:=Qce (fr x.Ax);rwa [eW] at this
   have sH:Kj x.H=some (fr x.H).num.sign:=by have:=Qce (fr x.H);rwa [eH] at this
   have sE:Kj x.A5=some (fr x.A5).num.sign:=by have:=Qce (fr x.A5);rwa [eE] at this
   have sC:J0 n x.H x.Ax=some (fr x.H - fr x.Ax).num.sign:=by have:=Ze (p:=fr x.H) (q:=fr x.Ax) hn om qH qW;rwa [eH,eW] at this
   have sA:Qy n x.T x.H=some (rF (fr x.T+fr x.H)):=by have:=V7 (p:=fr x.T) (q:=fr x.H) hn om qT qH;rwa [eT,eH] at this
   simp only[];rw[oi (show(i:Int)<(h.Aq.length:Int) by omega),bifT,Je s,sbind,sW,sbind];have stop:¬ S1 x->(∃ r:Int,some (Lp.out (Lp.out (4:Int)):Lp (Int×Int) (Lp Int Int))=some (Lp.out (Lp.out r))/\(r=0↔(((∀ f∈h.Y,canF (tF f))/\∀ f∈[h.T],canF (tF f))/\(∀ t∈h.Aq,P1 t/\t.Y.length=h.Y.length)/\(1<=h.Y.length/\h.Y.length<=6)/\h.Aq.length<=200/\(∀(i:Nat) t,h.Aq[i]?=some t->S1 t/\C1 h i t)))):=λW=>⟨4,rfl,λe=>absurd e oz,λp=>absurd (p.2.2.2.2 i x s).1 W⟩
   by_cases Q:(fr x.Ax).num.sign<=0
   . rw[oi Q,bifT,bifT];exact .inr (stop λp=>Qvi.1 Q p.1)
   rw[oj Q,bifF,sH,sbind];by_cases R:(fr x.H).num.sign<=0
   . rw[oi R,bifT,bifT];exact .inr (stop λp=>Qvi.1 R p.2.1)
   rw[oj R,bifF,sC,sbind];by_cases S:0<(fr x.H - fr x.Ax).num.sign
   . rw[oi S,bifT,bifT];exact .inr (stop λp=>Je6.1 S p.2.2.1)
   rw[oj S,bifF,sE,sbind];by_cases T:(fr x.A5).num.sign<0
   . rw[oi T,bifT];exact .inr (stop λp=>Jdb.1 T p.2.2.2)
   rw[oj T,bifF,Jk8 _ hl hi,w1 om];clear stop;have W:S1 x:=⟨Classical.not_not.1 λg=>Q (Qvi.2 g),Classical.not_not.1 λg=>R (Qvi.2 g),Classical.not_not.1 λg=>S (Je6.2 g),Classical.not_not.1 λg=>T (Jdb.2 g)⟩
   have hu:(∀ f∈[(nxR h i).T],canF (tF f))/\(∀ f∈(nxR h i).Y,canF (tF f))/\FRr k [(nxR h i).T]/\FRr k (nxR h i).Y/\(nxR h i).Y.length<=1000000:=by
    unfold nxR;cases X:h.Aq[i+1]? with
    | none=>exact⟨a2,a1,hT,hY,K⟩
    | some u=>
      have M:=Jr X;obtain⟨Z,u2,u3⟩:=d u M;obtain⟨v1,v2⟩:=J u M;exact⟨λf L=>v2 f (by simp at L;simp[L]),v1,λf L=>Z f (by simp at L;simp[L]),u2,u3⟩
   have hstep:∀ w':Int,(w'=0↔w=0/\C1 h i x)->(∀ j t,j<i+1->h.Aq[j]?=some t->S1 t)/\(w'=0↔∀ j t,j<i+1->h.Aq[j]?=some t->C1 h j t):=λw' Y=>by
    refine⟨λj t F l=>?_,Y.trans ⟨λq j t F l=>?_,λq=>⟨B.2 λj t F=>q j t om,q i x om s⟩⟩⟩
    . by_cases e:j=i
      . subst e;rw[s] at l;cases l;exact W
      . exact m j t om l
    . by_cases e:j=i
      . subst e;rw[s] at l;cases l;exact q.2
      . exact B.1 q.1 j t om l
   unfold C1 at hstep;generalize nxR h i=u at hu hstep |-;obtain⟨Z,u2,u3,u4,u5⟩:=hu;have euT:rF (fr u.T)=u.T:=Qc0.2 (Z _ oc);have euY:rR (rvr u.Y)=u.Y:=Q2t.2 u2;have quT:qw (fr u.T)<=k:=qw_fr (u3 _ oc) E;have quY:QR k (rvr u.Y):=Qfy u4 E
   have same:∀ q:Rat,Jt n u.T (rF q)=some (decide (fr u.T=q)):=λq=>by have:=Qej (p:=fr u.T) (q:=q) hn om quT;rwa [euT] at this
   have sameT:Jt n u.T x.T=some (decide (fr u.T=fr x.T)):=by have:=same (fr x.T);rwa [eT] at this
   have sameY:Kz n u.Y x.Y=some (decide (rvr u.Y=rvr x.Y)):=by have:=Qf7 (a:=rvr u.Y) (b:=rvr x.Y) hn (by rw[Wr];exact u5) (show k<274877906944 by omega) quY;rwa [euY,eY] at this
   left;cases y:x.Ok with
   | true=>
     rw[bifT,sA,sbind,same,sbind,ot,bifF,bifF];by_cases C:fr u.T=fr x.T+fr x.H
     . rw[oi C,ot,bifF,bifF]
       exact⟨w,rfl,hstep w ⟨λq=>⟨q,λ_=>C,λg=>by rw[y] at g;cases g⟩,λq=>q.1⟩⟩
     . rw[oj C,ov,bifT]
       exact⟨5,rfl,hstep 5 ⟨λq=>absurd q oz,λq=>absurd (q.2.1 y) C⟩⟩
   | false=>
     rw[bifF,bifF,ov,bifT,sameT,sbind];by_cases C:fr u.T=fr x.T
     . rw[oi C,ot,bifF,sameY,sbind]
       by_cases U:rvr u.Y=rvr x.Y
       . rw[oi U,ot,bifF]
         exact⟨w,rfl,hstep w ⟨λq=>⟨q,λg=>(by rw[y] at g;cases g),λ_=>⟨C,U⟩⟩,λq=>q.1⟩⟩
       . rw[oj U,ov,bifT]
         exact⟨5,rfl,hstep 5 ⟨λq=>absurd q oz,λq=>absurd (q.2.2 y).2 U⟩⟩
     . rw[oj C,ov,bifT,bifT]
       exact⟨5,rfl,hstep 5 ⟨λq=>absurd q oz,λq=>absurd (q.2.2 y).1 C⟩⟩
 . intro w _
   simp only[];rw[oj om,bifF]
 . intro w H
   obtain⟨m,B⟩:=H;refine⟨w,rfl,B.trans ⟨λq=>⟨⟨a1,a2⟩,λt d=>⟨J t d,hL t d⟩,⟨om,om⟩,om,λi t hi=>⟨m i t (K1 hi) hi,q i t (K1 hi) hi⟩⟩,λp j t _ F=>(p.2.2.2.2 j t F).2⟩⟩
end Go.Proofs.YtbdgngdpkdagoabGreatDoor
