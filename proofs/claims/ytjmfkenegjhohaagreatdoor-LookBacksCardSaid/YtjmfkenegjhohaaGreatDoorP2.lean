import Derived.Test.YtjmfkenegjhohaaGreatDoorP1
namespace Go.Proofs.YtjmfkenegjhohaaGreatDoor
open Go Go.RowKit
theorem Qjl{lim:Int}:∀ {l:List Rat}{i j:Nat},fitQ lim l i=some j->j<i+l.length
 | [],i,j,h=>by simp[fitQ] at h
 | q::l,i,j,h=>by simp only[fitQ] at h;split at h;have:=Qjl h;simp;omega;cases h;simp
structure MadeQ where
 ys:List (List Rat)
 ks:List (List Rat)
 next:List Rat
 err:List Rat
def towQ(H:Rat)(m:Nat)(c:List Rat)(kss:List (List Rat)):List Rat:=scaleQ H (mixQ c kss (List.replicate m 0))
def fromQ(H:Rat)(Y c:List Rat)(kss:List (List Rat)):List Rat:=addQ Y (towQ H Y.length c kss)
def stageQ(t:Qp)(lim:Int)(T H:Rat)(Y P:List Rat)(a:List Rat)(c:Rat)(i:Nat)(kss:List (List Rat)):Qe ⊕ (List Rat×List Rat):=
 match fitQ lim (fromQ H Y a kss) 0 with
 | some j=>.inl ⟨6,0,(i:Int),300+(j:Int)⟩
 | none=>match fieldQ t lim (T+H*c) (fromQ H Y a kss) P with
   | .inl e=>.inl ⟨e.1,0,(i:Int),(e.2:Int)⟩
   | .inr k=>.inr (fromQ H Y a kss,k)
def stagesQ(t:Qp)(lim:Int)(T H:Rat)(Y P:List Rat):List (List Rat×Rat)->Nat->List (List Rat)->List (List Rat)->Qe ⊕ (List (List Rat)×List (List Rat))
 | [],_,yss,kss=>.inr (yss,kss)
 | x::r,i,yss,kss=>match stageQ t lim T H Y P x.1 x.2 i kss with
   | .inl f=>.inl f
   | .inr z=>stagesQ t lim T H Y P r (i+1) (yss++[z.1]) (kss++[z.2])
def endQ(s:Q1)(lim:Int)(H:Rat)(Y:List Rat)(yss kss:List (List Rat)):Qe ⊕ MadeQ:=
 match fitQ lim (fromQ H Y (rv s.B) kss) 0 with
 | some j=>.inl ⟨6,0,(s.B.length:Int),300+(j:Int)⟩
 | none=>match fitQ lim (if gapQ s=[] then [] else towQ H Y.length (gapQ s) kss) 0 with
   | some j=>.inl ⟨6,0,(s.B.length:Int)+1,300+(j:Int)⟩
   | none=>.inr ⟨yss,kss,fromQ H Y (rv s.B) kss,if gapQ s=[] then [] else towQ H Y.length (gapQ s) kss⟩
def doQ(t:Qp)(s:Q1)(lim:Int)(T H:Rat)(Y P:List Rat):Qe ⊕ MadeQ:=
 match stagesQ t lim T H Y P (List.zip (s.A.map rv) (rv s.C)) 0 [] [] with
 | .inl f=>.inl f
 | .inr z=>endQ s lim H Y z.1 z.2
def toRR(l:List (List Rat)):List (List Qa):=l.map toR
theorem Qbg(l:List (List Rat)):(toRR l).length=l.length:=by unfold toRR;simp
theorem Jdu(l:List (List Rat)):(toRR l).map rv=l:=by
 unfold toRR;rw[yt]
 conv=>rhs;rw[<-List.map_id l]
 exact wg λq _=>Vj q
theorem Qx0{l:List (List Rat)}{P:List Qa->Prop}(h:∀ a∈l,P (toR a)):∀ a∈toRR l,P a:=λa d=>by obtain⟨q,e,rfl⟩:=xy.1 d;exact h q e
theorem Qpo(m:Nat):QR 1 (List.replicate m 0):=λq a=>by rw[(jw.1 a).2,Y8];exact xm _
theorem Qsf{k m:Nat}{H:Rat}{c:List Rat}{kss:List (List Rat)}(e:qw H<=k)(f:QR k c)(hk:∀ a∈kss,QR 129 a)(i:kss.length<=8)(h0:129<=k):QR (20*k) (towQ H m c kss):=by have d:=Qtb (z:=List.replicate m 0) f hk (Qpo m);have j:kss.length*(k+129+1)<=8*(k+129+1):=xc _ i;exact Q8 (Ql0 e d) om
theorem Qqc{k:Nat}{H:Rat}{Y c:List Rat}{kss:List (List Rat)}(e:QR k Y)(d:qw H<=k)(f:QR k c)(hk:∀ a∈kss,QR 129 a)(i:kss.length<=8)(h0:129<=k):QR (22*k) (fromQ H Y c kss):=
 Q8 (Ql1 e (Qsf d f hk i h0)) om
theorem Qqd{m:Nat}{H:Rat}{c:List Rat}{kss:List (List Rat)}(hk:∀ a∈kss,a.length=m):(towQ H m c kss).length=m:=by unfold towQ;rw[Z1];exact Qgv hk oc
theorem Qik{H:Rat}{Y c:List Rat}{kss:List (List Rat)}(hk:∀ a∈kss,a.length=Y.length):(fromQ H Y c kss).length=Y.length:=by unfold fromQ;rw[Zu,Qqd hk,dt]
section
variable {n k:Nat}{p:Qg}{t h:Qa}{y:List Qa}{g:Qj}{ys ks:List (List Qa)}{nx er:List Qa}
theorem Q19{c:List Qa}{kss:List (List Rat)}(hn:big<=n)(h0:129<=k)(hk:k<16384)(q:Fk k h)(m:FR k c)(e:∀ a∈kss,QR 129 a)(r:kss.length<=8)(i:c.length=kss.length)(d:∀ a∈kss,a.length=y.length)(v:y.length<=6):
 Xp n p t h y g ys (toRR kss) nx er c=some (toR (towQ (fv h) y.length (rv c) kss)):=by
 unfold Xp;rw[Qtc,Q0c (j:=k) (k:=129) hn om om om om m (Qx0 λa f=>K2 (e a f)) om (by rw[Qbg];omega),sbind,oq ⟨by rw[Qbg,i],Qx0 λa f=>by rw[Jl];exact d a f⟩];rw[Jdu];have s:=Qtb (z:=List.replicate y.length 0) (QR_rv m om) e (Qpo y.length);have u:kss.length*(k+129+1)<=8*(k+129+1):=xc _ r;have l:=Qgv (cs:=rv c) d (show(List.replicate y.length (0:Rat)).length=y.length by simp);rw[Qab (k:=20*k) hn om om (Wf q om) (K2 (Q8 s om)) (by rw[Jl,l];omega),sbind,Vj];rfl
theorem Q76{c:List Qa}{kss:List (List Rat)}(hn:big<=n)(h0:129<=k)(hk:k<16384)(q:Fk k h)(j:FR k y)(l:FR k c)(e:∀ a∈kss,QR 129 a)(r:kss.length<=8)(f:c.length=kss.length)(d:∀ a∈kss,a.length=y.length)(s:y.length<=6):
 Qaq n p t h y g ys (toRR kss) nx er c=some (toR (fromQ (fv h) (rv y) (rv c) kss)):=by
 unfold Qaq;have hb:=Qsf (m:=y.length) (qw_fv q om) (QR_rv l om) e r h0;have i:=Qqd (H:=fv h) (c:=rv c) d;rw[Q19 hn h0 hk q l e r f d s,sbind,Qb2 (k:=20*k) hn om om (K4 j om) (K2 hb) om,sbind,Jl,i,oq rfl,Vj];unfold fromQ;rw[Jn]
theorem Q0f{l:List Rat}{x2:Int}(hn:big<=n)(i:QR 1099511627775 l)(m:l.length<=1000):
 ∃ a,a.limit=g.limit/\Yc n p t h y g ys ks nx er (toR l) x2=some (match fitQ g.limit l 0 with | none=>(⟨0,0,0,0⟩,a) | some j=>(⟨6,0,x2,300+(j:Int)⟩,a)):=by
 obtain⟨a,d,e⟩:=Qtd (g:=g) hn i;refine⟨a,d,?_⟩;unfold Yc;rw[e,sbind];cases f:fitQ g.limit l 0 with
 | none=>rfl
 | some j=>
   have:=Qjl f;simp only[ow,bifT];rw[w64 om om]
structure PrbOK(n k:Nat)(p:Qg)(t h:Qa)(y:List Qa):Prop where
 tp:Q0d n k p.Tape
 sw:SchW k p.Aq
 sr:schR p.Aq
 pk:FR k p.P
 pl:(p.P.length:Int)=p.Tape.A1
 tk:Fk k t
 hk:Fk k h
 yk:FR k y
 yl:(y.length:Int)=p.Tape.Ax
def limQ(bits:Int):Int:=min (max bits 0) 4096
theorem Qvs{i:Nat}{c:Qa}(hn:big<=n)(h0:129<=k)(hk:k<16384)(j:Fk k t)(e:Fk k h)(a:Fk k c)(d:p.Aq.C[i]?=some c):Qfm n p t h (i:Int)=some (toF (fv t+fv h*fv c)):=by have hi:=J8 d;have f:=Xl (qw_fv e om) (qw_fv a om);unfold Qfm;simp only[jn_eq];rw[oj (show ¬(i:Int)<0 by omega),bifF,oj (show ¬(p.Aq.C.length:Int)<=(i:Int) by omega),bifF,Jd d,sbind,Xo hn om om e a,sbind,Vy (k:=4*k) hn om om (Wf j om) (Jq om),sbind,Jc]
theorem Jfe{i:Nat}{a:List Qa}{c:Qa}{kss:List (List Rat)}(hn:big<=n)(h0:129<=k)(hk:k<16384)(ok:PrbOK n k p t h y)(O:g.limit=limQ p.Av)
 (C:p.Aq.A[i]?=some a) (G:p.Aq.C[i]?=some c) (S:ys.length<=8) (u:∀ a∈kss,QR 129 a) (Q:kss.length=i) (s:∀ a∈kss,a.length=y.length) :
 ∃ B,B.limit=g.limit/\∃ r,Z4 n p t h y g ys (toRR kss) nx er (i:Int)=some r /\
   match stageQ p.Tape (limQ p.Av) (fv t) (fv h) (rv y) (rv p.P) (rv a) (fv c) i kss with
   | .inl f=>r.1=f/\f.Au≠0
   | .inr z=>r=(⟨0,0,0,0⟩,p,t,h,y,nx,er,B,ys++[toR z.1],toRR (kss++[z.2]))/\QR 129 z.2/\z.2.length=y.length:=by
 obtain⟨⟨U,V⟩,⟨W,X⟩,Z,d6⟩:=ok.tp.r.1;obtain⟨⟨g1,g2⟩,g3,g4,g5,L⟩:=ok.sr.2.1;have hi:=J8 C;have E:=ok.yl;have d:=ok.sw.a a (Jw C);have m:=ok.sw.c c (Jw G);have N:=L i a C;have hb:=Qqc (QR_rv ok.yk om) (qw_fv ok.hk om) (QR_rv d om) u om h0;have q:=Qik (H:=fv h) (Y:=rv y) (c:=rv a) (kss:=kss) (by rw[Jn];exact s);rw[Jn] at q;unfold Z4;rw[Jd C,sbind,Q76 hn h0 hk ok.hk ok.yk d u om om s om,sbind];obtain⟨B,J,K⟩:=Q0f (p:=p) (t:=t) (h:=h) (y:=y) (g:=g) (ys:=ys) (ks:=toRR kss) (nx:=nx) (er:=er) (x2:=(i:Int)) hn (Q8 hb (show 22*k<=1099511627775 by omega)) om;refine⟨B,J,?_⟩;rw[K,sbind,O];unfold stageQ;cases hf:fitQ (limQ p.Av) (fromQ (fv h) (rv y) (rv a) kss) 0 with
 | some j=>
   simp only[];rw[K9 oz,ow,bifT];exact⟨_,rfl,rfl,oz⟩
 | none=>
   simp only[];rw[Kz,ov,bifF];unfold Qt6;have A:=Xl (qw_fv ok.hk om) (qw_fv m om);have F:=Yz (qw_fv ok.tk om) A;rw[Qvs hn h0 hk ok.tk ok.hk m G,sbind,sbind];have M:=Q6u (k:=22*k) (t:=p.Tape) (p:=⟨toF (fv t+fv h*fv c),toR (fromQ (fv h) (rv y) (rv a) kss),p.P⟩) (bits:=p.Av) hn om om ⟨ok.tp.r,ok.tp.h,λx R=>Wf (ok.tp.w x R) om⟩ (Jq om) (K2 hb) (K4 ok.pk om) (by simp only[Jl,q];exact E) ok.pl;rw[M,sbind];simp only[];rw[Jc,Vj];have v:limQ p.Av=min (max p.Av 0) 4096:=rfl;rw[v];cases I:fieldQ p.Tape (min (max p.Av 0) 4096) (fv t+fv h*fv c) (fromQ (fv h) (rv y) (rv a) kss) (rv p.P) with
   | inl e=>
     have P:=Qvr I;simp only[];rw[K9 om,ow,bifT];exact⟨_,rfl,rfl,by show e.1≠0;omega⟩
   | inr l=>
     obtain⟨q1,T⟩:=Q0e om I;simp only[];rw[Kz,ov,bifF,J9 oh oh,sbind,J9 (by rw[Qbg];simp;omega) (by rw[Qbg];simp;omega),sbind];refine⟨_,rfl,?_,T,om⟩;unfold toRR;rw[yx];rfl
end
section
variable {n k:Nat}{p:Qg}{t h:Qa}{y:List Qa}
def pairQ(s:Q1):List (List Rat×Rat):=List.zip (s.A.map rv) (rv s.C)
theorem Q77{s:Q1}{i:Nat}{a:List Qa}{c:Qa}(e:s.A[i]?=some a)(f:s.C[i]?=some c):(pairQ s).drop i=(rv a,fv c)::(pairQ s).drop (i+1):=by
 have d:(pairQ s)[i]?=some (rv a,fv c):=by unfold pairQ rv;rw[gy];simp only[xr];exact⟨by rw[e];rfl,by rw[f];rfl⟩
 have hi:=J8 d;rw[xe hi];congr 1;rw[oi hi] at d;exact Option.some.inj d
theorem Jiw{g:Qj}(hn:big<=n)(h0:129<=k)(hk:k<8000)(ok:PrbOK n k p t h y)(P:g.limit=limQ p.Av):
 ∃ r,Qeo n p t h y g [] [] [] []=some r /\
   match doQ p.Tape p.Aq (limQ p.Av) (fv t) (fv h) (rv y) (rv p.P) with
   | .inl f=>r.1=f/\f.Au≠0
   | .inr z=>∃ A,r=(⟨0,0,0,0⟩,p,t,h,y,toR z.next,toR z.err,A,toRR z.ys,toRR z.ks)/\z.ys.length=p.Aq.B.length/\z.ks.length=p.Aq.B.length:=by
 obtain⟨⟨d1,d2⟩,⟨d3,d4⟩,d5,d6⟩:=ok.tp.r.1;obtain⟨⟨g1,g2⟩,g3,g4,L,g6⟩:=ok.sr.2.1;have hyl:=ok.yl;unfold Qeo
 have key:∀(F:List Qa) (i:Nat) (g:Qj) (yss kss:List (List Rat)) (K:(Qg×Qa×Qa×(List Qa)×Qj×(List (List Qa))×(List (List Qa))×(List Qa)×(List Qa))->Option (Qe×Qg×Qa×Qa×(List Qa)×(List Qa)×(List Qa)×Qj×(List (List Qa))×(List (List Qa)))),
  i+F.length=p.Aq.B.length->yss.length=i->kss.length=i->(∀ a∈kss,QR 129 a)->(∀ a∈kss,a.length=y.length)->g.limit=limQ p.Av ->
  match stagesQ p.Tape (limQ p.Av) (fv t) (fv h) (rv y) (rv p.P) ((pairQ p.Aq).drop i) i yss kss with
  | .inl f=>∃ r,(rangeL (λ(B:Nat) (_:Qa) (l:Qg×Qa×Qa×(List Qa)×Qj×(List (List Qa))×(List (List Qa))×(List Qa)×(List Qa))=>
  (Z4 n l.1 l.2.1 l.2.2.1 l.2.2.2.1 l.2.2.2.2.1 l.2.2.2.2.2.1 l.2.2.2.2.2.2.1 l.2.2.2.2.2.2.2.1 l.2.2.2.2.2.2.2.2 (B:Int)).bind λe=>
  bif !(Qx e.1 (⟨0,0,0,0⟩:Qe)) then (
   some (Lp.out ((e.1,e.2.1,e.2.2.1,e.2.2.2.1,e.2.2.2.2.1,e.2.2.2.2.2.1,e.2.2.2.2.2.2.1,e.2.2.2.2.2.2.2.1,e.2.2.2.2.2.2.2.2.1,e.2.2.2.2.2.2.2.2.2))))
  else (
   some (Lp.go (e.2.1,e.2.2.1,e.2.2.2.1,e.2.2.2.2.1,e.2.2.2.2.2.2.2.1,e.2.2.2.2.2.2.2.2.1,e.2.2.2.2.2.2.2.2.2,e.2.2.2.2.2.1,e.2.2.2.2.2.2.1)))) F i (p,t,h,y,g,toRR yss,toRR kss,[],[])).bind (lpK K)=some r/\r.1=f/\f.Au≠0
   | .inr z=>∃ A,A.limit=limQ p.Av/\(rangeL (λ(B:Nat) (_:Qa) (l:Qg×Qa×Qa×(List Qa)×Qj×(List (List Qa))×(List (List Qa))×(List Qa)×(List Qa))=>
  (Z4 n l.1 l.2.1 l.2.2.1 l.2.2.2.1 l.2.2.2.2.1 l.2.2.2.2.2.1 l.2.2.2.2.2.2.1 l.2.2.2.2.2.2.2.1 l.2.2.2.2.2.2.2.2 (B:Int)).bind λe=>
  bif !(Qx e.1 (⟨0,0,0,0⟩:Qe)) then (
   some (Lp.out ((e.1,e.2.1,e.2.2.1,e.2.2.2.1,e.2.2.2.2.1,e.2.2.2.2.2.1,e.2.2.2.2.2.2.1,e.2.2.2.2.2.2.2.1,e.2.2.2.2.2.2.2.2.1,e.2.2.2.2.2.2.2.2.2))))
  else (
   some (Lp.go (e.2.1,e.2.2.1,e.2.2.2.1,e.2.2.2.2.1,e.2.2.2.2.2.2.2.1,e.2.2.2.2.2.2.2.2.1,e.2.2.2.2.2.2.2.2.2,e.2.2.2.2.2.1,e.2.2.2.2.2.2.1)))) F i (p,t,h,y,g,toRR yss,toRR kss,[],[])).bind (lpK K)=K (p,t,h,y,A,toRR z.1,toRR z.2,[],[])/\z.1.length=p.Aq.B.length/\z.2.length=p.Aq.B.length/\(∀ a∈z.2,QR 129 a)/\∀ a∈z.2,a.length=y.length:=by
  intro F
  induction F with
  | nil=>
    intro i g yss kss K hi hy1 R hq Z P;have u:(pairQ p.Aq).drop i=[]:=by apply td;unfold pairQ;simp only[ye,xp] at hi;rw[gz,Jn,ot];omega
    rw[u];simp only[stagesQ];simp only[ye,xp] at hi;exact⟨g,P,rfl,om,om,hq,Z⟩
  | cons b F ih=>
    intro i g yss kss K hi hy1 R hq Z P;rw[xn] at hi;have m:p.Aq.A[i]?=some (p.Aq.A[i]' om):=oi om;have hc:p.Aq.C[i]?=some (p.Aq.C[i]' om):=oi om;rw[Q77 m hc];generalize p.Aq.A[i]' om=a at m;generalize p.Aq.C[i]' om=c at hc;simp only[stagesQ,rangeL];obtain⟨A,e1,r,e2,J⟩:=Jfe (g:=g) (ys:=toRR yss) (nx:=[]) (er:=[]) hn h0 om ok P m hc (by rw[Qbg];omega) hq R Z;rw[e2,sbind];cases hs:stageQ p.Tape (limQ p.Av) (fv t) (fv h) (rv y) (rv p.P) (rv a) (fv c) i kss with
    | inl f=>
      rw[hs] at J;obtain⟨G,X⟩:=J;obtain⟨⟨f1,f2,f3,f4⟩,r⟩:=r;simp only[] at G;subst G;simp only[];rw[K9 X,ow,bifT,sbind];exact⟨_,rfl,rfl,X⟩
    | inr z=>
      rw[hs] at J;obtain⟨G,X,e6⟩:=J;subst G;simp only[];rw[Kz,ov,bifF,sbind]
      have:=ih (i+1) A (yss++[z.1]) (kss++[z.2]) K om oh oh (λa m=>by
       rcases yr.1 m with m | m
       . exact hq a m
       . rw[xj.1 m];exact X) (λa m=>by
       rcases yr.1 m with m | m
       . exact Z a m
       . rw[xj.1 m];exact e6) om
      have e7:toRR yss++[toR z.1]=toRR (yss++[z.1]):=by unfold toRR;rw[yx];rfl
      rw[e7];exact this
 generalize hK:(λ(d:Qg×Qa×Qa×(List Qa)×Qj×(List (List Qa))×(List (List Qa))×(List Qa)×(List Qa))=>
  (Qaq n d.1 d.2.1 d.2.2.1 d.2.2.2.1 d.2.2.2.2.1 d.2.2.2.2.2.1 d.2.2.2.2.2.2.1 d.2.2.2.2.2.2.2.1 d.2.2.2.2.2.2.2.2 p.Aq.B).bind λq=>
 (Yc n d.1 d.2.1 d.2.2.1 d.2.2.2.1 d.2.2.2.2.1 d.2.2.2.2.2.1 d.2.2.2.2.2.2.1 q d.2.2.2.2.2.2.2.2 q (p.Aq.B.length:Int)).bind λx=>
 bif !(Qx x.1 (⟨0,0,0,0⟩:Qe)) then (
  some (x.1,d.1,d.2.1,d.2.2.1,d.2.2.2.1,q,d.2.2.2.2.2.2.2.2,x.2,d.2.2.2.2.2.1,d.2.2.2.2.2.2.1))
 else (
  jn (λ(S:((List Qa))->Option _)=>
   (Qfa n p.Aq).bind λV=>
   bif decide ((0:Int)<(V.length:Int)) then (
    (Xp n d.1 d.2.1 d.2.2.1 d.2.2.2.1 x.2 d.2.2.2.2.2.1 d.2.2.2.2.2.2.1 q d.2.2.2.2.2.2.2.2 V).bind λC=>
    S C)
   else (
    S d.2.2.2.2.2.2.2.2)) (λ(E:(List Qa))=>
   (Yc n d.1 d.2.1 d.2.2.1 d.2.2.2.1 x.2 d.2.2.2.2.2.1 d.2.2.2.2.2.2.1 q E E (wrap64 ((p.Aq.B.length:Int)+(1:Int)))).bind λW=>
   some (W.1,d.1,d.2.1,d.2.2.1,d.2.2.2.1,q,E,W.2,d.2.2.2.2.2.1,d.2.2.2.2.2.2.1))))=K
 have I:=key p.Aq.B 0 g [] [] K om rfl rfl (λ_ h=>by cases h) (λ_ h=>by cases h) P;unfold doQ;rw[dy] at I;unfold pairQ at I;cases hs:stagesQ p.Tape (limQ p.Av) (fv t) (fv h) (rv y) (rv p.P) (List.zip (p.Aq.A.map rv) (rv p.Aq.C)) 0 [] [] with
 | inl f=>
   rw[hs] at I;exact I
 | inr z=>
   rw[hs] at I;obtain⟨A,q1,q2,q3,q4,T,U⟩:=I;obtain⟨yss,kss⟩:=z;simp only[] at q2 q3 q4 T U |-;have e0:toRR []=[]:=rfl;rw[e0] at q2;rw[q2,<-hK];simp only[];have hbB:=Qqc (QR_rv ok.yk om) (qw_fv ok.hk om) (QR_rv ok.sw.b om) T om h0;have hlB:=Qik (H:=fv h) (Y:=rv y) (c:=rv p.Aq.B) (kss:=kss) (by rw[Jn];exact U);rw[Jn] at hlB;have Q:=Jbf (k:=k) (s:=p.Aq) om ok.sw;rw[Q76 hn h0 om ok.hk ok.yk ok.sw.b T om om U om,sbind];obtain⟨v,e1,e2⟩:=Q0f (p:=p) (t:=t) (h:=h) (y:=y) (g:=A) (ys:=toRR yss) (ks:=toRR kss) (nx:=toR (fromQ (fv h) (rv y) (rv p.Aq.B) kss)) (er:=[]) (x2:=(p.Aq.B.length:Int)) hn (Q8 hbB (show 22*k<=1099511627775 by omega)) om;rw[e2,sbind,q1];unfold endQ;cases hf:fitQ (limQ p.Av) (fromQ (fv h) (rv y) (rv p.Aq.B) kss) 0 with
   | some j=>
     simp only[];rw[K9 oz,ow,bifT];exact⟨_,rfl,rfl,oz⟩
   | none=>
     simp only[];rw[Kz,ov,bifF,jn_eq,Qum hn om om ok.sw ok.sr,sbind,Jl];have hE:((Xp n p t h y v (toRR yss) (toRR kss) (toR (fromQ (fv h) (rv y) (rv p.Aq.B) kss)) [] (toR (gapQ p.Aq)))=some (toR (towQ (fv h) y.length (gapQ p.Aq) kss))\/gapQ p.Aq=[])/\QR (41*k+1000) (if gapQ p.Aq=[] then [] else towQ (fv h) y.length (gapQ p.Aq) kss)/\(if gapQ p.Aq=[] then [] else towQ (fv h) y.length (gapQ p.Aq) kss).length<=1000:=by
      by_cases u:gapQ p.Aq=[]
      . rw[oq u];exact⟨.inr u,λ_ h=>(by cases h),oc⟩
      . have O:p.Aq.E.length=p.Aq.B.length:=by
         rcases L with L | L
         . exact L
         . exact absurd (by unfold gapQ;rw[oq (xd L)]) u
        have hgl:(gapQ p.Aq).length=p.Aq.B.length:=by unfold gapQ;rw[ol (λh=>by rw[h] at O;simp at O;omega),Zu,Z1,Jn,Jn];omega
        rw[ol u];have ht:=Q19 (k:=2*k+2) (p:=p) (t:=t) (h:=h) (y:=y) (g:=v) (ys:=toRR yss) (nx:=toR (fromQ (fv h) (rv y) (rv p.Aq.B) kss)) (er:=[]) (c:=toR (gapQ p.Aq)) (kss:=kss) hn om om (Wf ok.hk om) (K2 Q) T om (by rw[Jl];omega) U om;rw[Vj] at ht;refine⟨.inl ht,Q8 (Qsf (k:=2*k+2) (xo (qw_fv ok.hk om) om) Q T om om) om,?_⟩;rw[Qqd U];omega
     obtain⟨hE1,M,N⟩:=hE;have hj:∀ {β:Type}(f:List Qa->Option β),(bif decide ((0:Int)<((gapQ p.Aq).length:Int)) then (Xp n p t h y v (toRR yss) (toRR kss) (toR (fromQ (fv h) (rv y) (rv p.Aq.B) kss)) [] (toR (gapQ p.Aq))).bind λC=>f C else f [])=f (toR (if gapQ p.Aq=[] then [] else towQ (fv h) y.length (gapQ p.Aq) kss)):=by
      intro β f;by_cases u:gapQ p.Aq=[]
      . rw[oq u,u];rfl
      . have:(gapQ p.Aq).length≠0:=λh=>u (xd h)
        rw[ol u,oo om,bifT,hE1.resolve_right u,sbind]
     rw[hj,w1 om,Jn];generalize (if gapQ p.Aq=[] then [] else towQ (fv h) y.length (gapQ p.Aq) kss)=er at M N |-;obtain⟨g3',J,G⟩:=Q0f (p:=p) (t:=t) (h:=h) (y:=y) (g:=v) (ys:=toRR yss) (ks:=toRR kss) (nx:=toR (fromQ (fv h) (rv y) (rv p.Aq.B) kss)) (er:=toR er) (x2:=((p.Aq.B.length+1:Nat):Int)) hn (Q8 M (show 41*k+1000<=1099511627775 by omega)) N;rw[G,sbind,show v.limit=limQ p.Av by omega];cases hf2:fitQ (limQ p.Av) er 0 with
     | some j=>exact⟨_,rfl,rfl,by show(6:Int)≠0;decide⟩
     | none=>exact⟨_,rfl,g3',rfl,q3,q4⟩
theorem Q4y(hn:big<=n)(d:1<=k)(hk:k<1048576)(e:TW p.Tape)(hd:-9223372036854775808<=p.Tape.Ax/\p.Tape.Ax<=9223372036854775807)(hs:SchW k p.Aq):
 Qbt n p=some (dP (tapeR p.Tape/\schR p.Aq/\(p.P.length:Int)=p.Tape.A1)):=by
 unfold Qbt;simp only[jn_eq];rw[Quj hn e hd,sbind,bifP];by_cases c1:tapeR p.Tape;rw[oq c1,Qrs hn d hk hs,sbind,bifP];by_cases a:schR p.Aq;rw[oq a];exact Qed ⟨λh=>⟨c1,a,h⟩,λh=>h.2.2⟩;rw[ol a,dP_f λh=>a h.2.1];rw[ol c1,dP_f λh=>c1 h.1]
end
def tI(x:Ju):Q2:=⟨x.Op,x.A,x.B,⟨⟨x.N.Neg,x.N.N⟩,x.N.D⟩⟩
theorem Qk1(f:Qb)(k:Nat):Zo f (k:Int)=some (!decide (f.N.length<=k/\f.D.length<=k)):=by unfold Zo;simp only[jn_eq,bifd];by_cases h:(k:Int)<(f.N.length:Int);rw[oq h,oj om];rfl;rw[ol h];by_cases g:(k:Int)<(f.D.length:Int);rw[oo g,oj om];rfl;rw[oj g,oo om];rfl
theorem Q4z{n:Nat}{t:Jf}{many k:Nat}(hn:big<=n)(j:many<=1000000):∃ v,Qcz n t (many:Int) (k:Int)=some v/\(v=false->t.Code.length<=many/\t.Aw.length<=many/\∀ c∈t.Code,c.N.N.length<=k/\c.N.D.length<=k):=by unfold Qcz;rw[Qj7 (λi=>∀ c,t.Code[i]?=some c->c.N.N.length<=k/\c.N.D.length<=k) (min t.Code.length many) (r:=true)];by_cases h:∀ i,i<min t.Code.length many->∀ c,t.Code[i]?=some c->c.N.N.length<=k/\c.N.D.length<=k;rw[oq h];simp only[jn_eq,bifd];by_cases a:(many:Int)<(t.Code.length:Int);rw[oq a];exact⟨true,rfl,λh=>by cases h⟩;rw[ol a];refine⟨_,rfl,λf=>⟨om,by have:=jz f;omega,λc e=>?_⟩⟩;obtain⟨i,hi⟩:=vc e;exact h i (by have:=J8 hi;omega) c hi;rw[ol h];exact⟨true,rfl,λh=>by cases h⟩;intro i hi;have hp:t.Code[i]?=some t.Code[i]:=oi om;generalize t.Code[i]=c at hp;simp only[jn_eq,bifd];rw[oq om,oq om,Jd hp,sbind,Qk1,sbind];by_cases h:c.N.N.length<=k/\c.N.D.length<=k;rw[oo h,ov,bifF,w1 om];exact⟨λ_=>rfl,λg=>absurd (λd hd=>by rw[hp] at hd;cases hd;exact h) g⟩;rw[oj h,ow,bifT];exact⟨λg=>absurd (g c hp) h,λ_=>rfl⟩;simp only[jn_eq,bifd];by_cases h:min t.Code.length many<t.Code.length;rw[oq om,ol om];rw[ol om,bifF];unfold big at hn;omega
theorem Q9c{n:Nat}{t:Jf}(hn:big<=n)(a:t.Code.length<=1000000)(d:t.Aw.length<=1000000):Qd5 n t=some ⟨t.Code.map tI,t.Aw,t.Ax,t.A1⟩:=by unfold Qd5;rw[J9 oh oh,sbind];rw[V3 (λi=>((t.Code.take i).map tI,(i:Int))) t.Code.length (t.Code.map tI)];rfl;intro i hi;have hp:t.Code[i]?=some t.Code[i]:=oi hi;generalize t.Code[i]=p at hp;simp only[bifd,Wo,sbind];rw[oq om,Jd hp,sbind,J9 oh oh,sbind,w1 om,Xe tI hp];rfl;simp only[bifd];rw[ol om,xh];unfold big at hn;omega;rfl
def tF(x:Qb):Qa:=⟨⟨x.Neg,x.N⟩,x.D⟩
theorem Yt{n:Nat}{l:List Qb}(hn:big<=n)(a:l.length<=1000000):Kg n l=some (l.map tF):=by unfold Kg;rw[V3 (λi=>((l.take i).map tF,(i:Int))) l.length (l.map tF)];intro i hi;have hp:l[i]?=some l[i]:=oi hi;generalize l[i]=p at hp;simp only[bifd,Wo,sbind];rw[oq om,Jd hp,sbind,J9 oh oh,sbind,w1 om,Xe tF hp];rfl;simp only[bifd];rw[ol om,xh];unfold big at hn;omega;rfl
theorem Q9d{n:Nat}{l:List (List Qb)}(hn:big<=n)(d:l.length<=1000000)(a:∀ r∈l,r.length<=1000000):Qd4 n l=some (l.map (·.map tF)):=by unfold Qd4;rw[V3 (λi=>((l.take i).map (·.map tF),(i:Int))) l.length (l.map (·.map tF))];intro i hi;have hp:l[i]?=some l[i]:=oi hi;generalize l[i]=p at hp;simp only[bifd];rw[oq om,Jd hp,sbind,Yt hn (a p (Jw hp)),sbind,J9 oh oh,sbind,w1 om,Xe (·.map tF) hp];simp only[bifd];rw[ol om,xh];unfold big at hn;omega;rfl
def FL(many k:Nat)(l:List Qb):Prop:=l.length<=many/\∀ x∈l,x.N.length<=k/\x.D.length<=k
theorem Yu{n:Nat}{l:List Qb}{many k:Nat}(hn:big<=n)(f:many<=1000000):∃ v,Q6 n l (many:Int) (k:Int)=some v/\(v=false->FL many k l):=by unfold Q6;rw[Qj7 (λi=>∀ c,l[i]?=some c->c.N.length<=k/\c.D.length<=k) (min l.length many) (r:=true)];by_cases h:∀ i,i<min l.length many->∀ c,l[i]?=some c->c.N.length<=k/\c.D.length<=k;rw[oq h];refine⟨_,rfl,λa=>⟨by have:=jz a;omega,λc e=>?_⟩⟩;have:=jz a;obtain⟨i,hi⟩:=vc e;exact h i (by have:=J8 hi;omega) c hi;rw[ol h];exact⟨true,rfl,λh=>by cases h⟩;intro i hi;have hp:l[i]?=some l[i]:=oi om;generalize l[i]=c at hp;simp only[jn_eq,bifd];rw[oq om,oq om,Jd hp,sbind,Qk1,sbind];by_cases h:c.N.length<=k/\c.D.length<=k;rw[oo h,ov,bifF,w1 om];exact⟨λ_=>rfl,λg=>absurd (λd hd=>by rw[hp] at hd;cases hd;exact h) g⟩;rw[oj h,ow,bifT];exact⟨λg=>absurd (g c hp) h,λ_=>rfl⟩;simp only[jn_eq,bifd];by_cases h:min l.length many<l.length;rw[oq om,ol om];rw[ol om,bifF];unfold big at hn;omega
theorem Q40{n:Nat}{s:Jz}{many k:Nat}(hn:big<=n)(j:many<=1000000):∃ v,Qc0 n s (many:Int) (k:Int)=some v /\
 (v=false->s.A6.length<=50/\s.A.length<=many/\FL many k s.B/\FL many k s.C/\FL many k s.E/\∀ r∈s.A,FL many k r):=by
 unfold Qc0;simp only[jn_eq,bifd];by_cases x:(50:Int)<(s.A6.length:Int)
 . rw[oq x];exact⟨true,rfl,λh=>by cases h⟩
 rw[ol x];by_cases A:(many:Int)<(s.A.length:Int)
 . rw[oq A];exact⟨true,rfl,λh=>by cases h⟩
 rw[ol A];obtain⟨b,B,C⟩:=Yu (l:=s.B) (k:=k) hn j;rw[B,sbind];cases b
 case true=>exact⟨true,rfl,λh=>by cases h⟩
 rw[bifF];obtain⟨c,E,F⟩:=Yu (l:=s.C) (k:=k) hn j;rw[E,sbind];cases c
 case true=>exact⟨true,rfl,λh=>by cases h⟩
 rw[bifF];obtain⟨e,G,H⟩:=Yu (l:=s.E) (k:=k) hn j;rw[G,sbind];cases e
 case true=>exact⟨true,rfl,λh=>by cases h⟩
 rw[bifF];have hb:∀ r,∃ v,Q6 n r (many:Int) (k:Int)=some v/\(v=false->FL many k r):=λr=>Yu hn j
 have I:=Qj7 (f:=λ(a:Int)=>
  if a<(s.A.length:Int) then (
   (getI s.A a).bind λq=>
   (Q6 n q (many:Int) (k:Int)).bind λm=>
   bif m then (
    some (Lp.out (Lp.out (true))))
   else (
    some (Lp.go (wrap64 (a+(1:Int))))))
  else (
   some (Lp.out (Lp.go ())))) (n:=n) (K:=λ(_:Unit)=>some false) (r:=true) (λi=>∀ r,s.A[i]?=some r->Q6 n r (many:Int) (k:Int)=some false) s.A.length (λi hi=>by
  have hp:s.A[i]?=some s.A[i]:=oi hi;generalize s.A[i]=r at hp;obtain⟨v,g1,u⟩:=hb r;rw[oq om,Jd hp,sbind,g1,sbind];cases v
  . rw[bifF,w1 om]
    exact⟨λ_=>rfl,λg=>absurd (λd hd=>by rw[hp] at hd;cases hd;exact g1) g⟩
  . rw[bifT]
    exact⟨λg=>(by have:=g r hp;rw[g1] at this;cases this),λ_=>rfl⟩) (by rw[ol om]) (by unfold big at hn;omega)
 rw[I];by_cases h:∀ i,i<s.A.length->∀ r,s.A[i]?=some r->Q6 n r (many:Int) (k:Int)=some false
 . rw[oq h]
   refine⟨false,rfl,λ_=>⟨om,om,C rfl,F rfl,H rfl,λr hr=>?_⟩⟩;obtain⟨i,hi⟩:=vc hr;obtain⟨v,g1,u⟩:=hb r;have:=h i (J8 hi) r hi;rw[g1] at this;exact u (Option.some.inj this)
 . rw[ol h];exact⟨true,rfl,λh=>by cases h⟩
theorem Q41{n:Nat}{p:Qt}{a b k:Nat}(hn:big<=n)(q:a<=1000000)(hb:b<=1000000):∃ v,Qc1 n p (a:Int) (b:Int) (k:Int)=some v /\
 (v=false->(p.Tape.Code.length<=a/\p.Tape.Aw.length<=a/\∀ c∈p.Tape.Code,c.N.N.length<=k/\c.N.D.length<=k)/\(p.Aq.A6.length<=50/\p.Aq.A.length<=b/\FL b 4 p.Aq.B/\FL b 4 p.Aq.C/\FL b 4 p.Aq.E/\∀ r∈p.Aq.A,FL b 4 r)/\FL 6 k p.P):=by
 unfold Qc1;simp only[jn_eq];obtain⟨u,f,i⟩:=Q4z (t:=p.Tape) (k:=k) hn q;rw[f,sbind];cases u
 case true=>exact⟨true,rfl,λh=>by cases h⟩
 rw[bifF];obtain⟨u,d,j⟩:=Q40 (s:=p.Aq) (k:=4) hn hb;rw[show((4:Nat):Int)=4 from rfl] at d;rw[d,sbind];cases u
 case true=>exact⟨true,rfl,λh=>by cases h⟩
 rw[bifF];obtain⟨u,e,m⟩:=Yu (l:=p.P) (many:=6) (k:=k) hn oz;rw[show((6:Nat):Int)=6 from rfl] at e;rw[e,sbind];exact⟨u,rfl,λh=>⟨i rfl,j rfl,m h⟩⟩
def tS(s:Jz):Q1:=⟨s.A6,s.C.map tF,s.A.map (·.map tF),s.B.map tF,s.E.map tF⟩
def tT(t:Jf):Qp:=⟨t.Code.map tI,t.Aw,t.Ax,t.A1⟩
def tP(p:Qt):Qg:=⟨tT p.Tape,tS p.Aq,p.P.map tF,p.Av⟩
theorem Qrq{n:Nat}{p:Qt}(hn:big<=n)(a:p.Tape.Code.length<=1000000)(d:p.Tape.Aw.length<=1000000)(e:p.Aq.A.length<=1000000)(f:p.Aq.B.length<=1000000)(i:p.Aq.C.length<=1000000)(j:p.Aq.E.length<=1000000)
 (l:∀ r∈p.Aq.A,r.length<=1000000) (m:p.P.length<=1000000):Qar n p=some (tP p):=by
 unfold Qar Qfz;rw[Q9c hn a d,sbind,Yt hn i,sbind,Q9d hn e l,sbind,Yt hn f,sbind,Yt hn j,sbind,sbind,Yt hn m,sbind];rfl
structure PrbW(k:Nat)(p:Qg):Prop where
 t:∀ c∈p.Tape.Code,Fk k c.N
 d:-9223372036854775808<=p.Tape.Ax/\p.Tape.Ax<=9223372036854775807
 s:SchW k p.Aq
 p:FR k p.P
def prbR(p:Qg):Prop:=tapeR p.Tape/\schR p.Aq/\(p.P.length:Int)=p.Tape.A1
theorem PrbW.tw{k:Nat}{p:Qg}(h:PrbW k p)(hk:k<1048576):TW p.Tape:=λc a=>Fk_Fw (h.t c a) om
theorem Qmg{n k:Nat}{p:Qg}(hn:big<=n)(h0:129<=k)(hk:k<8000)(a:PrbW k p):Qbt n p=some (dP (prbR p)):=
 Q4y hn om om (a.tw om) a.d a.s
theorem PrbW.ok{n k:Nat}{p:Qg}{t h:Qa}{y:List Qa}(a:PrbW k p)(hn:big<=n)(hk:k<8000)(hr:prbR p)(f:Fk k t)(d:Fk k h)(i:FR k y)(e:(y.length:Int)=p.Tape.Ax):PrbOK n k p t h y:=
 ⟨⟨hr.1,by rw[Quj hn (a.tw om) a.d,dP_t hr.1],a.t⟩,a.s,hr.2.1,a.p,hr.2.2,f,d,i,e⟩
def toM(z:MadeQ):Jo:=⟨toRR z.ys,toRR z.ks,toR z.next,toR z.err⟩
def noM:Jo:=⟨[],[],[],[]⟩
noncomputable def stepQ(p:Qg)(T H:Rat)(Y:List Rat):Qe ⊕ MadeQ:=
 @ite _ (prbR p/\(Y.length:Int)=p.Tape.Ax) (Classical.propDecidable _) (doQ p.Tape p.Aq (limQ p.Av) T H Y (rv p.P)) (.inl ⟨2,0,0,0⟩)
theorem Qpp{n k:Nat}{p:Qg}{t h:Qa}{y:List Qa}(hn:big<=n)(h0:129<=k)(hk:k<8000)(l:PrbW k p)(s:Fk k t)(q:Fk k h)(u:FR k y):
 Qgb n p t h y=some (match stepQ p (fv t) (fv h) (rv y) with | .inl f=>(noM,f) | .inr z=>(toM z,⟨0,0,0,0⟩))/\∀ f,stepQ p (fv t) (fv h) (rv y)=.inl f->f.Au≠0:=by
 unfold Qgb stepQ;simp only[jn_eq];rw[Qmg hn h0 hk l,sbind,bifnP,Jn];by_cases hr:prbR p
 case neg=>rw[ol hr,ol (λh=>hr h.1),bifT];exact⟨rfl,λf h=>by cases h;decide⟩
 rw[oq hr];by_cases a:(y.length:Int)=p.Tape.Ax
 case neg=>rw[oj a,ol (λh=>a h.2),ow,bifT];exact⟨rfl,λf h=>by cases h;decide⟩
 rw[oo a,oq ⟨hr,a⟩,ov,bifF];have ok:=l.ok hn hk hr s q u a;unfold X5;rw[sbind];obtain⟨r,m,d⟩:=Jiw (g:=⟨⟨0,0⟩,min (max p.Av 0) 4096⟩) hn h0 hk ok rfl;rw[m,sbind];cases hd:doQ p.Tape p.Aq (limQ p.Av) (fv t) (fv h) (rv y) (rv p.P) with
 | inl f=>
   rw[hd] at d;obtain⟨e,j⟩:=d;refine⟨?_,λg i=>by cases i;exact j⟩;rw[e];obtain⟨v,x,f3,f4⟩:=f;rw[K9 j,ow,bifT];rfl
 | inr z=>
   rw[hd] at d;obtain⟨A,e,_⟩:=d;subst e;simp only[];rw[Kz,ov,bifF];exact⟨rfl,λg i=>by cases i⟩
theorem Qun{t:Qp}{lim:Int}{T H:Rat}{Y P:List Rat}{m:Nat}(j:lim<=4096)(v:t.Aw.length=m)(s:Y.length=m):∀ {r:List (List Rat×Rat)}{i:Nat}{yss kss:List (List Rat)}{z},(∀ a∈kss,a.length=m)->(∀ a∈yss,a.length=m)->stagesQ t lim T H Y P r i yss kss=.inr z ->
 (∀ a∈z.2,a.length=m)/\(∀ a∈z.1,a.length=m)/\(∃ e,z.1=yss++e)/\∃ e,z.2=kss++e
 | [],i,yss,kss,z,l,q,h=>by simp only[stagesQ] at h;cases h;exact⟨l,q,⟨[],oc⟩,[],oc⟩
 | x::r,i,yss,kss,z,l,q,h=>by
   simp only[stagesQ] at h;cases hs:stageQ t lim T H Y P x.1 x.2 i kss with
   | inl f=>rw[hs] at h;cases h
   | inr w=>
     rw[hs] at h;have A:w.2.length=m/\w.1.length=m:=by
      unfold stageQ at hs;split at hs;cases hs;cases u:fieldQ t lim (T+H*x.2) (fromQ H Y x.1 kss) P with
      | inl e=>rw[u] at hs;cases hs
      | inr k=>
        rw[u] at hs;cases hs;exact⟨by rw[(Q0e j u).1,v],by show(fromQ H Y x.1 kss).length=m;rw[Qik (by rw[s];exact l),s]⟩
     obtain⟨g1,C,⟨e,g3⟩,B,g4⟩:=Qun j v s (λa d=>by
      rcases yr.1 d with d | d;exact l a d;rw[xj.1 d];exact A.1) (λa d=>by
      rcases yr.1 d with d | d;exact q a d
      rw[xj.1 d];exact A.2) h
     exact⟨g1,C,⟨w.1::e,by rw[g3];simp⟩,w.2::B,by rw[g4];simp⟩
set_option maxRecDepth 100000
def turnQ(a q:Rat)(e:Int):Rat:=if 0<e then a ^ (e - 1) else if e<0 then q / a else 0
theorem Q20{z:Int}(h:z.natAbs<=8):qw (z:Rat)<=1:=by unfold qw;rw[Rat.num_intCast,Rat.den_intCast];have a:(toL z.natAbs).length<=1:=Qeb (n:=z.natAbs) (k:=1) (by rw[Wx,Qbd];omega);have d:(toL 1).length<=1:=Qeb (n:=1) (k:=1) (by rw[Wx,Qbd];omega);omega
theorem Q78{lim:Int}:∀ {l:List Rat}{i:Nat},fitQ lim l i=none->∀ q∈l,(qz q:Int)<=lim
 | [],_,_,q,a=>by cases a
 | x::l,i,h,q,a=>by simp only[fitQ] at h;split at h;rename_i d;rcases xu.1 a with rfl | a;exact d;exact Q78 h q a;cases h
theorem Qmh{lim:Int}{l:List Rat}(a:lim<=4096)(h:fitQ lim l 0=none):QR 129 l:=λq d=>by have e:=Q78 h q d;have f:=qw_qz (q:=q) (b:=4096) om;omega
theorem Qex{p:Qg}{T H:Rat}{Y:List Rat}{z:MadeQ}(h:stepQ p T H Y=.inr z):prbR p/\(Y.length:Int)=p.Tape.Ax/\QR 129 z.next/\z.next.length=Y.length/\QR 129 z.err:=by
 unfold stepQ at h;by_cases d:prbR p/\(Y.length:Int)=p.Tape.Ax
 case neg=>rw[ol d] at h;cases h
 rw[oq d] at h;refine⟨d.1,d.2,?_⟩;have f:=d.1.1.1;unfold doQ at h;cases j:stagesQ p.Tape (limQ p.Av) T H Y (rv p.P) (List.zip (p.Aq.A.map rv) (rv p.Aq.C)) 0 [] [] with
 | inl e=>rw[j] at h;cases h
 | inr w=>
   rw[j] at h;simp only[] at h;obtain⟨g1,q,g3,g4⟩:=Qun (m:=Y.length) (by unfold limQ;omega) (by have:=f.2.2.1;omega) rfl (λ_ h=>by cases h) (λ_ h=>by cases h) j;unfold endQ at h;have a:limQ p.Av<=4096:=by unfold limQ;omega
   split at h
   . cases h
   . rename_i l
     split at h
     . cases h
     . rename_i i
       cases h;exact⟨Qmh a l,Qik g1,Qmh a i⟩
theorem Qwu{l:List Rat}:scaleQ 1 l=l:=by
 unfold scaleQ
 conv=>rhs;rw[<-List.map_id l]
 exact wg λq _=>by show 1*q=q;grind
theorem Q0g:qw 1=1:=by unfold qw;rw[show(1:Rat).num=1 from rfl,show(1:Rat).den=1 from rfl,show(1:Int).natAbs=1 from rfl,toL1];rfl
set_option maxRecDepth 100000
theorem Q79{t:Qp}{lim:Int}{T H:Rat}{Y P:List Rat}(d:lim<=4096):∀ {r:List (List Rat×Rat)}{i:Nat}{yss kss:List (List Rat)}{z},(∀ a∈yss,QR 129 a)->stagesQ t lim T H Y P r i yss kss=.inr z->∀ a∈z.1,QR 129 a
 | [],i,yss,kss,z,q,h=>by simp only[stagesQ] at h;cases h;exact q
 | x::r,i,yss,kss,z,q,h=>by
   simp only[stagesQ] at h;cases hs:stageQ t lim T H Y P x.1 x.2 i kss with
   | inl f=>rw[hs] at h;cases h
   | inr w=>
     rw[hs] at h;have u:QR 129 w.1:=by
      unfold stageQ at hs;cases s:fitQ lim (fromQ H Y x.1 kss) 0 with
      | some j=>rw[s] at hs;cases hs
      | none=>
        rw[s] at hs;simp only[] at hs;cases m:fieldQ t lim (T+H*x.2) (fromQ H Y x.1 kss) P with
        | inl e=>rw[m] at hs;cases hs
        | inr k=>rw[m] at hs;cases hs;exact Qmh d s
     exact Q79 d (λa l=>by
      rcases yr.1 l with l | l;exact q a l
      rw[xj.1 l];exact u) h
theorem Qx1{p:Qg}{T H:Rat}{Y:List Rat}{z:MadeQ}(h:stepQ p T H Y=.inr z):(∀ a∈z.ys,QR 129 a/\a.length=Y.length)/\z.ys.length=p.Aq.B.length:=by
 obtain⟨hr,q,_⟩:=Qex h;have hd:=hr.1.1;unfold stepQ at h;rw[oq ⟨hr,q⟩] at h;unfold doQ at h;cases j:stagesQ p.Tape (limQ p.Av) T H Y (rv p.P) (List.zip (p.Aq.A.map rv) (rv p.Aq.C)) 0 [] [] with
 | inl e=>rw[j] at h;cases h
 | inr w=>
   rw[j] at h;simp only[] at h;have d:limQ p.Av<=4096:=by unfold limQ;omega
   have u:=Q79 d (λ_ h=>by cases h) j;obtain⟨_,v,_,_⟩:=Qun d (m:=Y.length) (by have:=hd.2.2.1;omega) rfl (λ_ h=>by cases h) (λ_ h=>by cases h) j;have A:∀ {r:List (List Rat×Rat)}{i:Nat}{yss kss:List (List Rat)}{z},stagesQ p.Tape (limQ p.Av) T H Y (rv p.P) r i yss kss=.inr z->z.1.length=yss.length+r.length:=by
    intro r
    induction r with
    | nil=>intro i yss kss z h;simp only[stagesQ] at h;cases h;rfl
    | cons x r s=>
      intro i yss kss z h;simp only[stagesQ] at h;cases hs:stageQ p.Tape (limQ p.Av) T H Y (rv p.P) x.1 x.2 i kss with
      | inl f=>rw[hs] at h;cases h
      | inr w=>rw[hs] at h;rw[s h];simp;omega
   have B:=A j;obtain⟨⟨g1,C⟩,g3,g4,E,F⟩:=hr.2.1.2.1;have e:z.ys=w.1:=by unfold endQ at h;split at h;cases h;split at h;cases h;cases h;rfl
   rw[e];refine⟨λa l=>⟨u a l,v a l⟩,?_⟩;rw[B,gz,ot,Jn];simp;omega
theorem Yn{α:Type}{l:List α}{i:Nat}{x:α}(h:l[i]?=some x):l.take (i+1)=l.take i++[x]:=by rw[vj,h];rfl
def fresh(out:List Qo)(i:Nat)(s:List UInt8):Prop:=∀ w,out.getLast?=some w->w.At+w.A5.length<=i/\∀ c r,s=c::r->w.At+w.A5.length=(i:Int)->goC w.Au c.toNat=false
def FKs(k:Nat)(l:List Qb):Prop:=∀ f∈l,Fk k (tF f)
structure SchWr(k:Nat)(s:Jz):Prop where
 a:∀ r∈s.A,FKs k r
 al:∀ r∈s.A,r.length<=1000000
 b:FKs k s.B
 bl:s.B.length<=1000000
 c:FKs k s.C
 cl:s.C.length<=1000000
 e:FKs k s.E
 el:s.E.length<=1000000
 nl:s.A6.length<=1000000
structure PrbWr(k:Nat)(p:Qt):Prop where
 t:∀ x∈p.Tape.Code,Fk k (tF x.N)
 o:p.Tape.Aw.length<=1000000
 s:SchWr k p.Aq
 pk:FKs k p.P
 pl:p.P.length<=1000000
theorem Qtf{α:Type}{l:List α}{i:Nat}{x:α}(h:l[i]?=some x):l.drop i=x::l.drop (i+1):=by have hi:=J8 h;rw[xe hi];congr 1;rw[oi hi] at h;exact Option.some.inj h
theorem Q0h:∀ {Y:List Rat}{m:Nat},Y.length=m->addQ (List.replicate m 0) Y=Y
 | [],m,h=>by unfold addQ;simp
 | x::Y,m,h=>by
   obtain⟨j,rfl⟩:∃ j,m=j+1:=⟨m - 1,by simp at h;omega⟩
   have:=Q0h (Y:=Y) (m:=j) (by simpa using h);unfold addQ at this |-;rw[vg,tz,this];congr 1;grind
set_option maxRecDepth 100000
theorem Fk_tF{k:Nat}{x:Qb}(a:Wh x)(h:x.N.length<=k/\x.D.length<=k):Fk k (tF x):=⟨a.2.1.2,h.1,a.2.2.1.2,h.2⟩
theorem FR_tF{many k:Nat}{l:List Qb}(d:Kc l)(h:FL many k l):FR k (l.map tF):=λx e=>by obtain⟨y,a,rfl⟩:=xy.1 e;exact Fk_tF (d.2 y a) (h.2 y a)
theorem Q6v{a b k:Nat}{p:Qt}{bits:Int}(i:Xm p)(hk:k<=129)
 (h:(p.Tape.Code.length<=a/\p.Tape.Aw.length<=a/\∀ c∈p.Tape.Code,c.N.N.length<=k/\c.N.D.length<=k)/\(p.Aq.A6.length<=50/\p.Aq.A.length<=b/\FL b 4 p.Aq.B/\FL b 4 p.Aq.C/\FL b 4 p.Aq.E/\∀ r∈p.Aq.A,FL b 4 r)/\FL 6 k p.P) :
 PrbW 129 ⟨tT p.Tape,tS p.Aq,p.P.map tF,bits⟩:=by
 obtain⟨f,e,bp,_⟩:=i;obtain⟨⟨x,A,t3⟩,⟨s1,v,m,q,s,u⟩,l⟩:=h;refine⟨λc j=>?_,f.2.2.1,⟨λr hr=>?_,K4 (FR_tF e.2.2.2.1 m) om,K4 (FR_tF e.2.1 q) om,K4 (FR_tF e.2.2.2.2.1 s) om,by show p.Aq.A6.length<=_;omega⟩,K4 (FR_tF bp l) hk⟩;obtain⟨d,hd,rfl⟩:=xy.1 j;exact Wf (Fk_tF (f.1.2 d hd).2.2.2.1 (t3 d hd)) hk;obtain⟨d,hd,rfl⟩:=xy.1 hr;exact K4 (FR_tF (e.2.2.1.2 d hd) (u d hd)) om
theorem PrbW.mono{j k:Nat}{p:Qg}(h:PrbW j p)(hk:j<=k):PrbW k p:=
 ⟨λc a=>Wf (h.t c a) hk,h.d,⟨λr hr=>K4 (h.s.a r hr) hk,K4 h.s.b hk,K4 h.s.c hk,K4 h.s.e hk,h.s.n⟩,K4 h.p hk⟩
set_option maxRecDepth 100000
theorem Jff{t:Qp}{lim:Int}{T H:Rat}{Y P a:List Rat}{c:Rat}{i:Nat}{kss:List (List Rat)}{f}(h:stageQ t lim T H Y P a c i kss=.inl f):f.Au≠0:=by
 unfold stageQ at h;split at h;cases h;show(6:Int)≠0;decide;cases d:fieldQ t lim (T+H*c) (fromQ H Y a kss) P with
 | inl e=>rw[d] at h;cases h;have:=Qvr d;show e.1≠0;omega
 | inr k=>rw[d] at h;cases h
theorem Q2a{t:Qp}{lim:Int}{T H:Rat}{Y P:List Rat}:∀ {r:List (List Rat×Rat)}{i:Nat}{yss kss:List (List Rat)}{f},stagesQ t lim T H Y P r i yss kss=.inl f->f.Au≠0
 | [],i,yss,kss,f,h=>by simp only[stagesQ] at h;cases h
 | x::r,i,yss,kss,f,h=>by
   simp only[stagesQ] at h;cases hs:stageQ t lim T H Y P x.1 x.2 i kss with
   | inl g=>rw[hs] at h;cases h;exact Jff hs
   | inr w=>rw[hs] at h;exact Q2a h
theorem Jbg{t:Qp}{s:Q1}{lim:Int}{T H:Rat}{Y P:List Rat}{f}(h:doQ t s lim T H Y P=.inl f):f.Au≠0:=by
 unfold doQ at h;cases a:stagesQ t lim T H Y P (List.zip (s.A.map rv) (rv s.C)) 0 [] [] with
 | inl g=>rw[a] at h;cases h;exact Q2a a
 | inr z=>
   rw[a] at h;simp only[] at h;unfold endQ at h;split at h;cases h;show(6:Int)≠0;decide;split at h;cases h;show(6:Int)≠0;decide;cases h
theorem PrbWr.mono{j k:Nat}{p:Qt}(h:PrbWr j p)(hk:j<=k):PrbWr k p:=
 ⟨λx d=>Wf (h.t x d) hk,h.o,⟨λr hr f a=>Wf (h.s.a r hr f a) hk,h.s.al,λf a=>Wf (h.s.b f a) hk,h.s.bl,λf a=>Wf (h.s.c f a) hk,h.s.cl,λf a=>Wf (h.s.e f a) hk,h.s.el,h.s.nl⟩,λf a=>Wf (h.pk f a) hk,h.pl⟩
set_option maxRecDepth 100000
def tTry(t:Q9):Jg:=⟨tF t.T,tF t.Az,tF t.H,tF t.A4,t.Y.map tF,t.Ok⟩
def tHis(h:Qv):Qy:=⟨h.Ar.map tTry,tF h.T,h.Y.map tF⟩
theorem Qrr{n:Nat}{h:Qv}(hn:big<=n)(f:h.Ar.length<=1000000)(d:h.Y.length<=1000000)(e:∀ t∈h.Ar,t.Y.length<=1000000):Qat n h=some (tHis h):=by unfold Qat Wo;rw[sbind,Yt hn d,sbind];rw[V3 (λi=>((h.Ar.take i).map tTry,(i:Int))) h.Ar.length (h.Ar.map tTry)];rfl;intro i hi;have hp:h.Ar[i]?=some h.Ar[i]:=oi hi;have a:=e h.Ar[i] (xa hi);generalize h.Ar[i]=t at hp a;rw[oo (show(i:Int)<(h.Ar.length:Int) by omega),bifT,Jd hp,sbind,sbind,sbind,sbind,sbind,Yt hn a,sbind,J9 oh oh,sbind,w1 om,Xe tTry hp];rfl;rw[oj om,bifF,xh];unfold big at hn;omega;rfl
def SmaT(t:Q9):Prop:=FL 4 2 [t.T,t.Az,t.H,t.A4]/\FL 8 2 t.Y
theorem Jjr{n:Nat}{h:Qv}(hn:big<=n):∃ v,Zp n h 3 2=some v/\(v=false->h.Ar.length<=3/\(h.T.N.length<=2/\h.T.D.length<=2)/\FL 8 2 h.Y/\∀ t∈h.Ar,SmaT t):=by
 unfold Zp Yd;simp only[jn_eq,bifd];by_cases F:(3:Int)<(h.Ar.length:Int)
 . rw[oq F];exact⟨true,rfl,λh=>by cases h⟩
 have E:=Qk1 h.T 2;rw[show((2:Nat):Int)=2 from rfl] at E;rw[ol F,E,sbind];by_cases s:h.T.N.length<=2/\h.T.D.length<=2
 case neg=>rw[oj s];exact⟨true,rfl,λh=>by cases h⟩
 rw[oo s,ov,bifF];have m:∀ l,∃ v,Q6 n l 4 2=some v/\(v=false->FL 4 2 l):=λl=>Yu (many:=4) (k:=2) hn oz;have j:∀ l,∃ v,Q6 n l 8 2=some v/\(v=false->FL 8 2 l):=λl=>Yu (many:=8) (k:=2) hn oz;obtain⟨v,g1,H⟩:=j h.Y;rw[g1,sbind];cases v
 case true=>exact⟨true,rfl,λh=>by cases h⟩
 rw[bifF]
 have I:=Qj7 (f:=λ(a:Int)=>
  if a<(h.Ar.length:Int) then (
   (getI h.Ar a).bind λe=>
   (some ([e.T,e.Az,e.H,e.A4]:List Qb)).bind λx=>
   (Q6 n x 4 2).bind λA=>
   bif A then (bif true then some (Lp.out (Lp.out true)) else some (Lp.go (wrap64 (a+(1:Int)))))
   else (
    (getI h.Ar a).bind λC=>
    (Q6 n C.Y 8 2).bind λB=>
    bif B then some (Lp.out (Lp.out true)) else some (Lp.go (wrap64 (a+(1:Int))))))
  else (
   some (Lp.out (Lp.go ())))) (n:=n) (K:=λ(_:Unit)=>some false) (r:=true) (λi=>∀ t,h.Ar[i]?=some t->Q6 n [t.T,t.Az,t.H,t.A4] 4 2=some false/\Q6 n t.Y 8 2=some false) h.Ar.length (λi hi=>by
  have hp:h.Ar[i]?=some h.Ar[i]:=oi hi;generalize h.Ar[i]=t at hp;obtain⟨v,k1,k2⟩:=m [t.T,t.Az,t.H,t.A4];obtain⟨w,q,G⟩:=j t.Y;rw[oq om,Jd hp,sbind,sbind,k1,sbind,sbind,q,sbind];cases v
  . cases w
    . rw[bifF,bifF,w1 om]
      exact⟨λ_=>rfl,λg=>absurd (λd hd=>by rw[hp] at hd;cases hd;exact⟨k1,q⟩) g⟩
    . exact⟨λg=>(by have:=(g t hp).2;rw[q] at this;cases this),λ_=>rfl⟩
  . exact⟨λg=>(by have:=(g t hp).1;rw[k1] at this;cases this),λ_=>rfl⟩) (by rw[ol om]) (by unfold big at hn;omega)
 rw[I];by_cases u:∀ i,i<h.Ar.length->∀ t,h.Ar[i]?=some t->Q6 n [t.T,t.Az,t.H,t.A4] 4 2=some false/\Q6 n t.Y 8 2=some false
 . rw[oq u]
   refine⟨false,rfl,λ_=>⟨om,s,H rfl,λt J=>?_⟩⟩;obtain⟨i,hi⟩:=vc J;obtain⟨v,k1,k2⟩:=m [t.T,t.Az,t.H,t.A4];obtain⟨w,q,G⟩:=j t.Y;obtain⟨a1,a2⟩:=u i (J8 hi) t hi;rw[k1] at a1;rw[q] at a2;exact⟨k2 (Option.some.inj a1),G (Option.some.inj a2)⟩
 . rw[ol u];exact⟨true,rfl,λh=>by cases h⟩
def okT(l:List Jg):List Jg:=l.filter (·.Ok)
def nT(t:Jg):Jg:=⟨toF (fv t.T),toF (fv t.Az),toF (fv t.H),toF (fv t.A4),toR (rv t.Y),true⟩
def FT(k:Nat)(t:Jg):Prop:=FR k [t.T,t.Az,t.H,t.A4]/\FR k t.Y/\t.Y.length<=1000000
theorem Qj8{n k:Nat}{l:List Qa}(hn:big<=n)(a:1<=k)(hk:k<1099511627776)(h:FR k l)(d:l.length<=1000000):Qfo n l=some (toR (rv l)):=by unfold Qfo;rw[Qg8 hn,sbind,Qab (k:=k) hn a hk (Jq (by rw[Q0g];exact a)) h d,sbind,Jc,Qwu]
theorem Qkg(l:List Jg):(okT l).length<=l.length:=List.length_filter_le _ _
theorem Qdv{n k:Nat}{h:Qy}(hn:big<=n)(e:1<=k)(hk:k<1099511627776)(q:h.Ar.length<=1000000)(m:∀ t∈h.Ar,FT k t):Qcs n h=some ((okT h.Ar).map nT):=by unfold Qcs;rw[Qbe (λi=>(okT (h.Ar.take i)).map nT) h.Ar];rw[xh];rfl;intro i x d;obtain⟨g1,l,g3⟩:=m x (Jw d);have hi:=J8 d;have a:=Qkg (h.Ar.take i);rw[xi] at a;rw[Yn d];have j:okT (h.Ar.take i++[x])=okT (h.Ar.take i)++okT [x]:=List.filter_append _ _;rw[j,yx];cases f:x.Ok;rw[bifF,show okT [x]=[] from by unfold okT;simp[f],List.map_nil,ua];rw[bifT,show okT [x]=[x] from by unfold okT;simp[f]];unfold Qb9;rw[sbind,Qj8 hn e hk g1 oc,sbind,show getI (toR (rv [x.T,x.Az,x.H,x.A4])) 0=some (toF (fv x.T)) from rfl,sbind,show getI (toR (rv [x.T,x.Az,x.H,x.A4])) 1=some (toF (fv x.Az)) from rfl,sbind,show getI (toR (rv [x.T,x.Az,x.H,x.A4])) 2=some (toF (fv x.H)) from rfl,sbind,show getI (toR (rv [x.T,x.Az,x.H,x.A4])) 3=some (toF (fv x.A4)) from rfl,sbind,Qj8 hn e hk l g3,sbind,J9 oh oh,sbind];rfl;rfl
def szs(h:Qy):List Rat:=(okT h.Ar).map (fv ·.H)
def okR(l:List Q9):List Q9:=l.filter (·.Ok)
theorem Jbh(l:List Q9):(okR l).length<=l.length:=List.length_filter_le _ _
theorem Jbi(l:List Q9)(x:Q9):okR (l++[x])=if x.Ok=true then okR l++[x] else okR l:=by have e:okR (l++[x])=okR l++okR [x]:=List.filter_append _ _;rw[e];cases a:x.Ok;rw[ol oz,show okR [x]=[] from by unfold okR;simp[a],ua];rw[oq rfl,show okR [x]=[x] from by unfold okR;simp[a]]
theorem Q21{n:Nat}{h:Qv}(hn:big<=n)(d:h.Ar.length<=1000000):Qcg n h=some ((okR h.Ar).map (·.T)++[h.T],(okR h.Ar).map (·.Y)++[h.Y]):=by unfold Qcg;have a:=Jbh h.Ar;rw[V3 (λi=>((okR (h.Ar.take i)).map (·.T),(okR (h.Ar.take i)).map (·.Y),(i:Int))) h.Ar.length ((okR h.Ar).map (·.T),(okR h.Ar).map (·.Y))];rw[J9 oh oh,sbind,J9 oh oh,sbind];intro i hi;have hp:h.Ar[i]?=some h.Ar[i]:=oi hi;generalize h.Ar[i]=t at hp;have a:=Jbh (h.Ar.take i);rw[xi] at a;simp only[jn_eq];rw[oo (show(i:Int)<(h.Ar.length:Int) by omega),bifT,Jd hp,sbind,Yn hp,Jbi,w1 om];cases t.Ok;rw[bifF,ol oz];rw[bifT,oq rfl,sbind,J9 oh oh,sbind,sbind,J9 oh oh,sbind,yx,yx];rfl;rw[oj (show ¬(h.Ar.length:Int)<(h.Ar.length:Int) by omega),bifF,xh];unfold big at hn;omega;rfl
theorem Qj9{n:Nat}{h:Qv}(hn:big<=n)(d:h.Ar.length<=1000000):X9 n h=some ((okR h.Ar).map (·.H)):=by unfold X9;rw[V3 (λi=>((okR (h.Ar.take i)).map (·.H),(i:Int))) h.Ar.length ((okR h.Ar).map (·.H))];intro i hi;have hp:h.Ar[i]?=some h.Ar[i]:=oi hi;generalize h.Ar[i]=t at hp;have a:=Jbh (h.Ar.take i);rw[xi] at a;simp only[jn_eq];rw[oo (show(i:Int)<(h.Ar.length:Int) by omega),bifT,Jd hp,sbind,Yn hp,Jbi,w1 om];cases t.Ok;rw[bifF,ol oz];rw[bifT,oq rfl,sbind,J9 oh oh,sbind,yx];rfl;rw[oj om,bifF,xh];unfold big at hn;omega;rfl
set_option maxRecDepth 100000
def RulW(k:Nat)(r:Qzd):Prop:=FR k [r.Tol,r.Safe,r.Low,r.High,r.Least]
theorem RulW.all{k:Nat}{r:Qzd}(h:RulW k r):Fk k r.Tol/\Fk k r.Safe/\Fk k r.Low/\Fk k r.High/\Fk k r.Least:=
 ⟨h _ oc,h _ oc,h _ oc,h _ oc,h _ oc⟩
set_option maxRecDepth 100000
theorem sg_lt{a b:Rat}:(a - b).num.sign<0↔a<b:=by rw[Int.sign_neg_iff,<-Int.not_le,Rat.num_nonneg,<-Rat.le_iff_sub_nonneg,Rat.not_le]
theorem sg_gt{a b:Rat}:0<(a - b).num.sign↔b<a:=by
 have e:(a - b).num=-(b - a).num:=by rw[<-Q1a,Rat.neg_sub]
 rw[Int.sign_pos_iff,e,<-sg_lt,Int.sign_neg_iff];omega
theorem sg_le{a b:Rat}:(a - b).num.sign<=0↔a<=b:=by rw[<-Int.not_lt,sg_gt,Rat.not_lt]
theorem sg_ge{a b:Rat}:0<=(a - b).num.sign↔b<=a:=by rw[<-Int.not_lt,sg_lt,Rat.not_lt]
theorem Q0i{a:Rat}:0<a.num.sign↔0<a:=by have:=@sg_gt a 0;rwa [show a - 0=a by grind] at this
theorem Q8a{a:Rat}:0<=a.num.sign↔0<=a:=by have:=@sg_ge a 0;rwa [show a - 0=a by grind] at this
set_option maxRecDepth 100000
theorem Q42{p:Qg}{T H:Rat}{Y:List Rat}{f}(h:stepQ p T H Y=.inl f):f.Au≠0:=by unfold stepQ at h;split at h;exact Jbg h;cases h;show(2:Int)≠0;decide
set_option maxRecDepth 100000
theorem Q43{n k:Nat}{h:Qy}(hn:big<=n)(e:1<=k)(hk:k<1099511627776)(q:h.Ar.length<=1000000)(s:∀ t∈h.Ar,FT k t)(l:Fk k h.T)(m:FR k h.Y)(a:h.Y.length<=1000000):
 Qfb n h=some (((okT h.Ar).map nT).map (·.T)++[toF (fv h.T)],((okT h.Ar).map nT).map (·.Y)++[toR (rv h.Y)]):=by
 have r:=Qkg h.Ar;unfold Qfb;rw[Qdv hn e hk q s,sbind];generalize f:(okT h.Ar).map nT=A;have j:A.length<=1000000:=by rw[<-f,ot];omega
 rw[Qbe (λi=>((A.take i).map (·.T),(A.take i).map (·.Y))) A];rw[xh];show((Vl n h.T).bind _)=_;rw[Vs hn (Fk_Fw l om),sbind,J9 oh oh,sbind,Qj8 hn e hk m a,sbind,J9 oh oh,sbind];intro i x d;have hi:=J8 d;rw[J9 oh oh,sbind,J9 oh oh,sbind,Xe (·.T) d,Xe (·.Y) d];rfl
theorem Qup{n k:Nat}{h:Qy}(hn:big<=n)(d:1<=k)(hk:k<1099511627776)(l:h.Ar.length<=1000000)(q:∀ t∈h.Ar,FT k t):Qd3 n h=some (toR (szs h)):=by
 have m:=Qkg h.Ar;unfold Qd3;rw[Qdv hn d hk l q,sbind];have e:toR (szs h)=((okT h.Ar).map nT).map (·.H):=by unfold toR szs;rw[yt,yt];rfl
 rw[e];generalize f:(okT h.Ar).map nT=A;have j:A.length<=1000000:=by rw[<-f,ot];omega
 rw[Qbe (λi=>(A.take i).map (·.H)) A];rw[xh];rfl;intro i x a;have hi:=J8 a;rw[J9 oh oh,sbind,Xe (·.H) a];rfl
set_option maxRecDepth 100000
def canF(x:Qa):Prop:=x=toF (fv x)
theorem Qtg{n k:Nat}{l:List (List Qa)}(hn:big<=n)(hk:k<1099511627776)(h:∀ r∈l,FR k r):Qfn n l=some (dP (∀ r∈l,∀ x∈r,canF x)):=by
 classical
 unfold Qfn;rw[Qag (λ_ (r:List Qa)=>∀ x∈r,canF x) (r:=false),Qii];by_cases g:∀ r∈l,∀ x∈r,canF x;rw[oq g,dP_t g];rw[ol g,dP_f g];intro i r hr;have d:=h r (Jw hr)
 have key:((rangeL (λ(_:Nat) (f:Qa) (_:Unit)=>
  (Z3 n f).bind λe=>
  bif !e then (
   some (Lp.out (Lp.out (false))))
  else (
   some (Lp.go ()))) r 0 ()).bind (lpK λ(_:Unit)=>
 some (Lp.go ())))=if (∀(i:Nat) x,r[i]?=some x->canF x) then (some (Lp.go ()):Option (Lp Unit Bool)) else some (Lp.out false):=by refine Qag (λ_ (x:Qa)=>canF x) r (λi x j=>?_);rw[Qpm hn (Fk_Fw (d x (Jw j)) om),sbind];exact⟨λa=>by rw[oo (show x=toF (fv x) from a)];rfl,λa=>by rw[oj (show ¬ x=toF (fv x) from a)];rfl⟩
 rw[Qii] at key;exact⟨λg=>by rw[key,oq g],λg=>by rw[key,ol g]⟩
def nextT(h:Qy)(i:Nat):Qa:=match h.Ar[i+1]? with | some u=>u.T | none=>h.T
def nextY(h:Qy)(i:Nat):List Qa:=match h.Ar[i+1]? with | some u=>u.Y | none=>h.Y
structure Qee(h:Qy):Prop where
 c:(∀ t∈h.Ar,∀ r∈[[t.T,t.Az,t.H,t.A4],t.Y],∀ x∈r,canF x)/\∀ r∈[[h.T],h.Y],∀ x∈r,canF x
 l:(∀ t∈h.Ar,t.Y.length=h.Y.length)/\1<=h.Y.length/\h.Y.length<=6
 m:h.Ar.length<=200
 s:∀ t∈h.Ar,0<fv t.Az/\0<fv t.H/\fv t.H<=fv t.Az/\0<=fv t.A4
 n:∀(i:Nat) t,h.Ar[i]?=some t->(t.Ok=true->fv (nextT h i)=fv t.T+fv t.H)/\(t.Ok=false->fv (nextT h i)=fv t.T/\rv (nextY h i)=rv t.Y)
theorem Qpq{n k:Nat}{h:Qy}(hn:big<=n)(d:1<=k)(hk:k<100000000)(V:h.Ar.length<=1000000)(j:∀ t∈h.Ar,FT k t)(J:Fk k h.T)(L:FR k h.Y)(O:h.Y.length<=1000000):
 Qgm n h=some (dP (Qee h)):=by
 classical
 have pk:∀ t∈h.Ar,Fk k t.T/\Fk k t.Az/\Fk k t.H/\Fk k t.A4:=λt f=>by have g:=(j t f).1;exact⟨g _ oc,g _ oc,g _ oc,g _ oc⟩
 unfold Qgm Qo2;have eP:Qlk n h=some (dP ((∀ t∈h.Ar,∀ r∈[[t.T,t.Az,t.H,t.A4],t.Y],∀ x∈r,canF x)/\∀ r∈[[h.T],h.Y],∀ x∈r,canF x)):=by
  unfold Qlk
  rw[Qag (λ_ (t:Jg)=>∀ r∈[[t.T,t.Az,t.H,t.A4],t.Y],∀ x∈r,canF x) (r:=false),Qii,Qtg (k:=k) hn om (λr hr=>by
   rcases xu.1 hr with rfl | hr
   . intro x R;rw[xj.1 R];exact J
   . rw[xj.1 hr];exact L),sbind]
  . by_cases g:∀ t∈h.Ar,∀ r∈[[t.T,t.Az,t.H,t.A4],t.Y],∀ x∈r,canF x
    . rw[oq g];exact Q1c ⟨λa=>⟨g,a⟩,λa=>a.2⟩
    . rw[ol g,dP_f λa=>g a.1]
  . intro i t hi
    have f:=Jw hi
    have e:Qfn n [[t.T,t.Az,t.H,t.A4],t.Y]=some (dP (∀ r∈[[t.T,t.Az,t.H,t.A4],t.Y],∀ x∈r,canF x)):=Qtg (k:=k) hn om (λr hr=>by
     rcases xu.1 hr with rfl | hr
     . exact(j t f).1
     . rw[xj.1 hr];exact(j t f).2.1)
    unfold Qb9;rw[sbind,e,sbind];exact⟨λg=>by rw[dP_t g];rfl,λg=>by rw[dP_f g];rfl⟩
 have eL:Qi4 h=some (dP ((∀ t∈h.Ar,t.Y.length=h.Y.length)/\1<=h.Y.length/\h.Y.length<=6)):=by
  unfold Qi4;simp only[jn_eq];rw[Qag (λ_ (t:Jg)=>t.Y.length=h.Y.length) (r:=false),Qii]
  . by_cases g:∀ t∈h.Ar,t.Y.length=h.Y.length
    . rw[oq g]
      by_cases g1:(1:Int)<=(h.Y.length:Int)
      . rw[oo g1,bifT];exact Qed ⟨λa=>⟨g,om,om⟩,λa=>by have:=a.2.2;omega⟩
      . rw[oj g1,bifF,dP_f λa=>g1 (by have:=a.2.1;omega)]
    . rw[ol g,dP_f λa=>g a.1]
  . intro i t hi
    exact⟨λg=>by rw[oo om];rfl,λg=>by rw[oj om];rfl⟩
 have eS:Qll n h=some (dP (∀ t∈h.Ar,0<fv t.Az/\0<fv t.H/\fv t.H<=fv t.Az/\0<=fv t.A4)):=by
  unfold Qll;simp only[jn_eq];rw[Qag (λ_ (t:Jg)=>0<fv t.Az/\0<fv t.H/\fv t.H<=fv t.Az/\0<=fv t.A4) (r:=false),Qii]
  . by_cases g:∀ t∈h.Ar,0<fv t.Az/\0<fv t.H/\fv t.H<=fv t.Az/\0<=fv t.A4
    . rw[oq g,dP_t g]
    . rw[ol g,dP_f g]
  . intro i t hi
    obtain⟨v,C,l,N⟩:=pk t (Jw hi);rw[Qdu (k:=k) hn d om C,sbind,Qdu (k:=k) hn d om l,sbind,Qrn (k:=k) hn d om l C,sbind,Qdu (k:=k) hn d om N,sbind];by_cases c1:(fv t.Az).num.sign<=0
    . rw[oo c1];exact⟨λg=>absurd (Q0i.2 g.1) om,λ_=>rfl⟩
    rw[oj c1];by_cases G:(fv t.H).num.sign<=0
    . rw[oo G];exact⟨λg=>absurd (Q0i.2 g.2.1) om,λ_=>rfl⟩
    rw[oj G];by_cases H:0<(fv t.H - fv t.Az).num.sign
    . rw[oo H];exact⟨λg=>absurd (sg_le.2 g.2.2.1) om,λ_=>rfl⟩
    rw[oj H];by_cases I:(fv t.A4).num.sign<0
    . rw[oo I];exact⟨λg=>absurd (Q8a.2 g.2.2.2) om,λ_=>rfl⟩
    rw[oj I];exact⟨λ_=>rfl,λg=>absurd ⟨Q0i.1 om,Q0i.1 om,sg_le.1 om,Q8a.1 om⟩ g⟩
 have eC:Qlm n h=some (dP (∀(i:Nat) t,h.Ar[i]?=some t->(t.Ok=true->fv (nextT h i)=fv t.T+fv t.H)/\(t.Ok=false->fv (nextT h i)=fv t.T/\rv (nextY h i)=rv t.Y))):=by
  unfold Qlm Qmb;simp only[jn_eq];rw[Qag (λi (t:Jg)=>(t.Ok=true->fv (nextT h i)=fv t.T+fv t.H)/\(t.Ok=false->fv (nextT h i)=fv t.T/\rv (nextY h i)=rv t.Y)) (r:=false)]
  . by_cases g:∀(i:Nat) t,h.Ar[i]?=some t->(t.Ok=true->fv (nextT h i)=fv t.T+fv t.H)/\(t.Ok=false->fv (nextT h i)=fv t.T/\rv (nextY h i)=rv t.Y)
    . rw[oq g,dP_t g]
    . rw[ol g,dP_f g]
  . intro i t hi
    have Q:=J8 hi;obtain⟨v,C,l,N⟩:=pk t (Jw hi);have pY:=(j t (Jw hi)).2.1;have B:=Yz (qw_fv v d) (qw_fv l d)
    have core:∀(a:Qa) (y:List Qa),Fk k a->FR k y->∀(K:Bool->Option (Lp Unit Bool)),
     ((bif t.Ok then (Vi n t.T t.H).bind λT=>(Qad n a T).bind λU=>some U else (Qad n a t.T).bind λE=>bif E then (Qhp n y t.Y).bind λF=>some F else some false).bind K)=K (dP ((t.Ok=true->fv a=fv t.T+fv t.H)/\(t.Ok=false->fv a=fv t.T/\rv y=rv t.Y))):=λa y M S K=>by
     cases W:t.Ok with
     | true=>
       rw[bifT,Vy (k:=k) hn d om v l,sbind,Qgj (k:=k+k+1) hn om om (Wf M om) (Jq B),sbind,sbind,Jc,decP];congr 1;exact dP_c ⟨λg=>⟨λ_=>g,(λA=>by cases A)⟩,λg=>g.1 rfl⟩
     | false=>
       rw[bifF,Qgj (k:=k) hn d om M v,sbind];by_cases c:fv a=fv t.T
       . rw[oo c,bifT,Qro (k:=k) hn d om S pY,sbind,sbind,decP]
         congr 1;exact dP_c ⟨λg=>⟨(λA=>by cases A),λ_=>⟨c,g⟩⟩,λg=>(g.2 rfl).2⟩
       . rw[oj c,bifF,sbind,dP_f λg=>c (g.2 rfl).1]
    have fin:∀ P:Prop,((P->(λs:Bool=>bif !s then some (Lp.out false) else some (Lp.go ()):Bool->Option (Lp Unit Bool)) (dP P)=some (.go ()))/\(¬ P->(λs:Bool=>bif !s then some (Lp.out false) else some (Lp.go ()):Bool->Option (Lp Unit Bool)) (dP P)=some (.out false))):=λP=>⟨λg=>by rw[dP_t g];rfl,λg=>by rw[dP_f g];rfl⟩
    rw[w1 om];by_cases c:i+1<h.Ar.length
    . have hp:h.Ar[i+1]?=some h.Ar[i+1]:=oi c
      have f:=xa c;generalize h.Ar[i+1]=u at hp f;have eT:nextT h i=u.T:=by unfold nextT;rw[hp]
      have eY:nextY h i=u.Y:=by unfold nextY;rw[hp]
      rw[oo (show((i+1:Nat):Int)<(h.Ar.length:Int) by omega),bifT,Jd hp,sbind,sbind,core u.T u.Y (pk u f).1 (j u f).2.1,eT,eY];exact fin _
    . have hp:h.Ar[i+1]?=none:=xz om
      have eT:nextT h i=h.T:=by unfold nextT;rw[hp]
      have eY:nextY h i=h.Y:=by unfold nextY;rw[hp]
      rw[oj (show ¬((i+1:Nat):Int)<(h.Ar.length:Int) by omega),bifF,core h.T h.Y J L,eT,eY];exact fin _
 rw[eP,sbind,bifnP];by_cases g1:(∀ t∈h.Ar,∀ r∈[[t.T,t.Az,t.H,t.A4],t.Y],∀ x∈r,canF x)/\∀ r∈[[h.T],h.Y],∀ x∈r,canF x
 case neg=>rw[ol g1,sbind,dP_f λa=>g1 a.c];rfl
 rw[oq g1,eL,sbind,bifnP];by_cases m:(∀ t∈h.Ar,t.Y.length=h.Y.length)/\1<=h.Y.length/\h.Y.length<=6
 case neg=>rw[ol m,sbind,dP_f λa=>m a.l];rfl
 rw[oq m];by_cases g3:(200:Int)<(h.Ar.length:Int)
 . rw[oo g3,bifT,sbind,dP_f λa=>by have:=a.m;omega];rfl
 rw[oj g3,bifF,eS,sbind,bifnP];by_cases g4:∀ t∈h.Ar,0<fv t.Az/\0<fv t.H/\fv t.H<=fv t.Az/\0<=fv t.A4
 case neg=>rw[ol g4,sbind,dP_f λa=>g4 a.s];rfl
 rw[oq g4,eC,sbind,bifnP];by_cases q:∀(i:Nat) t,h.Ar[i]?=some t->(t.Ok=true->fv (nextT h i)=fv t.T+fv t.H)/\(t.Ok=false->fv (nextT h i)=fv t.T/\rv (nextY h i)=rv t.Y)
 . rw[oq q,sbind,dP_t ⟨g1,m,om,g4,q⟩];rfl
 . rw[ol q,sbind,dP_f λa=>q a.n];rfl
set_option maxRecDepth 100000
def SmaK(k:Nat)(t:Q9):Prop:=FL 4 k [t.T,t.Az,t.H,t.A4]/\FL 8 k t.Y
theorem Q22{n a k:Nat}{h:Qv}(hn:big<=n)(M:a<=1000)(_:k<=1000):∃ v,Zp n h (a:Int) (k:Int)=some v/\(v=false->h.Ar.length<=a/\(h.T.N.length<=k/\h.T.D.length<=k)/\FL 8 k h.Y/\∀ t∈h.Ar,SmaK k t):=by
 unfold Zp Yd;simp only[jn_eq,bifd];by_cases F:(a:Int)<(h.Ar.length:Int)
 . rw[oq F];exact⟨true,rfl,λh=>by cases h⟩
 have H:=Qk1 h.T k;rw[ol F,H,sbind];by_cases u:h.T.N.length<=k/\h.T.D.length<=k
 case neg=>rw[oj u];exact⟨true,rfl,λh=>by cases h⟩
 rw[oo u,ov,bifF];have q:∀ l,∃ v,Q6 n l 4 (k:Int)=some v/\(v=false->FL 4 k l):=λl=>Yu (many:=4) (k:=k) hn oz;have m:∀ l,∃ v,Q6 n l 8 (k:Int)=some v/\(v=false->FL 8 k l):=λl=>Yu (many:=8) (k:=k) hn oz;obtain⟨v,g1,I⟩:=m h.Y;rw[g1,sbind];cases v
 case true=>exact⟨true,rfl,λh=>by cases h⟩
 rw[bifF]
 have J:=Qj7 (f:=λ(e:Int)=>
  if e<(h.Ar.length:Int) then (
   (getI h.Ar e).bind λj=>
   (some ([j.T,j.Az,j.H,j.A4]:List Qb)).bind λA=>
   (Q6 n A 4 (k:Int)).bind λB=>
   bif B then (bif true then some (Lp.out (Lp.out true)) else some (Lp.go (wrap64 (e+(1:Int)))))
   else (
    (getI h.Ar e).bind λE=>
    (Q6 n E.Y 8 (k:Int)).bind λC=>
    bif C then some (Lp.out (Lp.out true)) else some (Lp.go (wrap64 (e+(1:Int))))))
  else (
   some (Lp.out (Lp.go ())))) (n:=n) (K:=λ(_:Unit)=>some false) (r:=true) (λi=>∀ t,h.Ar[i]?=some t->Q6 n [t.T,t.Az,t.H,t.A4] 4 (k:Int)=some false/\Q6 n t.Y 8 (k:Int)=some false) h.Ar.length (λi hi=>by
  have hp:h.Ar[i]?=some h.Ar[i]:=oi hi;generalize h.Ar[i]=t at hp;obtain⟨v,k1,k2⟩:=q [t.T,t.Az,t.H,t.A4];obtain⟨w,s,G⟩:=m t.Y;rw[oq om,Jd hp,sbind,sbind,k1,sbind,sbind,s,sbind];cases v
  . cases w
    . rw[bifF,bifF,w1 om]
      exact⟨λ_=>rfl,λg=>absurd (λd hd=>by rw[hp] at hd;cases hd;exact⟨k1,s⟩) g⟩
    . exact⟨λg=>(by have:=(g t hp).2;rw[s] at this;cases this),λ_=>rfl⟩
  . exact⟨λg=>(by have:=(g t hp).1;rw[k1] at this;cases this),λ_=>rfl⟩) (by rw[ol om]) (by unfold big at hn;omega)
 rw[J];by_cases x:∀ i,i<h.Ar.length->∀ t,h.Ar[i]?=some t->Q6 n [t.T,t.Az,t.H,t.A4] 4 (k:Int)=some false/\Q6 n t.Y 8 (k:Int)=some false
 . rw[oq x]
   refine⟨false,rfl,λ_=>⟨om,u,I rfl,λt L=>?_⟩⟩;obtain⟨i,hi⟩:=vc L;obtain⟨v,k1,k2⟩:=q [t.T,t.Az,t.H,t.A4];obtain⟨w,s,G⟩:=m t.Y;obtain⟨a1,a2⟩:=x i (J8 hi) t hi;rw[k1] at a1;rw[s] at a2;exact⟨k2 (Option.some.inj a1),G (Option.some.inj a2)⟩
 . rw[ol x];exact⟨true,rfl,λh=>by cases h⟩
theorem Q23{k:Nat}{t:Q9}(q:Qdh t)(h:SmaK k t):FT k (tTry t):=by obtain⟨e,f,i,j,l,_⟩:=q;obtain⟨s1,d⟩:=h;have g1:=s1.2 t.T oc;have m:=s1.2 t.Az oc;have g3:=s1.2 t.H oc;have g4:=s1.2 t.A4 oc;have yl:=d.1;refine⟨λx a=>?_,FR_tF l d,by show(t.Y.map tF).length<=_;rw[ot];omega⟩;rcases xu.1 a with rfl | a;exact Fk_tF e g1;rcases xu.1 a with rfl | a;exact Fk_tF f m;rcases xu.1 a with rfl | a;exact Fk_tF i g3;rw[xj.1 a];exact Fk_tF j g4
set_option maxRecDepth 100000
def AlR(p:Qg)(h:Qy):Prop:=prbR p/\Qee h/\(h.Y.length:Int)=p.Tape.Ax
theorem Qwv{j k:Nat}{t:Jg}(h:FT j t)(hk:j<=k):FT k t:=⟨K4 h.1 hk,K4 h.2.1 hk,h.2.2⟩
set_option maxRecDepth 100000
theorem Qpr{n:Nat}{p:Qt}{h:Qv}(hn:big<=n):∃ v,Zq n p h=some v/\(v=false->((p.Tape.Code.length<=10/\p.Tape.Aw.length<=10/\∀ c∈p.Tape.Code,c.N.N.length<=2/\c.N.D.length<=2)/\(p.Aq.A6.length<=50/\p.Aq.A.length<=4/\FL 4 4 p.Aq.B/\FL 4 4 p.Aq.C/\FL 4 4 p.Aq.E/\∀ r∈p.Aq.A,FL 4 4 r)/\FL 6 2 p.P)/\p.Av<=400/\h.Ar.length<=5/\(h.T.N.length<=6/\h.T.D.length<=6)/\FL 8 6 h.Y/\∀ t∈h.Ar,SmaK 6 t):=by
 unfold Zq;simp only[jn_eq];obtain⟨v,f,j⟩:=Q41 (p:=p) (a:=10) (b:=4) (k:=2) hn oz oz;rw[show((10:Nat):Int)=10 from rfl,show((4:Nat):Int)=4 from rfl,show((2:Nat):Int)=2 from rfl] at f;rw[f,sbind];cases v
 case true=>exact⟨true,rfl,λh=>by cases h⟩
 rw[bifF];by_cases c1:(3:Int)<(p.Aq.B.length:Int)
 . rw[oo c1];exact⟨true,rfl,λh=>by cases h⟩
 rw[oj c1,bifF];by_cases d:(400:Int)<p.Av
 . rw[oo d];exact⟨true,rfl,λh=>by cases h⟩
 rw[oj d,bifF];obtain⟨v,i,l⟩:=Q22 (a:=5) (k:=6) (h:=h) hn oz oz;rw[show((5:Nat):Int)=5 from rfl,show((6:Nat):Int)=6 from rfl] at i;rw[i,sbind];cases v
 case true=>exact⟨true,rfl,λh=>by cases h⟩
 obtain⟨g1,m,g3,g4⟩:=l rfl;rw[bifF];by_cases e:(4:Int)<(h.Y.length:Int)
 . rw[oo e];exact⟨true,rfl,λh=>by cases h⟩
 rw[oj e,bifF,Qj9 hn om,sbind];exact⟨_,rfl,λ_=>⟨j rfl,om,g1,m,g3,g4⟩⟩
theorem Qqe{q:Rat}:q.num.sign<=0↔¬ 0<q:=by
 rw[Rat.not_lt,<-Int.not_lt,Int.sign_pos_iff];have h:=Rat.num_nonneg (q:=-q);have e:(-q).num=-q.num:=Q1a q;have a:0<=-q↔q<=0:=by grind
 rw[<-a,<-h,e];omega
set_option maxRecDepth 100000
def addAt(l:List Rat)(a:Int)(c:Rat):List Rat:=l.set a.toNat (l.getD a.toNat 0+c)
theorem Qfe{l:List Rat}{a:Int}{c:Rat}:(addAt l a c).length=l.length:=wj
theorem Jbj(l:List Qa)(i:Nat)(x:Qa):rv (l.set i x)=(rv l).set i (fv x):=by unfold rv;rw[List.map_set]
theorem Jdv(l:List Rat)(i:Nat)(x:Rat):(toR l).set i (toF x)=toR (l.set i x):=by unfold toR;rw[List.map_set]
theorem Jbk{k:Nat}{l:List Qa}{i:Nat}{x:Qa}(h:FR k l)(d:Fk k x):FR k (l.set i x):=λy a=>by rcases List.mem_or_eq_of_mem_set a with a | rfl;exact h y a;exact d
theorem Jnd{k:Nat}{l:List Rat}{i:Nat}{x:Rat}(h:QR k l)(d:qw x<=k):QR k (l.set i x):=λy a=>by rcases List.mem_or_eq_of_mem_set a with a | rfl;exact h y a;exact d
theorem Qjm{l:List Qa}{i:Nat}{x:Qa}(h:l[i]?=some x):(rv l).getD i 0=fv x:=by rw[ou];unfold rv;rw[xr,h];rfl
theorem Q6w{α:Type}{l:List α}{a:Int}(h0:0<=a)(d:a<(l.length:Int)):∃ x,l[a.toNat]?=some x/\getI l a=some x:=by
 obtain⟨i,rfl⟩:∃ i:Nat,a=(i:Int):=⟨a.toNat,om⟩
 have hi:i<l.length:=om
 exact⟨l[i],by rw[yh];exact oi hi,Qbz hi⟩
structure BkS where
 co:List Rat
 T:Rat
 Y:List Rat
 P:List Rat
def Zc(x:Q2)(c r:Rat)(vs:List Rat)(s:BkS):BkS:=
 if c=0 then s else
 if x.Op=2 then ⟨s.co,s.T+c,s.Y,s.P⟩ else
 if x.Op=3 then ⟨s.co,s.T,addAt s.Y x.A c,s.P⟩ else
 if x.Op=4 then ⟨s.co,s.T,s.Y,addAt s.P x.A c⟩ else
 if x.Op=6 then ⟨addAt s.co x.A (-c),s.T,s.Y,s.P⟩ else
 if x.Op=7 then ⟨addAt (addAt s.co x.A c) x.B c,s.T,s.Y,s.P⟩ else
 if x.Op=8 then ⟨addAt (addAt s.co x.A c) x.B (-c),s.T,s.Y,s.P⟩ else
 if x.Op=9 then ⟨addAt (addAt s.co x.A (c*vs.getD x.B.toNat 0)) x.B (c*vs.getD x.A.toNat 0),s.T,s.Y,s.P⟩ else
 if x.Op=10 then ⟨addAt (addAt s.co x.A (c / vs.getD x.B.toNat 0)) x.B (-(c / vs.getD x.B.toNat 0*r)),s.T,s.Y,s.P⟩ else
 if x.Op=11 then ⟨addAt s.co x.A (c*((x.B:Rat)*turnQ (vs.getD x.A.toNat 0) r x.B)),s.T,s.Y,s.P⟩ else s
theorem Qmi{x:Q2}{c r:Rat}{vs:List Rat}{s:BkS}:(Zc x c r vs s).co.length=s.co.length/\(Zc x c r vs s).Y.length=s.Y.length/\(Zc x c r vs s).P.length=s.P.length:=by
 unfold Zc
 repeat' split
 all_goals simp[Qfe]
theorem Quq{n b kc:Nat}{t:Qp}{done co gY gP:List Qa}{gT cF:Qa}{a:Int}(hn:big<=n)(l:1<=kc)(hb:b+kc<1000000000)(f:FR b co)(i:Fk kc cF)(h0:0<=a)(C:a<(co.length:Int)):
 ∃ d,J5 n t done co gT gY gP a cF=some (t,done,gT,d)/\rv d=addAt (rv co) a (fv cF)/\FR (b+kc+1) d/\d.length=co.length:=by
 obtain⟨x,g1,B⟩:=Q6w h0 C;have j:=f x (uj g1);have F:=Yz (qw_fv (Wf j (show b<=b+kc by omega)) om) (qw_fv i l);have r:qw (fv x+fv cF)<=b+kc+1:=by
  by_cases q:1<=b
  . exact Yz (qw_fv j q) (qw_fv i l)
  . have m:b=0:=om
    subst m;have e:fv x=0:=by obtain⟨_,x2,_,x4⟩:=j;obtain⟨⟨E,s⟩,u⟩:=x;have v:s=[]:=xd (by simpa using x2);have A:u=[]:=xd (by simpa using x4);subst v;subst A;cases E<;>decide +kernel
    rw[e,ge];have:=qw_fv i l;omega
 unfold J5;rw[B,sbind,Vy (k:=b+kc) hn om om (Wf j om) (Wf i om),sbind,sbind];refine⟨_,rfl,?_,Jbk (K4 f om) (Jq r),wj⟩;rw[Jbj,Jc];unfold addAt;rw[Qjm g1]
structure BkW(b:Nat)(co:List Qa)(s:BkS):Prop where
 c:rv co=s.co
 k:FR b co
 t:qw s.T<=b
 y:QR b s.Y
 p:QR b s.P
theorem BkW.mono{b a:Nat}{co:List Qa}{s:BkS}(h:BkW b co s)(hb:b<=a):BkW a co s:=⟨h.c,K4 h.k hb,xo h.t hb,Q8 h.y hb,Q8 h.p hb⟩
theorem Qth{b kc:Nat}{l:List Rat}{a:Int}{c:Rat}(hb:1<=b)(h:QR b l)(d:qw c<=kc):QR (b+kc+1) (addAt l a c):=
 Jnd (Q8 h om) (Yz (Vt h hb) d)
theorem Jbl{n b:Nat}{t:Qp}{x:Q2}{i:Nat}{vs:List Rat}{co:List Qa}{s:BkS}(hn:big<=n)(hb1:129<=b)(hb:b<100000000)(hw:BkW b co s)(hx:t.Code[i]?=some x)(S:mayR t i x)
 (hv:QR 129 vs) (hvl:i<vs.length) (hcl:co.length=vs.length) (u:qw (s.co.getD i 0)<=129) (hy:(s.Y.length:Int)=t.Ax) (hp:(s.P.length:Int)=t.A1) :
 ∃ d,Zn n t (toR vs) co (toF s.T) (toR s.Y) (toR s.P) (i:Int)=some (t,toR vs,toF (Zc x (s.co.getD i 0) (vs.getD i 0) vs s).T,d,toR (Zc x (s.co.getD i 0) (vs.getD i 0) vs s).Y,toR (Zc x (s.co.getD i 0) (vs.getD i 0) vs s).P)/\BkW (b+3000) d (Zc x (s.co.getD i 0) (vs.getD i 0) vs s)/\d.length=co.length:=by
 obtain⟨w1,U,w3,O,P⟩:=hw;have rd:=Qmf S;have hrow:vs[i]?=some vs[i]:=oi hvl;obtain⟨cF,K⟩:∃ cF,co[i]?=some cF:=⟨co[i]' om,oi _⟩
 have ec:s.co.getD i 0=fv cF:=by rw[<-w1];exact Qjm K
 rw[ec] at u |-;have kcF:Fk b cF:=U cF (uj K);have dA:x.Op=6\/x.Op=11\/x.Op=7\/x.Op=8\/x.Op=9\/x.Op=10->0<=x.A/\x.A<(i:Int):=λh=>rd _ (rdT_A h);have dB:x.Op=7\/x.Op=8\/x.Op=9\/x.Op=10->0<=x.B/\x.B<(i:Int):=λh=>rd _ (rdT_B h);have gA:x.Op=6\/x.Op=11\/x.Op=7\/x.Op=8\/x.Op=9\/x.Op=10->getI (toR vs) x.A=some (toF (vs.getD x.A.toNat 0)):=λh=>Qij (dA h).1 (by have:=(dA h).2;omega);have gB:x.Op=7\/x.Op=8\/x.Op=9\/x.Op=10->getI (toR vs) x.B=some (toF (vs.getD x.B.toNat 0)):=λh=>Qij (dB h).1 (by have:=(dB h).2;omega);have gI:getI (toR vs) (i:Int)=some (toF (vs.getD i 0)):=by
  have:=Qij (l:=vs) (r:=(i:Int)) om om;rwa [yh] at this
 have qA:qw (vs.getD x.A.toNat 0)<=129:=Vt hv oz;have qB:qw (vs.getD x.B.toNat 0)<=129:=Vt hv oz;have qI:qw (vs.getD i 0)<=129:=Vt hv oz;unfold Zn Zc;rw[Jd hx,sbind,Jd K,sbind,Qdu (k:=b) hn om om kcF,sbind];simp only[bifd];have sg:(fv cF).num.sign=0↔fv cF=0:=by rw[dz,jg]
 by_cases c0:fv cF=0
 . rw[oq (sg.2 c0),oq c0]
   exact⟨co,rfl,⟨w1,K4 U om,om,Q8 O om,Q8 P om⟩,rfl⟩
 rw[ol λg=>c0 (sg.1 g),ol c0];generalize vs.getD x.A.toNat 0=va at gA qA |-;generalize vs.getD x.B.toNat 0=vb at gB qB |-;generalize vs.getD i 0=vi at gI qI |-;have kc2:Fk 129 (toF (fv cF)):=Jq u;have kmono:FR (b+3000) co:=K4 U om;by_cases o2:x.Op=2
 . simp only[oq o2]
   have J:=Yz w3 u;rw[Vy (k:=b) hn om om (Jq w3) kcF,sbind,Jc];exact⟨co,rfl,⟨w1,kmono,by show qw (s.T+fv cF)<=_;omega,Q8 O om,Q8 P om⟩,rfl⟩
 simp only[ol o2];by_cases o3:x.Op=3
 . simp only[oq o3]
   obtain⟨a1,a2⟩:=Qwr S o3;have q0:=Vt (i:=x.A.toNat) O om;rw[Qij a1 om,sbind,Vy (k:=b) hn om om (Jq q0) kcF,sbind,sbind,Jc,Jdv];exact⟨co,rfl,⟨w1,kmono,by show qw s.T<=_;omega,Q8 (Qth om O u) om,Q8 P om⟩,rfl⟩
 simp only[ol o3];by_cases o4:x.Op=4
 . simp only[oq o4]
   obtain⟨a1,a2⟩:=Qws S o4;have q0:=Vt (i:=x.A.toNat) P om;rw[Qij a1 om,sbind,Vy (k:=b) hn om om (Jq q0) kcF,sbind,sbind,Jc,Jdv];exact⟨co,rfl,⟨w1,kmono,by show qw s.T<=_;omega,Q8 O om,Q8 (Qth om P u) om⟩,rfl⟩
 simp only[ol o4];have wrap:∀ {d:List Qa}{l:List Rat}{k:Nat},rv d=l->FR k d->k<=b+3000->BkW (b+3000) d ⟨l,s.T,s.Y,s.P⟩:=λe hk hle=>⟨e,K4 hk hle,by show qw s.T<=_;omega,Q8 O om,Q8 P om⟩
 have one:∀(a:Int) (q:Rat) (E:Nat),0<=a->a<(i:Int)->qw q<=E->1<=E->E<=1300->∃ d,J5 n t (toR vs) co (toF s.T) (toR s.Y) (toR s.P) a (toF q)=some (t,toR vs,toF s.T,d)/\rv d=addAt s.co a q/\FR (b+E+1) d/\d.length=co.length:=λa q E h0 h1 J L X=>by obtain⟨d,m,v,B,F⟩:=Quq (n:=n) (t:=t) (done:=toR vs) (gT:=toF s.T) (gY:=toR s.Y) (gP:=toR s.P) hn L om U (Jq J) h0 om;rw[Jc,w1] at v;exact⟨d,m,v,B,F⟩
 have two:∀(a Q:Int) (q q':Rat) (E H:Nat),0<=a->a<(i:Int)->qw q<=E->1<=E->E<=1300->0<=Q->Q<(i:Int)->qw q'<=H->1<=H->H<=1300->∃ f d,J5 n t (toR vs) co (toF s.T) (toR s.Y) (toR s.P) a (toF q)=some (t,toR vs,toF s.T,f)/\J5 n t (toR vs) f (toF s.T) (toR s.Y) (toR s.P) Q (toF q')=some (t,toR vs,toF s.T,d)/\BkW (b+3000) d ⟨addAt (addAt s.co a q) Q q',s.T,s.Y,s.P⟩/\d.length=co.length:=λa Q q q' E H h0 h1 J L X h0' h1' hq' W hk2'=>by
  obtain⟨f,m,v,B,F⟩:=one a q E h0 h1 J L X;obtain⟨d,G,A,f3,f4⟩:=Quq (n:=n) (t:=t) (done:=toR vs) (gT:=toF s.T) (gY:=toR s.Y) (gP:=toR s.P) (a:=Q) hn W om B (Jq hq') h0' om;rw[Jc,v] at A;exact⟨f,d,m,G,wrap A f3 om,om⟩
 have send0:∀(a:Int),0<=a->a<(i:Int)->∃ d,J5 n t (toR vs) co (toF s.T) (toR s.Y) (toR s.P) a cF=some (t,toR vs,toF s.T,d)/\rv d=addAt s.co a (fv cF)/\FR (b+129+1) d/\d.length=co.length:=λa h0 h1=>by obtain⟨y,g1,g2⟩:=Q6w (l:=co) h0 om;have C:=U y (uj g1);have J:=Yz (qw_fv C om) u;unfold J5;rw[g2,sbind,Vy (k:=b) hn om om C kcF,sbind,sbind];refine⟨_,rfl,?_,Jbk (K4 U om) (Jq J),wj⟩;rw[Jbj,Jc,<-w1];unfold addAt;rw[Qjm g1]
 have send1:∀ {f:List Qa}{R:Nat}(a:Int),b<=R->R<200000000->FR R f->f.length=co.length->0<=a->a<(i:Int)->∃ d,J5 n t (toR vs) f (toF s.T) (toR s.Y) (toR s.P) a cF=some (t,toR vs,toF s.T,d)/\rv d=addAt (rv f) a (fv cF)/\FR (R+129+1) d/\d.length=co.length:=fun {f R} a hb0 hb2 hk hl h0 h1=>by obtain⟨y,g1,g2⟩:=Q6w (l:=f) h0 om;have C:=hk y (uj g1);have J:=Yz (qw_fv C om) u;unfold J5;rw[g2,sbind,Vy (k:=R) hn om om C (Wf kcF hb0),sbind,sbind];refine⟨_,rfl,?_,Jbk (K4 hk om) (Jq J),by rw[wj];exact hl⟩;rw[Jbj,Jc];unfold addAt;rw[Qjm g1]
 by_cases o6:x.Op=6
 . simp only[oq o6]
   obtain⟨d,m,v,B,F⟩:=one x.A (-fv cF) 129 (dA om).1 (dA om).2 (by rw[Qjk];exact u) oz oz;rw[Qg7 hn (Fk_Fw kcF om),sbind,m,sbind];exact⟨d,rfl,wrap v B om,F⟩
 simp only[ol o6];by_cases o7:x.Op=7
 . simp only[oq o7]
   obtain⟨f,m,v,B,F⟩:=send0 x.A (dA om).1 (dA om).2;obtain⟨d,G,A,f3,f4⟩:=send1 x.B om om B F (dB om).1 (dB om).2;rw[v] at A;rw[m,sbind];simp only[];rw[G,sbind];exact⟨d,rfl,wrap A f3 om,f4⟩
 simp only[ol o7];by_cases o8:x.Op=8
 . simp only[oq o8]
   obtain⟨f,m,v,B,F⟩:=send0 x.A (dA om).1 (dA om).2;obtain⟨d,G,A,f3,f4⟩:=Quq (n:=n) (t:=t) (done:=toR vs) (gT:=toF s.T) (gY:=toR s.Y) (gP:=toR s.P) (a:=x.B) (cF:=toF (-fv cF)) (kc:=129) hn oz om B (Jq (by rw[Qjk];exact u)) (dB om).1 (by have:=(dB om).2;omega);rw[v,Jc] at A;rw[m,sbind,Qg7 hn (Fk_Fw kcF om),sbind];simp only[];rw[G,sbind];exact⟨d,rfl,wrap A f3 om,om⟩
 simp only[ol o8];by_cases o9:x.Op=9
 . simp only[oq o9]
   have T:=Xl u qB;have q2:=Xl u qA;obtain⟨f,d,m,G,A,f3⟩:=two x.A x.B (fv cF*vb) (fv cF*va) 258 258 (dA om).1 (dA om).2 T oz oz (dB om).1 (dB om).2 q2 oz oz;rw[gB om,sbind,Xo (k:=b) hn om om kcF (Jq om),sbind,Jc,m,sbind];simp only[];rw[gA om,sbind,Xo (k:=b) hn om om kcF (Jq om),sbind,Jc,G,sbind];exact⟨d,rfl,A,f3⟩
 simp only[ol o9];by_cases Z:x.Op=10
 . simp only[oq Z]
   unfold Qhn;have T:=Qpn u qB;have q2:=Xl T qI;have q3:qw (-(fv cF / vb*vi))<=387:=by rw[Qjk];omega
   obtain⟨f,d,m,G,A,f3⟩:=two x.A x.B (fv cF / vb) (-(fv cF / vb*vi)) 258 387 (dA om).1 (dA om).2 T oz oz (dB om).1 (dB om).2 q3 oz oz;have j:∃ ok,Qb8 n cF (toF vb)=some (toF (fv cF / vb),ok):=by
    rw[Qg9 (k:=b) hn om om kcF (Jq om),Jc];by_cases M:vb=0
    . rw[oq M,M,show fv cF / 0=0 by rw[da,Rat.inv_zero,Rat.mul_zero]];exact⟨_,rfl⟩
    . rw[ol M];exact⟨_,rfl⟩
   obtain⟨ok,j⟩:=j;rw[gI,sbind,gB om,sbind,j,sbind];simp only[];rw[m,sbind,Xo (k:=258) hn om om (Jq om) (Jq om),sbind,Jc,Jc,Qg7 hn (Fk_Fw (Jq (k:=387) om) om),sbind,Jc];simp only[];rw[G,sbind,sbind];exact⟨d,rfl,A,f3⟩
 simp only[ol Z];by_cases N:x.Op=11
 . simp only[oq N]
   unfold Qho;simp only[jn_eq,bifd];have hB8:x.B.natAbs<=8:=by unfold mayR at S;rw[ol (show ¬ x.Op=1 by omega),ol (show ¬ x.Op=2 by omega),ol (show ¬ x.Op=3 by omega),ol (show ¬ x.Op=4 by omega),ol (show ¬ x.Op=6 by omega),oq N] at S;have V:=S.2.2;omega
   have qi:=Q20 (z:=x.B) hB8
   have key:∀ w:Rat,qw w<=1100->turnQ va vi x.B=w->∃ d,((Ky n x.B).bind λr22=>(Wn n r22 (toF w)).bind λr24=>(Wn n cF r24).bind λr26=>(J5 n t (toR vs) co (toF s.T) (toR s.Y) (toR s.P) x.A r26).bind λI=>(some (I.1,I.2.1,I.2.2.1,I.2.2.2):Option (Qp×List Qa×Qa×List Qa)))=some (t,toR vs,toF s.T,d)/\BkW (b+3000) d ⟨addAt s.co x.A (fv cF*((x.B:Rat)*turnQ va vi x.B)),s.T,s.Y,s.P⟩/\d.length=co.length:=λw hw e=>by
    have T:=Xl qi hw;have q2:=Xl u T;obtain⟨d,m,v,B,F⟩:=one x.A (fv cF*((x.B:Rat)*w)) 1230 (dA om).1 (dA om).2 om oz oz;rw[Qlz hn om om,sbind,Xo (k:=1200) hn om om (Jq om) (Jq om),sbind,Jc,Jc,Xo (k:=b+1200) hn om om (Wf kcF om) (Jq om),sbind,Jc,m,sbind,e];exact⟨d,rfl,wrap v B om,F⟩
   rw[gI,sbind,X4 hn,sbind];by_cases h0:0<x.B
   . have hw1:=Qwq qA (e:=x.B - 1) om
     obtain⟨d,k1,k2,Y⟩:=key (va ^ (x.B - 1)) om (by unfold turnQ;rw[oq h0]);rw[oq h0,gA om,sbind,w64 om om,Qnv (k:=129) hn om om (Jq qA),sbind,Jc,ol (show ¬(x.B - 1 < -8\/8<x.B - 1\/(x.B - 1<0/\va=0)) by omega)];simp only[];rw[k1,sbind];exact⟨d,rfl,k2,Y⟩
   . rw[ol h0]
     by_cases V:x.B<0
     . have hw1:=Qpn qI qA
       have j:∃ ok,Qb8 n (toF vi) (toF va)=some (toF (vi / va),ok):=by
        rw[Qg9 (k:=129) hn om om (Jq om) (Jq om),Jc,Jc];by_cases M:va=0
        . rw[oq M,M,show vi / 0=0 by rw[da,Rat.inv_zero,Rat.mul_zero]];exact⟨_,rfl⟩
        . rw[ol M];exact⟨_,rfl⟩
       obtain⟨ok,j⟩:=j;obtain⟨d,k1,k2,Y⟩:=key (vi / va) om (by unfold turnQ;rw[ol h0,oq V]);rw[oq V,gA om,sbind,j,sbind];simp only[];rw[k1,sbind];exact⟨d,rfl,k2,Y⟩
     . obtain⟨d,k1,k2,Y⟩:=key 0 (by rw[Y8];omega) (by unfold turnQ;rw[ol h0,ol V])
       rw[ol V,k1,sbind];exact⟨d,rfl,k2,Y⟩
 simp only[ol N];exact⟨co,rfl,⟨w1,kmono,om,Q8 O om,Q8 P om⟩,rfl⟩
set_option maxRecDepth 100000
def pullQ(lim:Int)(code:List Q2)(vs:List Rat):Nat->BkS->Nat ⊕ BkS
 | 0,s=>.inr s
 | i+1,s=>match code[i]? with
   | none=>.inr s
   | some x=>if (qz (s.co.getD i 0):Int)<=lim then pullQ lim code vs i (Zc x (s.co.getD i 0) (vs.getD i 0) vs s) else .inl i
def coQ(m:Nat)(outs:List Int)(w:List Rat):List Rat:=(List.zip outs w).foldl (λco z=>addAt co z.1 z.2) (List.replicate m 0)
def backQ(t:Qp)(lim:Int)(T:Rat)(Y P w:List Rat):(Int×Int×Nat) ⊕ (Rat×List Rat×List Rat):=
 match runQ lim T Y P t.Code 0 [] with
 | .inl e=>.inl (e.1,0,e.2)
 | .inr vs=>match pullQ lim t.Code vs vs.length ⟨coQ vs.length t.Aw w,0,List.replicate t.Ax.toNat 0,List.replicate t.A1.toNat 0⟩ with
   | .inl i=>.inl (6,2,i)
   | .inr s=>match fitQ lim (s.T::(s.Y++s.P)) 0 with
     | some j=>.inl (6,3,j)
     | none=>.inr (s.T,s.Y,s.P)
theorem Q9e{n k:Nat}{t:Qp}{p:V5}{bits:Int}(hn:big<=n)(i:129<=k)(hk:k<1048576)(j:Q0d n k t)(d:Fk k p.T)(f:FR k p.Y)(a:FR k p.P)(m:(p.Y.length:Int)=t.Ax)(hp:(p.P.length:Int)=t.A1):
 Qjx n t p bits=some (match runQ (min (max bits 0) 4096) (fv p.T) (rv p.Y) (rv p.P) t.Code 0 [] with | .inl e=>([],⟨e.1,0,0,(e.2:Int)⟩) | .inr l=>(toR l,⟨0,0,0,0⟩)):=by
 obtain⟨r,h,w⟩:=j;obtain⟨⟨q,s⟩,⟨u,v⟩,x,A⟩:=r.1;have eT:=qw_fv d om;have eY:=QR_rv f om;have eP:=QR_rv a om;unfold Qjx Qga X5;rw[Vs hn (Fk_Fw d om),sbind,Qct hn om f om,sbind,Qct hn om a om,sbind,sbind,sbind];simp only[];obtain⟨B,e⟩:=Jbe (g:=⟨⟨0,0⟩,min (max bits 0) 4096⟩) hn i hk r h w eT eY eP (by rw[Jn];exact m) (by rw[Jn];exact hp) (by simp only[];omega);rw[e,sbind];simp only[];cases runQ (min (max bits 0) 4096) (fv p.T) (rv p.Y) (rv p.P) t.Code 0 []<;>rfl
theorem Jbm(m:Nat):rv (List.replicate m (⟨⟨false,[]⟩,[]⟩:Qa))=List.replicate m 0:=by unfold rv;rw[List.map_replicate];congr 1
theorem Jbn(m k:Nat):FR k (List.replicate m (⟨⟨false,[]⟩,[]⟩:Qa)):=λx a=>by rw[(jw.1 a).2];exact⟨(λ_ h=>by cases h),yb _,(λ_ h=>by cases h),yb _⟩
theorem Qww{n:Nat}{a b:Nat}(hn:big<=n)(d:a<=300)(hb:b<=300):Qkq n (a:Int) (b:Int)=some (toF 0,toR (List.replicate a 0),toR (List.replicate b 0)):=by unfold Qkq;rw[X4 hn,sbind,Qb6 hn d,sbind,Qb6 hn hb,sbind]
theorem Qjn{k m:Nat}(hk:1<=k):QR k (List.replicate m 0):=λq a=>by rw[(jw.1 a).2,Y8];exact hk
theorem Jg0{n:Nat}{t:Qp}{vs:List Rat}{F:Qa×List Qa×List Qa}(hn:big<=n)(U:tapeR t)(V:QR 129 vs)(W:vs.length=t.Code.length):∀(i:Nat) (m:Nat) (co:List Qa) (s:BkS) (g:Qj) (b:Nat),i<=vs.length->i<m->129<=b->b+i*3000<100000000->BkW b co s->co.length=vs.length->(s.Y.length:Int)=t.Ax->(s.P.length:Int)=t.A1->g.limit<=4096 ->
 ∃ C f,C.limit=g.limit/\loopM (λ(a:Qp×(List Qa)×(List Qa)×Qa×(List Qa)×(List Qa)×Qj×Int)=>
  bif decide ((0:Int)<=a.2.2.2.2.2.2.2) then (
   (getI a.2.2.1 a.2.2.2.2.2.2.2).bind λJ=>
   (Vl n J).bind λI=>
   (Wb n a.2.2.2.2.2.2.1 I).bind λB=>
   bif !B.1 then (
    some (Lp.out (Lp.out (((⟨F.1,F.2.1,F.2.2⟩:V8),(⟨(6:Int),0,(2:Int),a.2.2.2.2.2.2.2⟩:Qe))))))
   else (
    (Zn n a.1 a.2.1 a.2.2.1 a.2.2.2.1 a.2.2.2.2.1 a.2.2.2.2.2.1 a.2.2.2.2.2.2.2).bind λd=>
    some (Lp.go (d.1,d.2.1,d.2.2.2.1,d.2.2.1,d.2.2.2.2.1,d.2.2.2.2.2,B.2,wrap64 (a.2.2.2.2.2.2.2 - (1:Int))))))
  else (
   some (Lp.out (Lp.go (a.1,a.2.1,a.2.2.1,a.2.2.2.1,a.2.2.2.2.1,a.2.2.2.2.2.1,a.2.2.2.2.2.2.1))))) m (t,toR vs,co,toF s.T,toR s.Y,toR s.P,g,(i:Int) - 1) =
   some (match pullQ g.limit t.Code vs i s with | .inl j=>Lp.out (((⟨F.1,F.2.1,F.2.2⟩:V8),(⟨6,0,2,(j:Int)⟩:Qe))) | .inr z=>Lp.go (t,toR vs,f,toF z.T,toR z.Y,toR z.P,C)) /\
   ∀ z,pullQ g.limit t.Code vs i s=.inr z->qw z.T<=b+i*3000/\QR (b+i*3000) z.Y/\QR (b+i*3000) z.P/\z.Y.length=s.Y.length/\z.P.length=s.P.length:=by
 intro i
 induction i with
 | zero=>
   intro m co s g b _ L A _ l _ _ _ _;refine⟨g,co,rfl,?_,?_⟩;simp only[pullQ];refine Vv ?_ L;rw[oj (show ¬(0:Int)<=((0:Nat):Int) - 1 by omega),bifF];intro z v;simp only[pullQ] at v;cases v;exact⟨by have:=l.t;omega,Q8 l.y om,Q8 l.p om,rfl,rfl⟩
 | succ i X=>
   intro m co s g b hi L A R l H M hp T;have E:t.Code[i]?=some (t.Code[i]' om):=oi _;generalize t.Code[i]' om=x at E;obtain⟨cF,e⟩:∃ cF,co[i]?=some cF:=⟨co[i]' om,oi _⟩
   have K:s.co.getD i 0=fv cF:=by rw[<-l.c];exact Qjm e
   have kcF:Fk b cF:=l.k cF (uj e);have hq:=qw_fv kcF om;obtain⟨m,rfl⟩:∃ q,m=q+1:=⟨m - 1,om⟩
   simp only[pullQ,E];by_cases u:(qz (s.co.getD i 0):Int)<=g.limit;have S:qw (s.co.getD i 0)<=129:=by have:=qw_qz (q:=s.co.getD i 0) (b:=4096) om;omega
   obtain⟨f,N,O,e3⟩:=Jbl (i:=i) hn A om l E (U.2.1 i x E) V om H S M hp;obtain⟨l1,Z,l3⟩:=Qmi (x:=x) (c:=s.co.getD i 0) (r:=vs.getD i 0) (vs:=vs) (s:=s);simp only[oq u];rw[K] at u;obtain⟨C,G,P,Q,f3⟩:=X m f _ (noteG g (fv cF)) (b+3000) om om om om O om (by rw[Z];exact M) (by rw[l3];exact hp) T;refine⟨C,G,P,?_,λz v=>?_⟩;refine(Qbp ?_).trans Q;rw[show((i+1:Nat):Int) - 1=(i:Int) by omega,oo (show(0:Int)<=(i:Int) by omega),bifT,Jd e,sbind,Vs hn (Fk_Fw kcF om),sbind,Qog hn om,sbind];simp only[];rw[oo u,ov,bifF,N,sbind,w64 om om];obtain⟨k1,k2,Y,k4,k5⟩:=f3 z v;exact⟨om,Q8 k2 om,Q8 Y om,om,om⟩;simp only[ol u];rw[K] at u;refine⟨g,co,rfl,?_,λz v=>by cases v⟩;refine Vv ?_ om;rw[show((i+1:Nat):Int) - 1=(i:Int) by omega,oo (show(0:Int)<=(i:Int) by omega),bifT,Jd e,sbind,Vs hn (Fk_Fw kcF om),sbind,Qog hn om,sbind];simp only[];rw[oj u,ow,bifT]
theorem Q6x{n k kw:Nat}{t:Qp}{p:V5}{w:List Qa}{bits:Int}(hn:big<=n)(h1:129<=k)(hk:k<1048576)(H:1<=kw)(hkw:kw<=1000000)(R:Q0d n k t)(hT:Fk k p.T)(hY:FR k p.Y)(hP:FR k p.P)(hw:FR kw w)(hy:(p.Y.length:Int)=t.Ax)(hp:(p.P.length:Int)=t.A1)(hwl:w.length=t.Aw.length):
 Qm5 n t p w bits=some (match backQ t (min (max bits 0) 4096) (fv p.T) (rv p.Y) (rv p.P) (rv w) with | .inl e=>(⟨toF 0,[],[]⟩,⟨e.1,0,e.2.1,(e.2.2:Int)⟩) | .inr z=>(⟨toF z.1,toR z.2.1,toR z.2.2⟩,⟨0,0,0,0⟩)) /\
 (∀ e,backQ t (min (max bits 0) 4096) (fv p.T) (rv p.Y) (rv p.P) (rv w)=.inl e->e.1≠0)/\∀ z,backQ t (min (max bits 0) 4096) (fv p.T) (rv p.Y) (rv p.P) (rv w)=.inr z->QR 129 z.2.1/\QR 129 z.2.2/\(z.2.1.length:Int)=t.Ax/\(z.2.2.length:Int)=t.A1:=by
 have hd:=R.r.1;obtain⟨⟨d1,d2⟩,⟨d3,d4⟩,d5,d6⟩:=hd;unfold Qm5 backQ;have z0:=Qww (n:=n) (a:=0) (b:=0) hn oz oz;rw[show((0:Nat):Int)=0 from rfl] at z0;rw[z0,sbind,oo (show(w.length:Int)=(t.Aw.length:Int) by omega),ov,bifF,Q9e hn h1 hk R hT hY hP hy hp,sbind];cases hr:runQ (min (max bits 0) 4096) (fv p.T) (rv p.Y) (rv p.P) t.Code 0 [] with
 | inl e=>
   have hk:=Ql2 hr;simp only[];rw[K9 om,ow,bifT];exact⟨rfl,(λg hg=>by cases hg;show e.1≠0;omega),λz hz=>by cases hz⟩
 | inr vs=>
   obtain⟨l1,l2⟩:=Qsd om (λ_ h=>by cases h) hr;have hl:vs.length=t.Code.length:=by simpa using l1
   simp only[];rw[Kz,ov,bifF,Jl,Qfd om om,sbind];have zz:=Qww (n:=n) (a:=t.Ax.toNat) (b:=t.A1.toNat) hn om om;rw[Int.toNat_of_nonneg om,Int.toNat_of_nonneg d3] at zz;rw[zz,sbind]
   have J:∀(os:List Int) (i:Nat) (co:List Qa) (q:List Rat) (b:Nat) (K:Lp (Qp×(List Qa)×(List Qa)×Qa) (V8×Qe)->Option (V8×Qe)),(∀(j:Nat) o,os[j]?=some o->(0<=o/\o<(vs.length:Int))/\t.Aw[i+j]?=some o)->i+os.length=t.Aw.length->rv co=q->FR b co->co.length=vs.length->b+os.length*(kw+1)<1000000000 ->
    ∃ f,(rangeL (λ(Y:Nat) (x28:Int) (A:Qp×(List Qa)×(List Qa)×Qa)=>
      (getI w (Y:Int)).bind λy30=>
      (J5 n A.1 A.2.1 A.2.2.1 A.2.2.2 (toR (List.replicate t.Ax.toNat 0)) (toR (List.replicate t.A1.toNat 0)) x28 y30).bind λv=>
      some (Lp.go (v.1,v.2.1,v.2.2.2,v.2.2.1))) os i (t,toR vs,co,toF 0)).bind K=K (.go (t,toR vs,f,toF 0))/\rv f=(List.zip os ((rv w).drop i)).foldl (λco z=>addAt co z.1 z.2) q/\FR (b+os.length*(kw+1)) f/\f.length=vs.length:=by
    intro os
    induction os with
    | nil=>
      intro i co q b K _ _ e hb hc _;exact⟨co,rfl,by rw[List.zip_nil_left];exact e,K4 hb om,hc⟩
    | cons o os ih=>
      intro i co q b K hm hi e hb hc W;rw[xn] at hi W;obtain⟨⟨o1,o2⟩,o3⟩:=hm 0 o rfl;have C:i<w.length:=om
      have L:w[i]?=some w[i]:=oi C;have M:=hw w[i] (xa C);have hdrop:(rv w).drop i=fv w[i]::(rv w).drop (i+1):=by
       have G:i<(rv w).length:=by rw[Jn];exact C
       rw[xe G];congr 1;exact List.getElem_map _
      generalize w[i]=wi at L M hdrop;have I:(os.length+1)*(kw+1)=os.length*(kw+1)+(kw+1):=ud _ _;obtain⟨U,s1,s2,s3,s4⟩:=Quq (n:=n) (t:=t) (done:=toR vs) (gT:=toF 0) (gY:=toR (List.replicate t.Ax.toNat 0)) (gP:=toR (List.replicate t.A1.toNat 0)) (a:=o) hn H om hb M o1 om
      obtain⟨f,V,P,f3,f4⟩:=ih (i+1) U (addAt q o (fv wi)) (b+kw+1) K (λj o' Q=>by
       have:=hm (j+1) o' (by simpa using Q)
       rwa [show i+(j+1)=i+1+j by omega] at this) om (by rw[s2,e]) s3 om om
      refine⟨f,?_,?_,K4 f3 (by rw[xn,I];omega),f4⟩
      . simp only[rangeL]
        rw[Jd L,sbind,s1,sbind];exact V
      . rw[hdrop,List.zip_cons_cons,db]
        exact P
   have hkm:t.Aw.length*(kw+1)<=6*(kw+1):=xc _ om
   obtain⟨f,V,P,f3,f4⟩:=J t.Aw 0 (List.replicate vs.length ⟨⟨false,[]⟩,[]⟩) (List.replicate vs.length 0) 129 (lpK λ(B:Qp×(List Qa)×(List Qa)×Qa)=>
    (X5 bits).bind λZ=>
    (loopM (λ(d:Qp×(List Qa)×(List Qa)×Qa×(List Qa)×(List Qa)×Qj×Int)=>
     bif decide ((0:Int)<=d.2.2.2.2.2.2.2) then (
      (getI d.2.2.1 d.2.2.2.2.2.2.2).bind λy58=>
      (Vl n y58).bind λr60=>
      (Wb n d.2.2.2.2.2.2.1 r60).bind λN=>
      bif !N.1 then (
       some (Lp.out (Lp.out (((⟨toF 0,toR (List.replicate 0 0),toR (List.replicate 0 0)⟩:V8),(⟨(6:Int),0,(2:Int),d.2.2.2.2.2.2.2⟩:Qe))))))
      else (
       (Zn n d.1 d.2.1 d.2.2.1 d.2.2.2.1 d.2.2.2.2.1 d.2.2.2.2.2.1 d.2.2.2.2.2.2.2).bind λs=>
       some (Lp.go (s.1,s.2.1,s.2.2.2.1,s.2.2.1,s.2.2.2.2.1,s.2.2.2.2.2,N.2,wrap64 (d.2.2.2.2.2.2.2 - (1:Int))))))
     else (
      some (Lp.out (Lp.go (d.1,d.2.1,d.2.2.1,d.2.2.2.1,d.2.2.2.2.1,d.2.2.2.2.2.1,d.2.2.2.2.2.2.1))))) n (B.1,B.2.1,B.2.2.1,B.2.2.2,toR (List.replicate t.Ax.toNat 0),toR (List.replicate t.A1.toNat 0),Z,wrap64 ((vs.length:Int) - (1:Int)))).bind (lpK λ(r:Qp×(List Qa)×(List Qa)×Qa×(List Qa)×(List Qa)×Qj)=>
    (Qo1 (⟨r.2.2.2.1,r.2.2.2.2.1,r.2.2.2.2.2.1⟩:V8)).bind λr66=>
    (Xq n r.2.2.2.2.2.2 r66).bind λO=>
    bif !O.2.1 then (
     some ((⟨toF 0,toR (List.replicate 0 0),toR (List.replicate 0 0)⟩:V8),(⟨(6:Int),0,(3:Int),O.1⟩:Qe)))
    else (
     some ((⟨r.2.2.2.1,r.2.2.2.2.1,r.2.2.2.2.2.1⟩:V8),(⟨0,0,0,0⟩:Qe))))) (λj o Q=>by rw[xg];exact⟨by have:=R.r.2.2 o (Jw Q);omega,Q⟩) om (Jbm _) (Jbn _ _) oc om
   rw[dy] at P;have X:BkW (129+t.Aw.length*(kw+1)) f ⟨coQ vs.length t.Aw (rv w),0,List.replicate t.Ax.toNat 0,List.replicate t.A1.toNat 0⟩:=⟨P,f3,by show qw 0<=_;rw[Y8];omega,Qjn om,Qjn om⟩
   obtain⟨g',co2,p1,p2,p3⟩:=Jg0 (F:=(toF 0,toR (List.replicate 0 0),toR (List.replicate 0 0))) hn R.r l2 hl vs.length n f _ ⟨⟨0,0⟩,min (max bits 0) 4096⟩ _ (xm _) (by unfold big at hn;omega) om om X f4 oh oh (by show min (max bits 0) 4096<=4096;omega);refine⟨?_,?_,?_⟩
   . refine Eq.trans V ?_
     rw[Wv];unfold X5;rw[sbind,w64 om om];simp only[] at p2 |-;rw[p2,sbind];cases hp:pullQ (min (max bits 0) 4096) t.Code vs vs.length ⟨coQ vs.length t.Aw (rv w),0,List.replicate t.Ax.toNat 0,List.replicate t.A1.toNat 0⟩ with
     | inl j=>rfl
     | inr z=>
       obtain⟨b1,b2,b3,S,T⟩:=p3 z hp;simp only[ue] at S T;simp only[];rw[Wv];unfold Qo1;simp only[];rw[J9 (by rw[Jl];simp;omega) (by rw[Jl];simp;omega),sbind,J9 (by simp only[yd,Jl,xn,ye];omega) (by simp only[yd,Jl,xn,ye];omega),sbind,sbind];have el:[toF z.T]++toR z.Y++toR z.P=toR (z.T::(z.Y++z.P)):=by unfold toR;simp
       obtain⟨g2,r1,r2⟩:=Qtd (g:=g') (l:=z.T::(z.Y++z.P)) hn (λx u=>by
        rcases xu.1 u with rfl | u
        . omega
        . rcases yr.1 u with u | u
          . have:=b2 x u;omega
          . have:=b3 x u;omega)
       rw[el,r2,sbind,p1];simp only[];cases fitQ (min (max bits 0) 4096) (z.T::(z.Y++z.P)) 0<;>rfl
   . intro e m
     cases hp:pullQ (min (max bits 0) 4096) t.Code vs vs.length ⟨coQ vs.length t.Aw (rv w),0,List.replicate t.Ax.toNat 0,List.replicate t.A1.toNat 0⟩ with
     | inl j=>rw[hp] at m;cases m;show(6:Int)≠0;decide
     | inr z=>
       rw[hp] at m;simp only[] at m;cases E:fitQ (min (max bits 0) 4096) (z.T::(z.Y++z.P)) 0 with
       | some j=>rw[E] at m;cases m;show(6:Int)≠0;decide
       | none=>rw[E] at m;cases m
   . intro e m
     cases hp:pullQ (min (max bits 0) 4096) t.Code vs vs.length ⟨coQ vs.length t.Aw (rv w),0,List.replicate t.Ax.toNat 0,List.replicate t.A1.toNat 0⟩ with
     | inl j=>rw[hp] at m;cases m
     | inr z=>
       obtain⟨b1,b2,b3,S,T⟩:=p3 z hp;simp only[ue] at S T;rw[hp] at m;simp only[] at m;cases E:fitQ (min (max bits 0) 4096) (z.T::(z.Y++z.P)) 0 with
       | some j=>rw[E] at m;cases m
       | none=>
         rw[E] at m;cases m;have hq:=Qmh om E;exact⟨λx u=>hq x (.tail _ (yn _ u)),λx u=>hq x (.tail _ (yv _ u)),by show(z.Y.length:Int)=_;omega,by show(z.P.length:Int)=_;omega⟩
set_option maxRecDepth 100000
def bslQ(As:List (List Rat))(b H:Rat)(W:List Rat)(i:Nat)(ls:List (List Rat)):List Rat:=
 scaleQ H (mixQ ((As.drop (i+1)).map λa=>a.getD i 0) ls (scaleQ b W))
def bstageQ(t:Qp)(lim:Int)(T H:Rat)(P y:List Rat)(c:Rat)(k:List Rat)(i:Nat):Qe ⊕ (List Rat×List Rat):=
 match fitQ lim k 0 with
 | some j=>.inl ⟨6,0,(i:Int),300+(j:Int)⟩
 | none=>match backQ t lim (T+H*c) y P k with
   | .inl e=>.inl ⟨e.1,0,(i:Int),(e.2.2:Int)⟩
   | .inr z=>.inr (z.2.1,z.2.2)
structure BdS where
 ls:List (List Rat)
 Y:List Rat
 P:List Rat
def bstagesQ(t:Qp)(s:Q1)(lim:Int)(T H:Rat)(P W:List Rat)(yss:List (List Rat)):Nat->BdS->Qe ⊕ BdS
 | 0,z=>.inr z
 | i+1,z=>match bstageQ t lim T H P (yss.getD i []) ((rv s.C).getD i 0) (bslQ (s.A.map rv) ((rv s.B).getD i 0) H W i z.ls) i with
   | .inl f=>.inl f
   | .inr g=>bstagesQ t s lim T H P W yss i ⟨g.1::z.ls,addQ z.Y g.1,addQ z.P g.2⟩
def bdoQ(t:Qp)(s:Q1)(lim:Int)(T H:Rat)(P W:List Rat)(yss:List (List Rat)):Qe ⊕ (List Rat×List Rat):=
 match bstagesQ t s lim T H P W yss s.B.length ⟨[],W,List.replicate P.length 0⟩ with
 | .inl f=>.inl f
 | .inr z=>match fitQ lim z.Y 0 with
   | some j=>.inl ⟨6,0,(s.B.length:Int),300+(j:Int)⟩
   | none=>match fitQ lim z.P 0 with
     | some j=>.inl ⟨6,0,(s.B.length:Int)+1,300+(j:Int)⟩
     | none=>.inr (z.Y,z.P)
theorem Jko{out l:List Rat}{c:Rat}:addQ out (scaleQ c l)=List.zipWith (λx o=>o+c*x) l out:=by unfold addQ scaleQ;rw[tx,List.zipWith_comm]
theorem Qys{n k:Nat}{a b c d:List Qa}(hn:big<=n)(j:1<=k)(hk:k<1099511627776)(l:FR k a)(hb:FR k b)(m:FR k c)(hd:FR k d)(q:a.length<=1000000)(i:b.length<=1000000):
 Qma n ⟨a,b⟩ ⟨c,d⟩=some (if a.length=c.length/\b.length=d.length then (⟨toR (addQ (rv a) (rv c)),toR (addQ (rv b) (rv d))⟩,true) else (⟨[],[]⟩,false)):=by
 unfold Qma;rw[Qb2 hn j hk l m q,sbind,Qb2 hn j hk hb hd i,sbind];simp only[jn_eq];by_cases e:a.length=c.length;by_cases f:b.length=d.length;rw[oq e,oq f,oq ⟨e,f⟩];rfl;rw[oq e,ol f,ol (λh:a.length=c.length/\b.length=d.length=>f h.2)];rfl;rw[ol e,ol (λh:a.length=c.length/\b.length=d.length=>e h.1)];rfl
section
variable {n k:Nat}{p:Qg}{t h:Qa}{y w:List Qa}{g:Qj}{md:Jo}{sm:Q7}
theorem Qx2{l:List Rat}{ys:List (List Qa)}{x2:Int}(hn:big<=n)(i:QR 1099511627775 l)(m:l.length<=1000):
 ∃ a,a.limit=g.limit/\Xr n p t h w md ys sm g (toR l) x2=some (match fitQ g.limit l 0 with | none=>(⟨0,0,0,0⟩,a) | some j=>(⟨6,0,x2,300+(j:Int)⟩,a)):=by
 obtain⟨a,d,e⟩:=Qtd (g:=g) hn i;refine⟨a,d,?_⟩;unfold Xr;rw[e,sbind];cases f:fitQ g.limit l 0 with
 | none=>rfl
 | some j=>
   have:=Qjl f;simp only[ow,bifT];rw[w64 om om]
theorem Jbo{i:Nat}{b:Qa}{ls:List (List Rat)}{ys:List (List Qa)}(hn:big<=n)(h0:129<=k)(hk:k<8000)(ok:PrbOK n k p t h y)(Y:FR k w)(hwl:w.length=y.length)(hb:p.Aq.B[i]?=some b)(hls:ls.length+(i+1)=p.Aq.B.length)
 (f:∀ a∈ls,QR 129 a/\a.length=y.length) (N:∀(q:Nat) a,ls[q]?=some a->ys[i+1+q]?=some (toR a)) :
 Qbu n p t h w md ys sm g (i:Int)=some (toR (bslQ (p.Aq.A.map rv) (fv b) (fv h) (rv w) i ls))/\QR (21*k) (bslQ (p.Aq.A.map rv) (fv b) (fv h) (rv w) i ls)/\(bslQ (p.Aq.A.map rv) (fv b) (fv h) (rv w) i ls).length=w.length:=by
 obtain⟨⟨d1,d2⟩,⟨d3,d4⟩,d5,d6⟩:=ok.tp.r.1;obtain⟨⟨g1,g2⟩,g3,g4,g5,g6⟩:=ok.sr.2.1;have hyl:=ok.yl;have A:=ok.sw.b b (Jw hb);have I:=qw_fv A om;have H:=qw_fv ok.hk om;have Z:=Ql0 I (QR_rv Y om);have l0:(scaleQ (fv b) (rv w)).length=w.length:=by rw[Z1,Jn]
 have loop:∀(r:List (List Qa)) (ls:List (List Rat)) (j m c:Nat) (out:List Rat),r.length=ls.length->j+r.length=p.Aq.B.length->(∀(q:Nat) a,r[q]?=some a->p.Aq.A[j+q]?=some a)->(∀(q:Nat) a,ls[q]?=some a->ys[j+q]?=some (toR a))->(∀ a∈ls,QR 129 a/\a.length=y.length)->i<j->QR c out->1<=c->c+r.length*(k+130)<100000000->out.length=y.length->r.length<m ->
  loopM (λ(d:(List Qa)×Int)=>
   bif decide (d.2<(p.Aq.B.length:Int)) then (
    (getI p.Aq.A d.2).bind λR=>
    (getI R (i:Int)).bind λS=>
    (getI ys d.2).bind λT=>
    (Y9 n S T).bind λP=>
    (X8 n ([d.1,P]:List (List Qa))).bind λQ=>
    some (Lp.go (Q.1,wrap64 (d.2+(1:Int)))))
   else (
    some (Lp.out d.1))) m (toR out,(j:Int))=some (toR (mixQ (r.map λa=>(rv a).getD i 0) ls out)):=by
  intro r
  induction r with
  | nil=>
    intro ls j m c out s L _ _ _ _ _ _ _ _ F;rw[ye] at s L F;have:ls=[]:=xd s.symm;subst this;refine Vv ?_ F;rw[oj om,bifF];rfl
  | cons a r ih=>
    intro ls j m c out s L U V G hij C hc1 J hol F;rw[xn] at s L F J;obtain⟨l,ls,rfl⟩:∃ l O,ls=l::O:=by
     cases ls with
     | nil=>simp at s
     | cons l ls=>exact⟨l,ls,rfl⟩
    rw[xn] at s;obtain⟨m,rfl⟩:∃ q,m=q+1:=⟨m - 1,om⟩
    have eA:p.Aq.A[j]?=some a:=U 0 a rfl;have eY:ys[j]?=some (toR l):=V 0 l rfl;obtain⟨lq,ll⟩:=G l (.head _);have hal:=g6 j a eA;obtain⟨x,M⟩:∃ x,a[i]?=some x:=⟨a[i]' om,oi _⟩
    have E:=ok.sw.a a (Jw eA) x (Jw M);have X:(r.length+1)*(k+130)=r.length*(k+130)+(k+130):=ud _ _;have q1:=Ql0 (qw_fv E om) lq;have q2:=Ql1 C q1;have e1:(addQ out (scaleQ (fv x) l)).length=y.length:=by rw[Zu,Z1];omega
    refine(Qbp ?_).trans (ih ls (j+1) m (c+(k+129)+1) (addQ out (scaleQ (fv x) l)) om om (λq u e=>by have:=U (q+1) u (by simpa using e);rwa [show j+(q+1)=j+1+q by omega] at this) (λq u e=>by have:=V (q+1) u (by simpa using e);rwa [show j+(q+1)=j+1+q by omega] at this) (λu e=>G u (.tail _ e)) om q2 om om e1 om) |>.trans ?_
    simp only[];rw[oo om,bifT,Jd eA,sbind,Jd M,sbind,Jd eY,sbind,Qab (k:=k) hn om om E (K4 (K2 lq) h0) (by rw[Jl];omega),sbind,Vj,Qb2 (k:=c+(k+129)) hn om om (K2 (Q8 C om)) (K2 (Q8 q1 om)) (by rw[Jl];omega),sbind,Jl,Jl,Z1,oq om,Vj,Vj,w1 om];simp only[yz,mixQ];rw[Jko,Qjm M]
 have B:(p.Aq.A.drop (i+1)).length=ls.length:=by rw[uz];omega
 have hm8:ls.length*(k+130)<=8*(k+130):=xc _ om;have e0:=loop (p.Aq.A.drop (i+1)) ls (i+1) n (k+k) (scaleQ (fv b) (rv w)) B om (λq a e=>by rwa [vk] at e) N f om Z om (by rw[B];omega) om (by unfold big at hn;omega);have ea:((p.Aq.A.map rv).drop (i+1)).map (λa=>a.getD i 0)=(p.Aq.A.drop (i+1)).map λa=>(rv a).getD i 0:=by
  rw[<-gn,yt];rfl
 have K:QR k ((p.Aq.A.drop (i+1)).map λa=>(rv a).getD i 0):=λq G=>by obtain⟨a,v,rfl⟩:=xy.1 G;exact Vt (QR_rv (ok.sw.a a (vv v)) om) om
 have qm:=Qtb (k:=129) K (λa v=>(f a v).1) Z;have lm:=Qgv (m:=w.length) (cs:=(p.Aq.A.drop (i+1)).map λa=>(rv a).getD i 0) (l:=ls) (λa v=>by rw[(f a v).2];omega) l0;have W:ls.length*(k+129+1)<=8*(k+129+1):=xc _ om;unfold bslQ;rw[ea];refine⟨?_,Q8 (Ql0 H qm) om,by rw[Z1];exact lm⟩;unfold Qbu;rw[Jd hb,sbind,Qab (k:=k) hn om om A Y om,sbind,w1 om,e0,sbind,Qab (k:=21*k) hn om om (Wf ok.hk om) (K2 (Q8 qm om)) (by rw[Jl];omega),sbind,Vj]
theorem Jc7{i:Nat}{b c:Qa}{d sY sP:List Rat}{ls yss:List (List Rat)}{ys ks0:List (List Qa)}{nx er:List Qa}{bb:Nat}(hn:big<=n)(h0:129<=k)(hk:k<8000)(ok:PrbOK n k p t h y)(Y:FR k w)(G:w.length=y.length)(W:g.limit=limQ p.Av)
 (hb:p.Aq.B[i]?=some b) (N:p.Aq.C[i]?=some c) (H:yss[i]?=some d) (I:QR 129 d) (P:d.length=y.length) (F:ls.length+(i+1)=p.Aq.B.length)
 (E:∀ a∈ls,QR 129 a/\a.length=y.length) (J:∀(q:Nat) a,ls[q]?=some a->ys[i+1+q]?=some (toR a)) (A:i<ys.length) (l:129<=bb) (V:bb<1000000) (qY:QR bb sY) (qP:QR bb sP) (lY:sY.length=y.length) (lP:sP.length=p.P.length) :
 ∃ B,B.limit=g.limit/\∃ r,Qai n p t h w ⟨toRR yss,ks0,nx,er⟩ ys ⟨toR sY,toR sP⟩ g (i:Int)=some r /\
   match bstageQ p.Tape (limQ p.Av) (fv t) (fv h) (rv p.P) d (fv c) (bslQ (p.Aq.A.map rv) (fv b) (fv h) (rv w) i ls) i with
   | .inl f=>r.1=f/\f.Au≠0
   | .inr z=>r=(⟨0,0,0,0⟩,p,t,h,w,⟨toRR yss,ks0,nx,er⟩,⟨toR (addQ sY z.1),toR (addQ sP z.2)⟩,ys.set i (toR z.1),B)/\QR 129 z.1/\QR 129 z.2/\z.1.length=y.length/\z.2.length=p.P.length:=by
 obtain⟨⟨d1,d2⟩,⟨d3,d4⟩,d5,d6⟩:=ok.tp.r.1;obtain⟨⟨g1,g2⟩,g3,g4,g5,g6⟩:=ok.sr.2.1;have hyl:=ok.yl;have X:=ok.pl;have m:=ok.sw.c c (Jw N);have hi:=J8 hb;obtain⟨s1,L,s3⟩:=Jbo (md:=⟨toRR yss,ks0,nx,er⟩) (sm:=⟨toR sY,toR sP⟩) (g:=g) hn h0 hk ok Y G hb F E J;unfold Qai;rw[s1,sbind];generalize bslQ (p.Aq.A.map rv) (fv b) (fv h) (rv w) i ls=K at L s3;obtain⟨B,S,T⟩:=Qx2 (p:=p) (t:=t) (h:=h) (w:=w) (g:=g) (md:=⟨toRR yss,ks0,nx,er⟩) (sm:=⟨toR sY,toR sP⟩) (ys:=ys) (x2:=(i:Int)) hn (Q8 L (show 21*k<=1099511627775 by omega)) om;refine⟨B,S,?_⟩;rw[T,sbind,W];unfold bstageQ;cases hf:fitQ (limQ p.Av) K 0 with
 | some j=>
   simp only[];rw[K9 oz,ow,bifT];exact⟨_,rfl,rfl,oz⟩
 | none=>
   simp only[];rw[Kz,ov,bifF];have v:=Xl (qw_fv ok.hk om) (qw_fv m om);have M:=Yz (qw_fv ok.tk om) v;rw[Qvs hn h0 om ok.tk ok.hk m N,sbind,Jd (show(toRR yss)[i]?=some (toR d) by unfold toRR;rw[xr,H];rfl),sbind];obtain⟨U,C,f3⟩:=Q6x (k:=22*k) (kw:=21*k) (t:=p.Tape) (p:=⟨toF (fv t+fv h*fv c),toR d,p.P⟩) (w:=toR K) (bits:=p.Av) hn om om om om ⟨ok.tp.r,ok.tp.h,λx Z=>Wf (ok.tp.w x Z) om⟩ (Jq om) (K2 (Q8 I om)) (K4 ok.pk om) (K2 L) (by simp only[Jl];omega) ok.pl (by rw[Jl];omega);rw[U,sbind];simp only[] at C f3 |-;rw[Jc,Vj,Vj] at C f3 |-;have u:limQ p.Av=min (max p.Av 0) 4096:=rfl;rw[u];cases O:backQ p.Tape (min (max p.Av 0) 4096) (fv t+fv h*fv c) d (rv p.P) K with
   | inl e=>
     have s:=C e O;simp only[];rw[K9 s,ow,bifT];exact⟨_,rfl,rfl,s⟩
   | inr z=>
     obtain⟨Q,R,q3,q4⟩:=f3 z O;simp only[];rw[Kz,ov,bifF,Qbz A,sbind,Qys (k:=bb) hn om om (K2 qY) (K2 qP) (K2 (Q8 Q l)) (K2 (Q8 R l)) (by rw[Jl];omega) (by rw[Jl];omega),sbind,Jl,Jl,Jl,Jl,oq ⟨om,om⟩,Vj,Vj,Vj,Vj,yh];exact⟨_,rfl,rfl,Q,R,om,om⟩
abbrev BdSt:=Qg×Qa×Qa×(List Qa)×Jo×(List (List Qa))×Q7×Qj×Int
abbrev BdG:=Qg×Qa×Qa×(List Qa)×Jo×(List (List Qa))×Q7×Qj
abbrev BdR:=Qe×Qg×Qa×Qa×(List Qa)×Jo×Q7×(List (List Qa))×Qj
def bdBody(n:Nat)(a:BdSt):Option (Lp BdSt (Lp BdG BdR)):=
    bif decide ((0:Int)<=a.2.2.2.2.2.2.2.2) then (
     (Qai n a.1 a.2.1 a.2.2.1 a.2.2.2.1 a.2.2.2.2.1 a.2.2.2.2.2.1 a.2.2.2.2.2.2.1 a.2.2.2.2.2.2.2.1 a.2.2.2.2.2.2.2.2).bind λd=>
     bif !(Qx d.1 (⟨0,0,0,0⟩:Qe)) then (
      some (Lp.out (Lp.out ((d.1,d.2.1,d.2.2.1,d.2.2.2.1,d.2.2.2.2.1,d.2.2.2.2.2.1,d.2.2.2.2.2.2.1,d.2.2.2.2.2.2.2.1,d.2.2.2.2.2.2.2.2)))))
     else (
      some (Lp.go (d.2.1,d.2.2.1,d.2.2.2.1,d.2.2.2.2.1,d.2.2.2.2.2.1,d.2.2.2.2.2.2.2.1,d.2.2.2.2.2.2.1,d.2.2.2.2.2.2.2.2,wrap64 (a.2.2.2.2.2.2.2.2 - (1:Int))))))
    else (
     some (Lp.out (Lp.go (a.1,a.2.1,a.2.2.1,a.2.2.2.1,a.2.2.2.2.1,a.2.2.2.2.2.1,a.2.2.2.2.2.2.1,a.2.2.2.2.2.2.2.1))))
def bdEnd(n:Nat)(x0_p:Qg)(t9:BdG):Option BdR:=
 (Xr n t9.1 t9.2.1 t9.2.2.1 t9.2.2.2.1 t9.2.2.2.2.1 t9.2.2.2.2.2.1 t9.2.2.2.2.2.2.1 t9.2.2.2.2.2.2.2 t9.2.2.2.2.2.2.1.Y (x0_p.Aq.B.length:Int)).bind λa=>
 bif !(Qx a.1 (⟨0,0,0,0⟩:Qe)) then (
  some (a.1,t9.1,t9.2.1,t9.2.2.1,t9.2.2.2.1,t9.2.2.2.2.1,t9.2.2.2.2.2.2.1,t9.2.2.2.2.2.1,a.2))
 else (
  (Xr n t9.1 t9.2.1 t9.2.2.1 t9.2.2.2.1 t9.2.2.2.2.1 t9.2.2.2.2.2.1 t9.2.2.2.2.2.2.1 a.2 t9.2.2.2.2.2.2.1.P (wrap64 ((x0_p.Aq.B.length:Int)+(1:Int)))).bind λd=>
  some (d.1,t9.1,t9.2.1,t9.2.2.1,t9.2.2.2.1,t9.2.2.2.2.1,t9.2.2.2.2.2.2.1,t9.2.2.2.2.2.1,d.2))
theorem Jg1(ys):Qdi n p t h w md ys sm g=(loopM (bdBody n) n (p,t,h,w,md,ys,sm,g,wrap64 ((p.Aq.B.length:Int) - (1:Int)))).bind (lpK (bdEnd n p)):=vw (vw rfl)
structure BdOK(b m mp:Nat)(z:BdS):Prop where
 y:QR b z.Y
 p:QR b z.P
 yl:z.Y.length=m
 pl:z.P.length=mp
 l:∀ a∈z.ls,QR 129 a/\a.length=m
theorem Jkp{yss:List (List Rat)}{ks0:List (List Qa)}{nx er:List Qa}(hn:big<=n)(h0:129<=k)(hk:k<8000)(ok:PrbOK n k p t h y)(Y:FR k w)(O:w.length=y.length)
 (G:∀ a∈yss,QR 129 a/\a.length=y.length) (hyssl:yss.length=p.Aq.B.length):∀(i m:Nat) (g:Qj) (z:BdS) (ys:List (List Qa)) (b:Nat),i<=p.Aq.B.length->i<m->z.ls.length+i=p.Aq.B.length->ys.length=p.Aq.B.length->(∀(q:Nat) a,z.ls[q]?=some a->ys[i+q]?=some (toR a))->129<=b->b+i*130<1000000->BdOK b y.length p.P.length z->g.limit=limQ p.Av ->
 match bstagesQ p.Tape p.Aq (limQ p.Av) (fv t) (fv h) (rv p.P) (rv w) yss i z with
 | .inl f=>∃ r,loopM (bdBody n) m (p,t,h,w,⟨toRR yss,ks0,nx,er⟩,ys,⟨toR z.Y,toR z.P⟩,g,(i:Int) - 1)=some (Lp.out r)/\r.1=f/\f.Au≠0
 | .inr x=>∃ J j,J.limit=limQ p.Av/\loopM (bdBody n) m (p,t,h,w,⟨toRR yss,ks0,nx,er⟩,ys,⟨toR z.Y,toR z.P⟩,g,(i:Int) - 1)=some (Lp.go (p,t,h,w,⟨toRR yss,ks0,nx,er⟩,j,⟨toR x.Y,toR x.P⟩,J))/\BdOK (b+i*130) y.length p.P.length x:=by
 obtain⟨⟨g1,g2⟩,g3,g4,g5,g6⟩:=ok.sr.2.1;intro i
 induction i with
 | zero=>
   intro m g z ys b _ R _ _ _ _ _ d N;simp only[bstagesQ];refine⟨g,ys,N,Vv ?_ R,⟨Q8 d.y om,Q8 d.p om,d.yl,d.pl,d.l⟩⟩;unfold bdBody;simp only[];rw[oj om,bifF]
 | succ i ih=>
   intro m g z ys b hi R Z F E M X d N;obtain⟨m,rfl⟩:∃ q,m=q+1:=⟨m - 1,om⟩
   obtain⟨S,A⟩:∃ x,p.Aq.B[i]?=some x:=⟨p.Aq.B[i]' om,oi _⟩
   obtain⟨ci,B⟩:∃ x,p.Aq.C[i]?=some x:=⟨p.Aq.C[i]' om,oi _⟩
   obtain⟨P,e⟩:∃ x,yss[i]?=some x:=⟨yss[i]' om,oi _⟩
   obtain⟨yq,yl⟩:=G P (Jw e);obtain⟨J,e1,r,T,H⟩:=Jc7 (g:=g) (ks0:=ks0) (nx:=nx) (er:=er) (ys:=ys) (ls:=z.ls) (sY:=z.Y) (sP:=z.P) (bb:=b) hn h0 hk ok Y O N A B e yq yl om d.l (λq a u=>E q a u) om M om d.y d.p d.yl d.pl;simp only[bstagesQ];have W:yss.getD i []=P:=by rw[ou,e];rfl
   rw[W,Qjm B,Qjm A]
   have l:bdBody n (p,t,h,w,⟨toRR yss,ks0,nx,er⟩,ys,⟨toR z.Y,toR z.P⟩,g,((i+1:Nat):Int) - 1)=(bif !(Qx r.1 (⟨0,0,0,0⟩:Qe)) then (
    some (Lp.out (Lp.out ((r.1,r.2.1,r.2.2.1,r.2.2.2.1,r.2.2.2.2.1,r.2.2.2.2.2.1,r.2.2.2.2.2.2.1,r.2.2.2.2.2.2.2.1,r.2.2.2.2.2.2.2.2)))))
    else (
     some (Lp.go (r.2.1,r.2.2.1,r.2.2.2.1,r.2.2.2.2.1,r.2.2.2.2.2.1,r.2.2.2.2.2.2.2.1,r.2.2.2.2.2.2.1,r.2.2.2.2.2.2.2.2,wrap64 (((i+1:Nat):Int) - 1 - (1:Int)))))):=by
    unfold bdBody;simp only[];rw[oo om,bifT,show((i+1:Nat):Int) - 1=(i:Int) by omega,T,sbind]
   cases hs:bstageQ p.Tape (limQ p.Av) (fv t) (fv h) (rv p.P) P (fv ci) (bslQ (p.Aq.A.map rv) (fv S) (fv h) (rv w) i z.ls) i with
   | inl f=>
     rw[hs] at H;obtain⟨I,s⟩:=H;obtain⟨⟨f1,f2,f3,f4⟩,r⟩:=r;simp only[] at I;subst I;simp only[] at l |-;rw[K9 s,ow,bifT] at l;exact⟨_,Vv l om,rfl,s⟩
   | inr x=>
     rw[hs] at H;obtain⟨I,s,U,Q,V⟩:=H;subst I;simp only[] at l |-;rw[Kz,ov,bifF,show((i+1:Nat):Int) - 1 - 1=(i:Int) - 1 by omega,w64 om om] at l;rw[Qbp l];have C:(i+1)*130=i*130+130:=ud _ _
     have:=ih m J ⟨x.1::z.ls,addQ z.Y x.1,addQ z.P x.2⟩ (ys.set i (toR x.1)) (b+130) om om (by show z.ls.length+1+i=_;omega) (by rw[wj];exact F) (λq a u=>by
      cases q with
      | zero=>
        simp only[gj,Option.some.injEq] at u;subst u;rw[xp,List.getElem?_set_self om]
      | succ q=>
        rw[List.getElem?_set_ne om,show i+(q+1)=i+1+q by omega];exact E q a (by simpa using u)) om om ⟨Q8 (Ql1 d.y s) om,Q8 (Ql1 d.p U) om,by show(addQ z.Y x.1).length=_;rw[Zu,Q,d.yl,dt],by show(addQ z.P x.2).length=_;rw[Zu,V,d.pl,dt],λa L=>by
        rcases xu.1 L with rfl | L;exact⟨s,Q⟩
        exact d.l a L⟩ om
     simp only[] at this;cases hr:bstagesQ p.Tape p.Aq (limQ p.Av) (fv t) (fv h) (rv p.P) (rv w) yss i ⟨x.1::z.ls,addQ z.Y x.1,addQ z.P x.2⟩ with
     | inl f=>rw[hr] at this;exact this
     | inr v=>
       rw[hr] at this;obtain⟨K,j,a1,a2,a3⟩:=this;exact⟨K,j,a1,a2,by rw[C,show b+(i*130+130)=b+130+i*130 by omega];exact a3⟩
theorem Jg2{yss:List (List Rat)}{ks0 ys:List (List Qa)}{nx er:List Qa}(hn:big<=n)(h0:129<=k)(hk:k<8000)(ok:PrbOK n k p t h y)(B:FR k w)(d:w.length=y.length)
 (m:∀ a∈yss,QR 129 a/\a.length=y.length) (hyssl:yss.length=p.Aq.B.length) (l:ys.length=p.Aq.B.length) (I:g.limit=limQ p.Av) :
 ∃ r,Qdi n p t h w ⟨toRR yss,ks0,nx,er⟩ ys ⟨toR (rv w),toR (List.replicate p.P.length 0)⟩ g=some r /\
   match bdoQ p.Tape p.Aq (limQ p.Av) (fv t) (fv h) (rv p.P) (rv w) yss with
   | .inl f=>r.1=f/\f.Au≠0
   | .inr z=>r.1=⟨0,0,0,0⟩/\r.2.2.2.2.2.2.1=⟨toR z.1,toR z.2⟩/\QR 129 z.1/\QR 129 z.2/\z.1.length=w.length/\z.2.length=p.P.length:=by
 obtain⟨⟨L,M⟩,⟨N,O⟩,P,Q⟩:=ok.tp.r.1;obtain⟨⟨g1,R⟩,g3,g4,S,T⟩:=ok.sr.2.1;have K:=ok.yl;have J:=ok.pl;have i:=Jkp (ks0:=ks0) (nx:=nx) (er:=er) hn h0 hk ok B d m hyssl p.Aq.B.length n g ⟨[],rv w,List.replicate p.P.length 0⟩ ys k (xm _) (by unfold big at hn;omega) oc l (λq a G=>by simp at G) h0 om ⟨QR_rv B om,Qjn om,by show(rv w).length=_;rw[Jn];exact d,oc,λ_ h=>by cases h⟩ I;rw[Jg1,w64 om om];unfold bdoQ;rw[Jn p.P];simp only[] at i;cases hs:bstagesQ p.Tape p.Aq (limQ p.Av) (fv t) (fv h) (rv p.P) (rv w) yss p.Aq.B.length ⟨[],rv w,List.replicate p.P.length 0⟩ with
 | inl f=>
   rw[hs] at i;obtain⟨r,x,u,A⟩:=i;rw[x,sbind,Qap];exact⟨r,rfl,u,A⟩
 | inr z=>
   rw[hs] at i;obtain⟨E,s,a1,a2,a3⟩:=i;rw[a2,sbind,Wv];unfold bdEnd;simp only[];obtain⟨e,x,u⟩:=Qx2 (p:=p) (t:=t) (h:=h) (w:=w) (g:=E) (md:=⟨toRR yss,ks0,nx,er⟩) (sm:=⟨toR z.Y,toR z.P⟩) (ys:=s) (x2:=(p.Aq.B.length:Int)) hn (Q8 a3.y om) (by rw[a3.yl];omega);rw[u,sbind,a1];cases H:fitQ (limQ p.Av) z.Y 0 with
   | some j=>
     simp only[];rw[K9 oz,ow,bifT];exact⟨_,rfl,rfl,oz⟩
   | none=>
     simp only[];rw[Kz,ov,bifF,w1 om];obtain⟨F,A,C⟩:=Qx2 (p:=p) (t:=t) (h:=h) (w:=w) (g:=e) (md:=⟨toRR yss,ks0,nx,er⟩) (sm:=⟨toR z.Y,toR z.P⟩) (ys:=s) (x2:=((p.Aq.B.length+1:Nat):Int)) hn (Q8 a3.p om) (by rw[a3.pl];omega);rw[C,sbind,show e.limit=limQ p.Av by omega];cases v:fitQ (limQ p.Av) z.P 0 with
     | some j=>exact⟨_,rfl,rfl,by show(6:Int)≠0;decide⟩
     | none=>exact⟨_,rfl,rfl,rfl,Qmh (by unfold limQ;omega) H,Qmh (by unfold limQ;omega) v,by rw[a3.yl,d],a3.pl⟩
end
noncomputable def backThQ(p:Qg)(T H:Rat)(Y W:List Rat):Qe ⊕ (MadeQ×List Rat×List Rat):=
 match stepQ p T H Y with
 | .inl f=>if f.Au=2\/W.length≠Y.length then .inl ⟨2,0,0,0⟩ else .inl f
 | .inr z=>if W.length≠Y.length then .inl ⟨2,0,0,0⟩ else match bdoQ p.Tape p.Aq (limQ p.Av) T H (rv p.P) W z.ys with
   | .inl f=>.inl f
   | .inr x=>.inr (z,x.1,x.2)
theorem Q0j:∀ {l:List Rat},addQ l (List.replicate l.length 0)=l
 | []=>rfl
 | a::l=>by have:=Q0j (l:=l);unfold addQ at this |-;rw[xn,vg,tz,this,ve]
theorem Qmu{n k:Nat}{p:Qg}{t h:Qa}{y w:List Qa}(hn:big<=n)(h0:129<=k)(hk:k<8000)(C:PrbW k p)(A:Fk k t)(v:Fk k h)(E:FR k y)(B:FR k w):
 Qdj n p t h y w=some (match backThQ p (fv t) (fv h) (rv y) (rv w) with | .inl f=>(⟨[],[]⟩,f) | .inr z=>(⟨toR z.2.1,toR z.2.2⟩,⟨0,0,0,0⟩))/\(∀ f,backThQ p (fv t) (fv h) (rv y) (rv w)=.inl f->f.Au≠0)/\∀ z,backThQ p (fv t) (fv h) (rv y) (rv w)=.inr z->stepQ p (fv t) (fv h) (rv y)=.inr z.1/\QR 129 z.2.1/\QR 129 z.2.2/\z.2.1.length=y.length/\z.2.2.length=p.P.length/\w.length=y.length:=by
 obtain⟨m,q⟩:=Qpp hn h0 hk C A v E;unfold Qdj backThQ;simp only[jn_eq];rw[m,sbind];cases hs:stepQ p (fv t) (fv h) (rv y) with
 | inl f=>
   have u:=q f hs;obtain⟨s,M,f3,f4⟩:=f;simp only[];rw[Jn,Jn,bifd];by_cases c1:s=2
   . rw[oq c1,oq (Or.inl c1)]
     exact⟨rfl,(λf h=>by cases h;show(2:Int)≠0;decide),λz h=>by cases h⟩
   rw[ol c1];by_cases d:w.length=y.length
   case neg=>
    rw[oj (show ¬(w.length:Int)=(y.length:Int) by omega),oq (.inr d)];exact⟨rfl,(λf h=>by cases h;show(2:Int)≠0;decide),λz h=>by cases h⟩
   rw[oo (show(w.length:Int)=(y.length:Int) by omega),ov,bifF,K9 u,ow,bifT,ol (by rintro(g | g)<;>contradiction)];exact⟨rfl,(λf h=>by cases h;exact u),λz h=>by cases h⟩
 | inr z=>
   obtain⟨P,F,Z,r4,r5⟩:=Qex hs;obtain⟨Q,R⟩:=Qx1 hs;rw[Jn] at F;have ok:=C.ok hn hk P A v E F;obtain⟨⟨m,q⟩,⟨S,T⟩,U,V⟩:=ok.tp.r.1;obtain⟨⟨g1,W⟩,g3,g4,X,Y⟩:=ok.sr.2.1;have O:=ok.pl;simp only[];rw[Jn,Jn,show decide ((0:Int)=2)=false from rfl,bifF];by_cases d:w.length=y.length
   case neg=>
    rw[oj (show ¬(w.length:Int)=(y.length:Int) by omega),oq d];exact⟨rfl,(λf h=>by cases h;show(2:Int)≠0;decide),λz h=>by cases h⟩
   rw[oo (show(w.length:Int)=(y.length:Int) by omega),ov,bifF,Kz,ov,bifF,ol (by simp[d])];rw[Qb6 hn om,sbind,Qys (k:=k) hn om om B (λ_ h=>by cases h) (K2 (Qjn om)) (λ_ h=>by cases h) om oc,sbind,oq ⟨by rw[Jl];simp,rfl⟩,Qfd om om,sbind];unfold X5;rw[sbind,Qb6 hn om,sbind,Vj];have L:addQ (rv w) (List.replicate w.length 0)=rv w:=by
    have:=Q0j (l:=rv w);rwa [Jn] at this
   rw[L];obtain⟨r,G,e⟩:=Jg2 (g:=⟨⟨0,0⟩,min (max p.Av 0) 4096⟩) (yss:=z.ys) (ks0:=toRR z.ks) (nx:=toR z.next) (er:=toR z.err) (ys:=List.replicate p.Aq.B.length []) hn h0 hk ok B d (λa N=>by have:=Q a N;rwa [Jn] at this) R oc rfl;rw[show toM z=⟨toRR z.ys,toRR z.ks,toR z.next,toR z.err⟩ from rfl];simp only[];rw[G,sbind];cases hd:bdoQ p.Tape p.Aq (limQ p.Av) (fv t) (fv h) (rv p.P) (rv w) z.ys with
   | inl f=>
     rw[hd] at e;obtain⟨j,i⟩:=e;refine⟨?_,(λf h=>by cases h;exact i),λz h=>by cases h⟩;simp only[];rw[j];obtain⟨s,M,f3,f4⟩:=f;rw[K9 i,ow,bifT]
   | inr x=>
     rw[hd] at e;obtain⟨j,i,H,I,J,K⟩:=e;refine⟨?_,(λf h=>by cases h),λz h=>by cases h;exact⟨rfl,H,I,J.trans d,K,d⟩⟩;simp only[];rw[j,i,Kz,ov,bifF]
set_option maxRecDepth 100000
theorem Qx3{l:List Rat}{a:Int}:addAt l a 0=l:=by unfold addAt;rw[ve];by_cases h:a.toNat<l.length;rw[ou,oi h];exact List.set_getElem_self h;exact List.set_eq_of_length_le om
structure SameL(a b:BkS):Prop where
 c:b.co.length=a.co.length
 y:b.Y.length=a.Y.length
 p:b.P.length=a.P.length
theorem SameL.bk{x:Q2}{c1 d r:Rat}{vs:List Rat}{s1 a:BkS}(h:SameL s1 a):SameL (Zc x c1 r vs s1) (Zc x d r vs a):=by obtain⟨a1,a2,a3⟩:=Qmi (x:=x) (c:=c1) (r:=r) (vs:=vs) (s:=s1);obtain⟨e,f,i⟩:=Qmi (x:=x) (c:=d) (r:=r) (vs:=vs) (s:=a);exact⟨by rw[a1,e,h.c],by rw[a2,f,h.y],by rw[a3,i,h.p]⟩
theorem Q24{lim:Int}{code:List Q2}{vs:List Rat}:∀ {i:Nat}{s z},pullQ lim code vs i s=.inr z->SameL s z
 | 0,s,z,h=>by simp only[pullQ] at h;cases h;exact⟨rfl,rfl,rfl⟩
 | i+1,s,z,h=>by
   simp only[pullQ] at h;cases a:code[i]? with
   | none=>rw[a] at h;cases h;exact⟨rfl,rfl,rfl⟩
   | some x=>
     rw[a] at h;simp only[] at h;split at h
     case isFalse=>cases h
     have:=Q24 h;obtain⟨a1,a2,a3⟩:=Qmi (x:=x) (c:=s.co.getD i 0) (r:=vs.getD i 0) (vs:=vs) (s:=s);exact⟨by rw[this.c,a1],by rw[this.y,a2],by rw[this.p,a3]⟩
theorem Jdw{m:Nat}{os:List Int}{w:List Rat}:(coQ m os w).length=m:=by
 unfold coQ;have:∀(l:List (Int×Rat)) (a:List Rat),(l.foldl (λco z=>addAt co z.1 z.2) a).length=a.length:=by
  intro l
  induction l with
  | nil=>intro a;rfl
  | cons x l d=>intro a;rw[db,d,Qfe]
 rw[this];simp
theorem Jbp{t:Qp}{lim:Int}{T:Rat}{Y P w:List Rat}{z}(h:backQ t lim T Y P w=.inr z):∃ vs x,runQ lim T Y P t.Code 0 []=.inr vs/\pullQ lim t.Code vs vs.length ⟨coQ vs.length t.Aw w,0,List.replicate t.Ax.toNat 0,List.replicate t.A1.toNat 0⟩=.inr x/\z=(x.T,x.Y,x.P):=by
 unfold backQ at h;cases hr:runQ lim T Y P t.Code 0 [] with
 | inl e=>rw[hr] at h;cases h
 | inr vs=>
   rw[hr] at h;simp only[] at h;cases hp:pullQ lim t.Code vs vs.length ⟨coQ vs.length t.Aw w,0,List.replicate t.Ax.toNat 0,List.replicate t.A1.toNat 0⟩ with
   | inl e=>rw[hp] at h;cases h
   | inr x=>
     rw[hp] at h;simp only[] at h;cases a:fitQ lim (x.T::(x.Y++x.P)) 0 with
     | some j=>rw[a] at h;cases h
     | none=>rw[a] at h;cases h;exact⟨vs,x,rfl,hp,rfl⟩
theorem Jbq{t:Qp}{lim:Int}{T:Rat}{Y P w:List Rat}{z}(h:backQ t lim T Y P w=.inr z):z.2.1.length=t.Ax.toNat/\z.2.2.length=t.A1.toNat:=by obtain⟨vs,x,_,a,rfl⟩:=Jbp h;have:=Q24 a;exact⟨by rw[this.y];simp,by rw[this.p];simp⟩
theorem Jbr{As:List (List Rat)}{b H:Rat}{i:Nat}{W:List Rat}{l:List (List Rat)}(g:∀ a∈l,a.length=W.length):(bslQ As b H W i l).length=W.length:=by unfold bslQ;rw[Z1];exact Qgv g (by rw[Z1])
theorem Q2b{t:Qp}{lim:Int}{T H c:Rat}{P y k:List Rat}{i:Nat}{z}(h:bstageQ t lim T H P y c k i=.inr z):∃ x,backQ t lim (T+H*c) y P k=.inr x/\z=(x.2.1,x.2.2):=by
 unfold bstageQ at h;cases a:fitQ lim k 0 with
 | some j=>rw[a] at h;cases h
 | none=>
   rw[a] at h;simp only[] at h;cases hb:backQ t lim (T+H*c) y P k with
   | inl e=>rw[hb] at h;cases h
   | inr x=>rw[hb] at h;cases h;exact⟨x,rfl,rfl⟩
structure BdL(m mp:Nat)(a:BdS):Prop where
 y:a.Y.length=m
 p:a.P.length=mp
 l:∀ x∈a.ls,x.length=m
theorem BdL.step{m mp:Nat}{a:BdS}(h:BdL m mp a){u v:List Rat}(e:u.length=m)(f:v.length=mp):BdL m mp ⟨u::a.ls,addQ a.Y u,addQ a.P v⟩:=
 ⟨by show(addQ a.Y u).length=_;rw[Zu,h.y,e,dt],by show(addQ a.P v).length=_;rw[Zu,h.p,f,dt],λx d=>by
  rcases xu.1 d with rfl | d;exact e
  exact h.l x d⟩
theorem Q25{t:Qp}{s:Q1}{lim:Int}{T H:Rat}{P W:List Rat}{yss:List (List Rat)}{z}(h:bdoQ t s lim T H P W yss=.inr z):∃ x,bstagesQ t s lim T H P W yss s.B.length ⟨[],W,List.replicate P.length 0⟩=.inr x/\z=(x.Y,x.P):=by
 unfold bdoQ at h;cases hs:bstagesQ t s lim T H P W yss s.B.length ⟨[],W,List.replicate P.length 0⟩ with
 | inl f=>rw[hs] at h;cases h
 | inr x=>
   rw[hs] at h;simp only[] at h;cases d:fitQ lim x.Y 0 with
   | some j=>rw[d] at h;cases h
   | none=>
     rw[d] at h;simp only[] at h;cases a:fitQ lim x.P 0 with
     | some j=>rw[a] at h;cases h
     | none=>rw[a] at h;cases h;exact⟨x,rfl,rfl⟩
theorem Qur{p:Qg}{T H:Rat}{Y W:List Rat}{z}(h:backThQ p T H Y W=.inr z):stepQ p T H Y=.inr z.1/\W.length=Y.length/\bdoQ p.Tape p.Aq (limQ p.Av) T H (rv p.P) W z.1.ys=.inr z.2:=by
 unfold backThQ at h;cases hs:stepQ p T H Y with
 | inl f=>rw[hs] at h;simp only[] at h;split at h<;>cases h
 | inr m=>
   rw[hs] at h;simp only[] at h;by_cases a:W.length=Y.length
   case neg=>rw[oq a] at h;cases h
   rw[ol (by simp[a])] at h;cases hd:bdoQ p.Tape p.Aq (limQ p.Av) T H (rv p.P) W m.ys with
   | inl f=>rw[hd] at h;cases h
   | inr x=>rw[hd] at h;cases h;exact⟨rfl,a,hd⟩
theorem Qvt{p:Qg}{T H:Rat}{Y W:List Rat}{z}(h:backThQ p T H Y W=.inr z):W.length=p.Tape.Ax.toNat/\(rv p.P).length=p.Tape.A1.toNat:=by obtain⟨a1,a2,_⟩:=Qur h;obtain⟨a,d,_⟩:=Qex a1;have:=a.2.2;rw[Jn];omega
theorem Jbs{m j:Nat}:(List.replicate m (0:Rat)).getD j 0=0:=by rw[ou,List.getElem?_replicate];split<;>rfl
set_option maxRecDepth 100000
theorem Qx4{l:List Rat}{a:Int}{c:Rat}{j:Nat}:(addAt l a c).getD j 0=if j=a.toNat/\j<l.length then l.getD j 0+c else l.getD j 0:=by unfold addAt;generalize a.toNat=a;rw[ou,ou,ou,List.getElem?_set];by_cases h:j=a;subst h;by_cases d:j<l.length;rw[oq rfl,oq d,oq ⟨rfl,d⟩];rfl;rw[oq rfl,ol d,ol (λh=>d h.2),xz om];rw[ol (λe=>h e.symm),ol (λe=>h e.1)]
theorem Q26{t:Qp}{i:Nat}{x:Q2}(h:mayR t i x):x.Op=1\/x.Op=2\/x.Op=3\/x.Op=4\/x.Op=6\/x.Op=7\/x.Op=8\/x.Op=9\/x.Op=10\/x.Op=11:=by unfold mayR at h;by_cases c1:x.Op=1;omega;rw[ol c1] at h;by_cases e:x.Op=2;omega;by_cases f:x.Op=3;omega;by_cases j:x.Op=4;omega;by_cases l:x.Op=6;omega;by_cases d:x.Op=11;omega;rw[ol e,ol f,ol j,ol l,ol d] at h;have a:=h.2.2;unfold rdT at a;rw[ol om] at a;by_cases m:x.Op=7\/x.Op=8\/x.Op=9\/x.Op=10;omega;rw[ol m] at a;simp at a
section
variable {t:Qp}{lim:Int}{T':Rat}{Y' P' vs ds:List Rat}
end
theorem Qdw{l:List Rat}{i j:Nat}(h:j<i):(l.take i).getD j 0=l.getD j 0:=by rw[ou,ou,uh,oq h]
theorem jn_to{σ ρ:Type}{A:(σ->Option ρ)->Option ρ}{k:σ->Option ρ}{b:σ}(d:∀ a,A a=a b):jn A k=k b:=by rw[jn_eq,d]
abbrev Tri:=Rat×Rat×List Rat
def triT(t:Jg):Tri:=(fv t.T,fv t.H,rv t.Y)
def tri(h:Qy):List Tri:=(okT h.Ar).map triT
theorem Qmj(h:Qy):(tri h).length=(okT h.Ar).length:=by simp[tri]
def TriK(k d:Nat)(x:Tri):Prop:=qw x.1<=k/\qw x.2.1<=k/\0<x.2.1/\QR k x.2.2/\x.2.2.length=d
theorem Jbt{h:Qy}{k:Nat}(hk:1<=k)(hp:Qee h)(i:∀ t∈h.Ar,FT k t):∀ x∈tri h,TriK k h.Y.length x:=λx j=>by obtain⟨t,d,rfl⟩:=xy.1 j;have a:=(gp.1 d).1;obtain⟨e,f,_⟩:=i t a;have s:=hp.s t a;exact⟨qw_fv (e _ oc) hk,qw_fv (e _ oc) hk,s.2.1,QR_rv f hk,by show(rv t.Y).length=_;rw[Jn];exact hp.l.1 t a⟩
theorem Qti{A:List Tri}{m:Nat}(a:m<A.length):A.getD m (0,0,[])∈A:=by rw[ou,oi a];exact xa a
def rowsAt(l:List Jj)(i:Int):List (List Rat):=(l.filter λx=>decide (x.Ay=i)).map λx=>rv x.W
def foldA(z:List Rat)(rs:List (List Rat)):List Rat:=rs.foldl addQ z
theorem Q8b{α:Type}{i j:Int}{x:α}:∀ {kv:List (Int×α)},mget (mset kv i x) j=if i=j then some x else mget kv j
 | []=>by simp only[mset,mget];by_cases h:i=j;simp[h];simp[h]
 | (k,v)::kv=>by by_cases h:k=i;subst h;simp only[mset,vt,cond_true,mget];by_cases g:k=j;simp[g];simp[g];simp only[mset,h,ui,jk,mget,Q8b (kv:=kv)];by_cases g:k=j;subst g;simp[show ¬ i=k from λe=>h e.symm];simp[g]
theorem Qvu{l:List Jj}{x:Jj}{i:Int}:rowsAt (l++[x]) i=rowsAt l i++if x.Ay=i then [rv x.W] else []:=by unfold rowsAt;rw[List.filter_append,yx];by_cases h:x.Ay=i;simp[h];simp[h]
theorem Qx5{z a:List Rat}{rs:List (List Rat)}:foldA z (rs++[a])=addQ (foldA z rs) a:=by unfold foldA;rw[jj];rfl
theorem Qjq{d:Nat}:∀ {rs:List (List Rat)}{z:List Rat},z.length=d->(∀ r∈rs,r.length=d)->(foldA z rs).length=d
 | [],_,h,_=>h
 | r::rs,z,h,hr=>Qjq (z:=addQ z r) (rs:=rs) (by rw[Zu,h,hr r (.head _),dt]) (λa e=>hr a (.tail _ e))
theorem Qn4{k:Nat}:∀ {rs:List (List Rat)}{z:List Rat}{b:Nat},QR b z->(∀ r∈rs,QR k r)->QR (b+rs.length*(k+1)) (foldA z rs)
 | [],_,b,h,_=>Q8 h om
 | r::rs,z,b,h,hr=>by have:=Qn4 (rs:=rs) (Ql1 h (hr r (.head _))) (λa d=>hr a (.tail _ d));refine Q8 this ?_;rw[xn,ud];omega
theorem Qps{l:List Jj}{i:Int}{r:List Rat}(h:r∈rowsAt l i):∃ x∈l,r=rv x.W:=by obtain⟨x,a,rfl⟩:=xy.1 h;exact⟨x,(gp.1 a).1,rfl⟩
theorem Qus(l:List Jj)(i:Int):(rowsAt l i).length<=l.length:=by unfold rowsAt;rw[ot];exact List.length_filter_le _ _
theorem Q9f{n k d:Nat}{l:List Jj}(hn:big<=n)(H:1<=k)(hk:k<1000000)(Q:l.length<=300)(hd:d<=300)(E:∀ x∈l,FR k x.W/\x.W.length=d):
 ∃ kv,Qhq n l (d:Int)=some kv/\∀ i,mget kv i=if rowsAt l i=[] then none else some (toR (foldA (List.replicate d 0) (rowsAt l i))):=by
 unfold Qhq;let I:Nat->List (Int×List Qa)->Prop:=λj kv=>∀ i,mget kv i=if rowsAt (l.take j) i=[] then none else some (toR (foldA (List.replicate d 0) (rowsAt (l.take j) i)))
 let f:Nat->Jj->List (Int×List Qa)->Option (Lp (List (Int×List Qa)) (List (Int×List Qa))):=λ(_:Nat) (a:Jj) (q:(List (Int×(List Qa))))=>
  jn (λ(u:((List Qa))->Option _)=>
   bif !((mget q a.Ay).isSome) then (
    (Zj n (d:Int)).bind λm=>
    u m)
   else (
    u ((mget q a.Ay).getD ([]:(List Qa))))) (λ(B:(List Qa))=>
   (X8 n ([B,a.W]:List (List Qa))).bind λA=>
   some (Lp.go (mset q a.Ay A.1)))
 obtain⟨kv,G,C⟩:=Quc (f:=f) I l 0 [] (λi=>by rw[gg];rfl) (λj x s F hs=>by
  rw[xg] at hs |-;have v:=Jw F;obtain⟨M,x2⟩:=E x v;have P:(l.take j).length<=l.length:=by rw[xi];omega
  have hr:∀ r∈rowsAt (l.take j) x.Ay,QR k r/\r.length=d:=λr hr=>by obtain⟨y,L,rfl⟩:=Qps hr;obtain⟨N,O⟩:=E y (ym L);exact⟨QR_rv N H,by rw[Jn,O]⟩
  have key:∀ K:List Qa->Option (Lp (List (Int×List Qa)) (List (Int×List Qa))),(bif !((mget s x.Ay).isSome) then (Zj n (d:Int)).bind λm=>K m else K ((mget s x.Ay).getD []))=K (toR (foldA (List.replicate d 0) (rowsAt (l.take j) x.Ay))):=by
   intro K;rw[hs x.Ay];by_cases g:rowsAt (l.take j) x.Ay=[]
   rw[oq g,g,Option.isSome_none,ow,bifT,Qb6 hn hd,sbind];rfl;rw[ol g,Option.isSome_some,ov,bifF];rfl
  have J:QR (1+300*(k+1)) (foldA (List.replicate d 0) (rowsAt (l.take j) x.Ay)):=by refine Q8 (Qn4 (k:=k) (Qjn (xm 1)) λr h=>(hr r h).1) ?_;have a1:=Qus (l.take j) x.Ay;have a2:(rowsAt (l.take j) x.Ay).length*(k+1)<=300*(k+1):=xc _ om;omega
  have e:(foldA (List.replicate d 0) (rowsAt (l.take j) x.Ay)).length=d:=Qjq oc λr h=>(hr r h).2;refine⟨mset s x.Ay (toR (addQ (foldA (List.replicate d 0) (rowsAt (l.take j) x.Ay)) (rv x.W))),?_,λi=>?_⟩;show f j x s=_;simp only[f,jn_eq];rw[key,Qb2 (k:=1+300*(k+1)) hn om om (K2 J) (K4 M om) (by rw[Jl,e];omega),oq (by rw[Jl,e,x2]),sbind,Vj];rw[Q8b,hs i,vj,F,Option.toList_some,Qvu];by_cases g:x.Ay=i;subst g;rw[oq rfl,oq rfl,ol oc,Qx5]
  rw[ol g,ol g,ua])
 rw[xg] at C;refine⟨kv,?_,λi=>?_⟩;show((rangeL f l 0 []).bind _)=_;rw[G,sbind,Wv];rw[C i,xh]
theorem Jix{a b c:List Rat}:addQ (addQ a b) c=addQ a (addQ b c):=by
 unfold addQ
 induction a generalizing b c with
 | nil=>rfl
 | cons x a d=>
   cases b with
   | nil=>rfl
   | cons y b=>
     cases c with
     | nil=>rfl
     | cons z c=>simp only[tz,Rat.add_assoc,d]
theorem Q0k{d:Nat}:∀ {rs:List (List Rat)}{z:List Rat},z.length=d->(∀ r∈rs,r.length=d)->foldA z rs=addQ z (foldA (List.replicate d 0) rs)
 | [],z,h,_=>by show z=addQ z (List.replicate d 0);rw[<-h,Q0j]
 | r::rs,z,h,hr=>by have e:=hr r (.head _);have f:∀ a∈rs,a.length=d:=λa i=>hr a (.tail _ i);show foldA (addQ z r) rs=addQ z (foldA (addQ (List.replicate d 0) r) rs);rw[Q0h e,Q0k (z:=addQ z r) (by rw[Zu,h,e,dt]) f,Q0k (z:=r) e f,Jix]
def Qwx(h:Qy)(l:List Jj):Prop:=l.length<=300/\∀ x∈l,0<=x.Ay/\x.Ay<=((szs h).length:Int)/\x.W.length=h.Y.length
theorem Qut{n k:Nat}{h:Qy}{l:List Jj}(hn:big<=n)(e:1<=k)(hk:k<100000000)(j:h.Ar.length<=1000000)(m:∀ t∈h.Ar,FT k t)(s:Fk k h.T)(v:FR k h.Y)(d:h.Y.length<=1000000)(B:l.length<=1000000)(u:∀ x∈l,x.W.length<=1000000):
 Qi5 n h l=some (dP (Qee h/\Qwx h l)):=by
 classical
 have A:(szs h).length<=1000000:=by have:=Qkg h.Ar;unfold szs;rw[ot];omega
 unfold Qi5;simp only[jn_eq];rw[Qpq hn e hk j m s v d,sbind,bifnP];by_cases hp:Qee h
 case neg=>rw[ol hp,bifT,dP_f λg=>hp g.1]
 rw[oq hp];by_cases f:l.length<=300
 case neg=>rw[oo om,bifT,dP_f λg=>f g.2.1]
 rw[oj om,bifF,Qup hn e om j m,sbind,Qag (λ_ (x:Jj)=>0<=x.Ay/\x.Ay<=((szs h).length:Int)/\x.W.length=h.Y.length) (r:=false)]
 . by_cases g:∀(i:Nat) (x:Jj),l[i]?=some x->0<=x.Ay/\x.Ay<=((szs h).length:Int)/\x.W.length=h.Y.length
   . rw[oq g,dP_t ⟨hp,f,λx a=>by obtain⟨i,hi⟩:=List.mem_iff_getElem?.1 a;exact g i x hi⟩]
   . rw[ol g,dP_f λq=>g λi x a=>q.2.2 x (Jw a)]
 . intro i x a
   have C:=u x (Jw a);rw[Jl,w1 om];constructor
   . rintro⟨a1,a2,a3⟩
     rw[oj om,bifF,oj om,bifF,oo om,ov,bifF]
   . intro g
     by_cases a1:x.Ay<0
     . rw[oo a1,bifT,bifT]
     rw[oj a1,bifF];by_cases a2:(((szs h).length+1:Nat):Int)<=x.Ay
     . rw[oo a2,bifT,bifT]
     rw[oj a2,bifF,oj (λa3=>g ⟨om,om,om⟩),ow,bifT]
noncomputable def lookQ(p:Qg)(A:List Tri)(W:Int->List (List Rat)):Nat->List Rat×List Rat->Qe ⊕ (List Rat×List Rat)
 | 0,g=>.inr (foldA g.1 (W ((0:Nat):Int)),g.2)
 | i+1,g=>match backThQ p (A.getD i (0,0,[])).1 (A.getD i (0,0,[])).2.1 (A.getD i (0,0,[])).2.2 (foldA g.1 (W ((i+1:Nat):Int))) with
   | .inl f=>.inl ⟨f.Au,((i+1:Nat):Int),f.A0,f.At⟩
   | .inr z=>lookQ p A W i (z.2.1,addQ g.2 z.2.2)
def LkR(p:Qg)(h:Qy)(l:List Jj):Prop:=prbR p/\(Qee h/\Qwx h l)/\(h.Y.length:Int)=p.Tape.Ax
noncomputable def Qb3(p:Qg)(h:Qy)(l:List Jj):Qe ⊕ (List Rat×List Rat):=
 @ite _ (LkR p h l) (Classical.propDecidable _) (lookQ p (tri h) (rowsAt l) (tri h).length (List.replicate h.Y.length 0,List.replicate p.P.length 0)) (.inl ⟨2,0,0,0⟩)
def lkBody(n:Nat)(p:Qg)(kv:List (Int×List Qa))(ac:List Jg):Q7×Int->Option (Lp (Q7×Int) (Lp Q7 (Q7×Qe))):=λ(a:Q7×Int)=>
 bif decide ((0:Int)<=a.2) then (
  jn (λ(i:(Q7)->Option _)=>
   bif (mget kv a.2).isSome then (
    (some (([a.1.Y,((mget kv a.2).getD ([]:(List Qa)))]:List (List Qa)))).bind λz59=>
    (X8 n z59).bind λj=>
    i (⟨j.1,a.1.P⟩:Q7))
   else (
    i a.1)) (λ(e:Q7)=>
   bif decide (a.2=(0:Int)) then (
    some (Lp.out (Lp.go e)))
   else (
    (getI ac (wrap64 (a.2 - (1:Int)))).bind λf=>
    (Qdj n p f.T f.H f.Y e.Y).bind λd=>
    bif !(Qx d.2 (⟨0,0,0,0⟩:Qe)) then (
     some (Lp.out (Lp.out (((⟨[],[]⟩:Q7),(⟨d.2.Au,a.2,d.2.A0,d.2.At⟩:Qe))))))
    else (
     (X8 n ([e.P,d.1.P]:List (List Qa))).bind λl=>
     some (Lp.go ((⟨d.1.Y,l.1⟩:Q7),wrap64 (a.2 - (1:Int))))))))
 else (
  some (Lp.out (Lp.go a.1)))
theorem Jkq{n k d:Nat}{p:Qg}{h:Qy}{l:List Jj}{kv:List (Int×List Qa)}(hn:big<=n)(h0:1000<=k)(hk:k<8000)(hw:PrbW k p)(hP:p.P.length<=300)(hd:d<=300)(hA:∀ t∈tri h,TriK k d t)(hN:(tri h).length<=200)
 (hL:l.length<=5) (O:∀ x∈l,FR 129 x.W/\x.W.length=d) (R:∀ i,mget kv i=if rowsAt l i=[] then none else some (toR (foldA (List.replicate d 0) (rowsAt l i)))) :
 ∀(i u b:Nat) (g:List Rat×List Rat),i<=(tri h).length->QR 129 g.1->g.1.length=d->1<=b->QR b g.2->b+i*130<=30000->g.2.length=p.P.length->i<u ->
  (loopM (lkBody n p kv ((okT h.Ar).map nT)) u (⟨toR g.1,toR g.2⟩,(i:Int))).bind (lpK λ(Y:Q7)=>some (Y,(⟨0,0,0,0⟩:Qe))) =
   some (match lookQ p (tri h) (rowsAt l) i g with | .inl f=>(⟨[],[]⟩,f) | .inr z=>(⟨toR z.1,toR z.2⟩,⟨0,0,0,0⟩)) /\
  (∀ f,lookQ p (tri h) (rowsAt l) i g=.inl f->f.Au≠0)/\∀ z,lookQ p (tri h) (rowsAt l) i g=.inr z->QR 800 z.1/\QR 30000 z.2/\z.1.length=d/\z.2.length=p.P.length:=by
 have j:∀ i,∀ r∈rowsAt l i,QR 129 r/\r.length=d:=λi r hr=>by obtain⟨y,hy,rfl⟩:=Qps hr;obtain⟨F,N⟩:=O y hy;exact⟨QR_rv F oz,by rw[Jn,N]⟩
 have v:∀ i,(rowsAt l i).length*130<=650:=λi=>by have:=Qus l i;omega
 have I:∀(i:Int) (g:List Rat),QR 129 g->g.length=d->QR 800 (foldA g (rowsAt l i))/\(foldA g (rowsAt l i)).length=d:=λi g s q=>
  ⟨Q8 (Qn4 s λr hr=>(j i r hr).1) (by have:=v i;omega),Qjq q λr hr=>(j i r hr).2⟩
 have key:∀ {β:Type}(i:Int) (g:List Rat) (P:List Qa) (K:Q7->Option β),QR 129 g->g.length=d ->
  (bif (mget kv i).isSome then (some (([toR g,((mget kv i).getD ([]:(List Qa)))]:List (List Qa)))).bind λz59=>(X8 n z59).bind λW=>K (⟨W.1,P⟩:Q7) else K ⟨toR g,P⟩)=K ⟨toR (foldA g (rowsAt l i)),P⟩:=by
  intro β i g P K s q;rw[R i];by_cases e:rowsAt l i=[]
  rw[oq e,Option.isSome_none,bifF,e];rfl;have q0:QR 800 (foldA (List.replicate d 0) (rowsAt l i)):=(I i _ (Qjn oz) oc).1;have l0:(foldA (List.replicate d 0) (rowsAt l i)).length=d:=(I i _ (Qjn oz) oc).2;rw[ol e,Option.isSome_some,bifT,sbind,ut,Qb2 (k:=800) hn oz oz (K2 (Q8 s oz)) (K2 q0) (by rw[Jl];omega),oq (by rw[Jl,Jl,q,l0]),sbind,Vj,Vj,<-Q0k q λr hr=>(j i r hr).2]
 intro i
 induction i with
 | zero=>
   intro u b g hi s q Q G hb h4 S;obtain⟨m,rfl⟩:∃ m,u=m+1:=⟨u - 1,om⟩
   obtain⟨F,N⟩:=I ((0:Nat):Int) g.1 s q;have e:lkBody n p kv ((okT h.Ar).map nT) (⟨toR g.1,toR g.2⟩,((0:Nat):Int))=some (.out (.go ⟨toR (foldA g.1 (rowsAt l ((0:Nat):Int))),toR g.2⟩)):=by unfold lkBody;simp only[];rw[oo oz,bifT,jn_to (λV=>key _ _ _ V s q),oo oz,bifT]
   rw[Vv e om,sbind,Wv];refine⟨rfl,(λf J=>by cases J),λz U=>?_⟩;cases U;exact⟨F,Q8 G om,N,h4⟩
 | succ i ih=>
   intro u b g hi s q Q G hb h4 S;obtain⟨m,rfl⟩:∃ m,u=m+1:=⟨u - 1,om⟩
   obtain⟨F,N⟩:=I ((i+1:Nat):Int) g.1 s q;have B:i<(tri h).length:=om
   have hx:=Qti (A:=tri h) B;obtain⟨L,x2,x3,x4,M⟩:=hA _ hx;obtain⟨t,T,E⟩:∃ t,(okT h.Ar)[i]?=some t/\(tri h).getD i (0,0,[])=triT t:=by
    have C:i<(okT h.Ar).length:=by rw[<-Qmj];exact B
    exact⟨(okT h.Ar)[i],oi C,by unfold tri;rw[ou,xr,oi C];rfl⟩
   have hg:getI ((okT h.Ar).map nT) (wrap64 (((i+1:Nat):Int) - 1))=some (nT t):=by rw[w64 om om,show((i+1:Nat):Int) - 1=(i:Int) by omega];exact Jd (by rw[xr,T];rfl)
   rw[E] at L x2 x4 M;unfold triT at L x2 x4 M;simp only[] at L x2 x4 M;obtain⟨Z,d2,d3⟩:=Qmu (n:=n) (k:=k) (p:=p) (t:=toF (fv t.T)) (h:=toF (fv t.H)) (y:=toR (rv t.Y)) (w:=toR (foldA g.1 (rowsAt l ((i+1:Nat):Int)))) hn om hk hw (Jq L) (Jq x2) (K2 x4) (K2 (Q8 F om));rw[Jc,Jc,Vj,Vj] at Z d2 d3
   have eQ:lookQ p (tri h) (rowsAt l) (i+1) g=match backThQ p (fv t.T) (fv t.H) (rv t.Y) (foldA g.1 (rowsAt l ((i+1:Nat):Int))) with
    | .inl f=>.inl ⟨f.Au,((i+1:Nat):Int),f.A0,f.At⟩
    | .inr z=>lookQ p (tri h) (rowsAt l) i (z.2.1,addQ g.2 z.2.2):=by
    rw[lookQ,E];rfl
   have hbody:lkBody n p kv ((okT h.Ar).map nT) (⟨toR g.1,toR g.2⟩,((i+1:Nat):Int))=(Qdj n p (toF (fv t.T)) (toF (fv t.H)) (toR (rv t.Y)) (toR (foldA g.1 (rowsAt l ((i+1:Nat):Int))))).bind λa=>
    bif !(Qx a.2 (⟨0,0,0,0⟩:Qe)) then
     some (Lp.out (Lp.out (((⟨[],[]⟩:Q7),(⟨a.2.Au,((i+1:Nat):Int),a.2.A0,a.2.At⟩:Qe)))))
    else (X8 n ([toR g.2,a.1.P]:List (List Qa))).bind λX=>some (Lp.go ((⟨a.1.Y,X.1⟩:Q7),(i:Int))):=by
    unfold lkBody;simp only[];rw[oo om,bifT,jn_to (λV=>key _ _ _ V s q),oj om,bifF,hg,sbind];rw[w64 om om,show((i+1:Nat):Int) - 1=(i:Int) by omega];rfl
   rw[Z,sbind] at hbody;rw[eQ];cases H:backThQ p (fv t.T) (fv t.H) (rv t.Y) (foldA g.1 (rowsAt l ((i+1:Nat):Int))) with
   | inl f=>
     have J:=d2 f H;rw[H] at hbody;simp only[] at hbody;rw[show Qx f ⟨0,0,0,0⟩=false by obtain⟨f1,f2,f3,f4⟩:=f;exact K9 J,ow,bifT] at hbody;rw[Vv hbody om,sbind,Qap];exact⟨rfl,(λf' h'=>by cases h';exact J),λz U=>by cases U⟩
   | inr z=>
     obtain⟨_,z1,z2,z3,z4,z5⟩:=d3 z H;rw[H] at hbody;simp only[] at hbody;rw[Kz,ov,bifF,Qb2 (k:=30000) hn oz oz (K2 (Q8 G om)) (K2 (Q8 z2 oz)) (by rw[Jl];omega),oq (by rw[Jl,Jl];omega),sbind,Vj,Vj] at hbody;rw[Qbp hbody];simp only[];refine ih m (b+130) (z.2.1,addQ g.2 z.2.2) om z1 (by rw[z3,Jl,M]) om (Q8 (Ql1 G z2) om) om (by rw[Zu];omega) om
theorem Qqf{n k:Nat}{p:Qg}{h:Qy}{l:List Jj}(hn:big<=n)(h0:1000<=k)(hk:k<8000)(u:PrbW k p)(J:h.Ar.length<=200)(s:∀ t∈h.Ar,FT k t)(E:Fk k h.T)(F:FR k h.Y)(r:h.Y.length<=1000000)(B:l.length<=5)(j:∀ x∈l,FR 129 x.W/\x.W.length<=1000000):
 Qgc n p h l=some (match Qb3 p h l with | .inl f=>(⟨[],[]⟩,f) | .inr z=>(⟨toR z.1,toR z.2⟩,⟨0,0,0,0⟩)) /\
  (∀ f,Qb3 p h l=.inl f->f.Au≠0)/\∀ z,Qb3 p h l=.inr z->QR 800 z.1/\QR 30000 z.2/\z.1.length=h.Y.length/\z.2.length=p.P.length:=by
 unfold Qgc Qb3;simp only[jn_eq];rw[Qmg hn om hk u,sbind,bifnP];by_cases hr:prbR p
 case neg=>rw[ol hr,ol (λg=>hr g.1),bifT];exact⟨rfl,(λf h=>by cases h;decide),λz h=>by cases h⟩
 rw[oq hr,Qut hn om om om s E F r om (λx q=>(j x q).2),sbind,bifnP];by_cases hp:Qee h/\Qwx h l
 case neg=>rw[ol hp,ol (λg=>hp g.2.1),bifT];exact⟨rfl,(λf h=>by cases h;decide),λz h=>by cases h⟩
 rw[oq hp];by_cases hd:(h.Y.length:Int)=p.Tape.Ax
 case neg=>rw[oj hd,ol (λg=>hd g.2.2),ow,bifT];exact⟨rfl,(λf h=>by cases h;decide),λz h=>by cases h⟩
 rw[oo hd,oq ⟨hr,hp,hd⟩,ov,bifF];have e:p.P.length<=300:=by have I:=hr.2.2;obtain⟨⟨⟨_,_⟩,⟨G,H⟩,_⟩,_⟩:=hr.1;omega
 have a:h.Y.length<=300:=by have:=hp.1.l.2.2;omega
 have i:∀ x∈l,FR 129 x.W/\x.W.length=h.Y.length:=λx q=>⟨(j x q).1,(hp.2.2 x q).2.2⟩
 have C:(tri h).length<=200:=by have:=Qkg h.Ar;rw[Qmj];omega
 obtain⟨kv,v,A⟩:=Q9f (n:=n) (k:=129) (d:=h.Y.length) (l:=l) hn oz oz om a i;have eZ:Qm6 n (h.Y.length:Int) (p.P.length:Int)=some ⟨toR (List.replicate h.Y.length 0),toR (List.replicate p.P.length 0)⟩:=by unfold Qm6;rw[Qb6 hn a,sbind,Qb6 hn e,sbind]
 rw[v,sbind,Qdv hn om om om s,sbind,eZ,sbind];have m:=Jkq (n:=n) (k:=k) (d:=h.Y.length) (p:=p) (h:=h) (l:=l) (kv:=kv) hn h0 hk u e a (Jbt om hp.1 s) C B i A (tri h).length n 1 (List.replicate h.Y.length 0,List.replicate p.P.length 0) (xm _) (Qjn oz) oc (xm _) (Qjn oz) om oc (by unfold big at hn;omega);rw[show(((tri h).length:Nat):Int)=(((okT h.Ar).map nT).length:Int) by rw[Qmj,ot]] at m;exact m
def lkT(x:Qs):Jj:=⟨x.Ay,x.W.map tF⟩
theorem Qyt{n:Nat}{l:List Qs}(hn:big<=n)(e:l.length<=1000000)(d:∀ x∈l,x.W.length<=1000000):Qau n l=some (l.map lkT):=by unfold Qau;rw[V3 (λi=>((l.take i).map lkT,(i:Int))) l.length (l.map lkT)];intro i hi;have a:l[i]?=some l[i]:=oi hi;simp only[];rw[oo om,bifT,Jd a,sbind,sbind,Yt hn (d _ (xa hi)),sbind,J9 oh oh,sbind,w1 om,Xe lkT a];rfl;simp only[];rw[oj om,bifF,xh];unfold big at hn;omega;rw[gg];rfl
theorem Jdx{h:Qv}:((okR h.Ar).map (·.H)).length=(szs (tHis h)).length:=by unfold szs tHis okT okR;rw[ot,ot,List.filter_map,ot];rfl
theorem Qpt{n:Nat}{l:List Qs}(hn:big<=n):∃ v,Zs n l=some v/\(v=false->l.length<=5/\∀ x∈l,FL 6 2 x.W):=by
 have hlong:∀ x:Qs,∃ v,Q6 n x.W (6:Int) (2:Int)=some v/\(v=false->FL 6 2 x.W):=λx=>Yu (l:=x.W) (many:=6) (k:=2) hn oz;unfold Zs;rw[Qj7 (λi=>∀ x,l[i]?=some x->Q6 n x.W (6:Int) (2:Int)=some false) (min l.length 5) (r:=true)];by_cases h:∀ i,i<min l.length 5->∀ x,l[i]?=some x->Q6 n x.W (6:Int) (2:Int)=some false;rw[oq h];refine⟨_,rfl,λj=>?_⟩;have m:l.length<=5:=by have:=jz j;omega
 refine⟨m,λx d=>?_⟩;obtain⟨i,hi⟩:=List.mem_iff_getElem?.1 d;obtain⟨v,a,q⟩:=hlong x;rw[h i (by have:=J8 hi;omega) x hi] at a;cases a;exact q rfl;rw[ol h];exact⟨true,rfl,λj=>by cases j⟩;intro i hi;have f:i<l.length:=om
 have d:l[i]?=some l[i]:=oi f;obtain⟨v,a,_⟩:=hlong l[i];simp only[jn_eq];rw[oo om,bifT,oo om,bifT,Jd d,sbind,a,sbind,w1 om];constructor;intro g;have:=g _ d;rw[a] at this;cases this;rw[bifF];intro g;cases v;exact absurd (λx e=>by rw[d] at e;cases e;exact a) g;rw[bifT];simp only[jn_eq];by_cases m:l.length<=5;rw[oj om,bifF,bifF];rw[oo om,bifT,oj om,bifF];unfold big at hn;omega
theorem w46:Ku big=some true:=ox
theorem Qvv{t:Qp}{s:Q1}{lim:Int}{T H:Rat}{P W:List Rat}{yss:List (List Rat)}:∀ {i:Nat}{a z},BdL t.Ax.toNat t.A1.toNat a->bstagesQ t s lim T H P W yss i a=.inr z->BdL t.Ax.toNat t.A1.toNat z
 | 0,a,z,d,h=>by simp only[bstagesQ] at h;cases h;exact d
 | i+1,a,z,d,h=>by
   simp only[bstagesQ] at h;cases hs:bstageQ t lim T H P (yss.getD i []) ((rv s.C).getD i 0) (bslQ (s.A.map rv) ((rv s.B).getD i 0) H W i a.ls) i with
   | inl f=>rw[hs] at h;cases h
   | inr g=>
     rw[hs] at h;have e:g.1.length=t.Ax.toNat/\g.2.length=t.A1.toNat:=by obtain⟨x,j,l⟩:=Q2b hs;rw[l];exact Jbq j
     exact Qvv (d.step e.1 e.2) h
theorem Q2c{p:Qg}{T H:Rat}{Y W:List Rat}{z}(h:backThQ p T H Y W=.inr z):z.2.1.length=p.Tape.Ax.toNat:=by obtain⟨d,e⟩:=Qvt h;obtain⟨_,_,hb⟩:=Qur h;obtain⟨x,a,f⟩:=Q25 hb;have:=Qvv ⟨d,by simp only[ue];exact e,λ_ h=>by cases h⟩ a;rw[f];show x.Y.length=_;exact this.y
end Go.Proofs.YtjmfkenegjhohaaGreatDoor
