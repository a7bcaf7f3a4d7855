import Derived.Test.YtmnlcblemgjeeaaGreatDoorP1
namespace Go.Proofs.YtmnlcblemgjeeaaGreatDoor
open Go Go.RowKit
theorem Qqa{a:Int}:∀ {l:List Rat}{i j:Nat},fitQ a l i=some j->j<i+l.length
 | [],i,j,h=>by simp[fitQ] at h
 | q::l,i,j,h=>by simp only[fitQ] at h;split at h;have:=Qqa h;simp;omega;cases h;simp
structure MadeQ where
 ys:List (List Rat)
 ks:List (List Rat)
 next:List Rat
 err:List Rat
def towQ(H:Rat)(m:Nat)(c:List Rat)(kss:List (List Rat)):List Rat:=scaleQ H (mixQ c kss (List.replicate m 0))
def fromQ(H:Rat)(Y c:List Rat)(kss:List (List Rat)):List Rat:=addQ Y (towQ H Y.length c kss)
def stageQ(t:Qs)(d:Int)(T H:Rat)(Y P:List Rat)(a:List Rat)(c:Rat)(i:Nat)(kss:List (List Rat)):Qc ⊕ (List Rat×List Rat):=
 match fitQ d (fromQ H Y a kss) 0 with
 | some j=>.inl ⟨6,0,(i:Int),300+(j:Int)⟩
 | none=>match fieldQ t d (T+H*c) (fromQ H Y a kss) P with
   | .inl e=>.inl ⟨e.1,0,(i:Int),(e.2:Int)⟩
   | .inr k=>.inr (fromQ H Y a kss,k)
def stagesQ(t:Qs)(d:Int)(T H:Rat)(Y P:List Rat):List (List Rat×Rat)->Nat->List (List Rat)->List (List Rat)->Qc ⊕ (List (List Rat)×List (List Rat))
 | [],_,a,kss=>.inr (a,kss)
 | x::r,i,a,kss=>match stageQ t d T H Y P x.1 x.2 i kss with
   | .inl f=>.inl f
   | .inr z=>stagesQ t d T H Y P r (i+1) (a++[z.1]) (kss++[z.2])
def endQ(s:Qg)(a:Int)(H:Rat)(Y:List Rat)(d kss:List (List Rat)):Qc ⊕ MadeQ:=
 match fitQ a (fromQ H Y (rv s.B) kss) 0 with
 | some j=>.inl ⟨6,0,(s.B.length:Int),300+(j:Int)⟩
 | none=>match fitQ a (if gapQ s=[] then [] else towQ H Y.length (gapQ s) kss) 0 with
   | some j=>.inl ⟨6,0,(s.B.length:Int)+1,300+(j:Int)⟩
   | none=>.inr ⟨d,kss,fromQ H Y (rv s.B) kss,if gapQ s=[] then [] else towQ H Y.length (gapQ s) kss⟩
def doQ(t:Qs)(s:Qg)(a:Int)(T H:Rat)(Y P:List Rat):Qc ⊕ MadeQ:=
 match stagesQ t a T H Y P (List.zip (s.A.map rv) (rv s.C)) 0 [] [] with
 | .inl f=>.inl f
 | .inr z=>endQ s a H Y z.1 z.2
def toRR(l:List (List Rat)):List (List Qa):=l.map toR
theorem Qeu(l:List (List Rat)):(toRR l).length=l.length:=by unfold toRR;simp
theorem Quv(l:List (List Rat)):(toRR l).map rv=l:=by
 unfold toRR;rw[va]
 conv=>rhs;rw[<-List.map_id l]
 exact List.map_congr_left λq _=>Qf0 q
theorem Qo6{l:List (List Rat)}{P:List Qa->Prop}(h:∀ a∈l,P (toR a)):∀ a∈toRR l,P a:=λa d=>by obtain⟨q,e,rfl⟩:=xd.1 d;exact h q e
theorem Qsr(m:Nat):QR 1 (List.replicate m 0):=λq a=>by rw[(List.mem_replicate.1 a).2,Yx];exact ot _
theorem Ql7{k m:Nat}{H:Rat}{c:List Rat}{kss:List (List Rat)}(e:qw H<=k)(f:QR k c)(hk:∀ a∈kss,QR 129 a)(i:kss.length<=8)(h0:129<=k):QR (20*k) (towQ H m c kss):=by have d:=Qkv (z:=List.replicate m 0) f hk (Qsr m);have j:kss.length*(k+129+1)<=8*(k+129+1):=xg _ i;exact V8 (Qjs e d) om
theorem Qo7{k:Nat}{H:Rat}{Y c:List Rat}{kss:List (List Rat)}(e:QR k Y)(d:qw H<=k)(f:QR k c)(hk:∀ a∈kss,QR 129 a)(i:kss.length<=8)(h0:129<=k):QR (22*k) (fromQ H Y c kss):=
 V8 (Qso e (Ql7 d f hk i h0)) om
theorem Ql8{m:Nat}{H:Rat}{c:List Rat}{kss:List (List Rat)}(hk:∀ a∈kss,a.length=m):(towQ H m c kss).length=m:=by unfold towQ;rw[Qgi];exact Qgj hk oa
theorem Qo8{H:Rat}{Y c:List Rat}{kss:List (List Rat)}(hk:∀ a∈kss,a.length=Y.length):(fromQ H Y c kss).length=Y.length:=by unfold fromQ;rw[Qo1,Ql8 hk,Nat.min_self]
section
variable {n k:Nat}{p:Qn}{t h:Qa}{y:List Qa}{g:Qf}{ys ks:List (List Qa)}{nx er:List Qa}
theorem Qjc{c:List Qa}{kss:List (List Rat)}(hn:big<=n)(h0:129<=k)(hk:k<16384)(q:Fk k h)(m:FR k c)(e:∀ a∈kss,QR 129 a)(r:kss.length<=8)(i:c.length=kss.length)(d:∀ a∈kss,a.length=y.length)(hy:y.length<=6):
 Jh n p t h y g ys (toRR kss) nx er c=some (toR (towQ (fv h) y.length (rv c) kss)):=by
 unfold Jh;rw[Qjt,Qo4 (j:=k) (k:=129) hn om om om om m (Qo6 λa f=>Qaz (e a f)) om (by rw[Qeu];omega),sbind,oi ⟨by rw[Qeu,i],Qo6 λa f=>by rw[Kx];exact d a f⟩];rw[Quv];have hm:=Qkv (z:=List.replicate y.length 0) (QR_rv m om) e (Qsr y.length);have s:kss.length*(k+129+1)<=8*(k+129+1):=xg _ r;have l:=Qgj (cs:=rv c) d (show(List.replicate y.length (0:Rat)).length=y.length by simp);rw[Qf1 (k:=20*k) hn om om (Wg q om) (Qaz (V8 hm om)) (by rw[Kx,l];omega),sbind,Qf0];rfl
theorem Qmx{c:List Qa}{kss:List (List Rat)}(hn:big<=n)(h0:129<=k)(hk:k<16384)(q:Fk k h)(j:FR k y)(l:FR k c)(e:∀ a∈kss,QR 129 a)(r:kss.length<=8)(f:c.length=kss.length)(d:∀ a∈kss,a.length=y.length)(hy:y.length<=6):
 Kq n p t h y g ys (toRR kss) nx er c=some (toR (fromQ (fv h) (rv y) (rv c) kss)):=by
 unfold Kq;have s:=Ql7 (m:=y.length) (qw_fv q om) (QR_rv l om) e r h0;have i:=Ql8 (H:=fv h) (c:=rv c) d;rw[Qjc hn h0 hk q l e r f d hy,sbind,Qhy (k:=20*k) hn om om (Qbp j om) (Qaz s) om,sbind,Kx,i,oi rfl,Qf0];unfold fromQ;rw[Jg]
theorem Qh1{l:List Rat}{x2:Int}(hn:big<=n)(i:QR 1099511627775 l)(m:l.length<=1000):
 ∃ a,a.limit=g.limit/\Jp n p t h y g ys ks nx er (toR l) x2=some (match fitQ g.limit l 0 with | none=>(⟨0,0,0,0⟩,a) | some j=>(⟨6,0,x2,300+(j:Int)⟩,a)):=by
 obtain⟨a,d,e⟩:=Qtl (g:=g) hn i;refine⟨a,d,?_⟩;unfold Jp;rw[e,sbind];cases f:fitQ g.limit l 0 with
 | none=>rfl
 | some j=>
   have:=Qqa f;simp only[xw,bifT];rw[w64 om om]
structure PrbOK(n k:Nat)(p:Qn)(t h:Qa)(y:List Qa):Prop where
 tp:Qsp n k p.Tape
 sw:SchW k p.Ge
 sr:schR p.Ge
 pk:FR k p.P
 pl:(p.P.length:Int)=p.Tape.Par
 tk:Fk k t
 hk:Fk k h
 yk:FR k y
 yl:(y.length:Int)=p.Tape.Dim
def limQ(bits:Int):Int:=min (max bits 0) 4096
theorem Qpp{i:Nat}{c:Qa}(hn:big<=n)(h0:129<=k)(hk:k<16384)(j:Fk k t)(e:Fk k h)(a:Fk k c)(d:p.Ge.C[i]?=some c):Y8 n p t h (i:Int)=some (toF (fv t+fv h*fv c)):=by have hi:=Jt d;have f:=Xj (qw_fv e om) (qw_fv a om);unfold Y8;simp only[jn_eq];rw[oo (show ¬(i:Int)<0 by omega),bifF,oo (show ¬(p.Ge.C.length:Int)<=(i:Int) by omega),bifF,Ws d,sbind,Vc hn om om e a,sbind,Wv (k:=4*k) hn om om (Wg j om) (Kf om),sbind,Jn]
theorem Qrc{i:Nat}{a:List Qa}{c:Qa}{kss:List (List Rat)}(hn:big<=n)(h0:129<=k)(hk:k<16384)(ok:PrbOK n k p t h y)(O:g.limit=limQ p.Bits)
 (B:p.Ge.A[i]?=some a) (G:p.Ge.C[i]?=some c) (S:ys.length<=8) (u:∀ a∈kss,QR 129 a) (Q:kss.length=i) (s:∀ a∈kss,a.length=y.length) :
 ∃ A,A.limit=g.limit/\∃ r,Kd n p t h y g ys (toRR kss) nx er (i:Int)=some r /\
   match stageQ p.Tape (limQ p.Bits) (fv t) (fv h) (rv y) (rv p.P) (rv a) (fv c) i kss with
   | .inl f=>r.1=f/\f.Gf≠0
   | .inr z=>r=(⟨0,0,0,0⟩,p,t,h,y,nx,er,A,ys++[toR z.1],toRR (kss++[z.2]))/\QR 129 z.2/\z.2.length=y.length:=by
 obtain⟨⟨U,V⟩,⟨W,X⟩,Z,d6⟩:=ok.tp.r.1;obtain⟨⟨g1,g2⟩,g3,g4,g5,L⟩:=ok.sr.2.1;have hi:=Jt B;have C:=ok.yl;have d:=ok.sw.a a (Q1 B);have m:=ok.sw.c c (Q1 G);have N:=L i a B;have F:=Qo7 (QR_rv ok.yk om) (qw_fv ok.hk om) (QR_rv d om) u om h0;have q:=Qo8 (H:=fv h) (Y:=rv y) (c:=rv a) (kss:=kss) (by rw[Jg];exact s);rw[Jg] at q;unfold Kd;rw[Ws B,sbind,Qmx hn h0 hk ok.hk ok.yk d u om om s om,sbind];obtain⟨A,J,K⟩:=Qh1 (p:=p) (t:=t) (h:=h) (y:=y) (g:=g) (ys:=ys) (ks:=toRR kss) (nx:=nx) (er:=er) (x2:=(i:Int)) hn (V8 F (show 22*k<=1099511627775 by omega)) om;refine⟨A,J,?_⟩;rw[K,sbind,O];unfold stageQ;cases hf:fitQ (limQ p.Bits) (fromQ (fv h) (rv y) (rv a) kss) 0 with
 | some j=>
   simp only[];rw[Qbq oy,xw,bifT];exact⟨_,rfl,rfl,oy⟩
 | none=>
   simp only[];rw[Qag,xz,bifF];unfold Qe0;have w:=Xj (qw_fv ok.hk om) (qw_fv m om);have E:=Qdi (qw_fv ok.tk om) w;rw[Qpp hn h0 hk ok.tk ok.hk m G,sbind,sbind];have M:=Ql6 (k:=22*k) (t:=p.Tape) (p:=⟨toF (fv t+fv h*fv c),toR (fromQ (fv h) (rv y) (rv a) kss),p.P⟩) (bits:=p.Bits) hn om om ⟨ok.tp.r,ok.tp.h,λx R=>Wg (ok.tp.w x R) om⟩ (Kf om) (Qaz F) (Qbp ok.pk om) (by simp only[Kx,q];exact C) ok.pl;rw[M,sbind];simp only[];rw[Jn,Qf0];have v:limQ p.Bits=min (max p.Bits 0) 4096:=rfl;rw[v];cases I:fieldQ p.Tape (min (max p.Bits 0) 4096) (fv t+fv h*fv c) (fromQ (fv h) (rv y) (rv a) kss) (rv p.P) with
   | inl e=>
     have P:=Qpo I;simp only[];rw[Qbq om,xw,bifT];exact⟨_,rfl,rfl,by show e.1≠0;omega⟩
   | inr l=>
     obtain⟨q1,T⟩:=Qsq om I;simp only[];rw[Qag,xz,bifF,Zp oe oe,sbind,Zp (by rw[Qeu];simp;omega) (by rw[Qeu];simp;omega),sbind];refine⟨_,rfl,?_,T,om⟩;unfold toRR;rw[yd];rfl
end
section
variable {n k:Nat}{p:Qn}{t h:Qa}{y:List Qa}
def pairQ(s:Qg):List (List Rat×Rat):=List.zip (s.A.map rv) (rv s.C)
theorem Qss{s:Qg}{i:Nat}{a:List Qa}{c:Qa}(e:s.A[i]?=some a)(f:s.C[i]?=some c):(pairQ s).drop i=(rv a,fv c)::(pairQ s).drop (i+1):=by
 have d:(pairQ s)[i]?=some (rv a,fv c):=by unfold pairQ rv;rw[List.getElem?_zip_eq_some];simp only[xo];exact⟨by rw[e];rfl,by rw[f];rfl⟩
 have hi:=Jt d;rw[xi hi];congr 1;rw[ow hi] at d;exact Option.some.inj d
theorem Qtn{g:Qf}(hn:big<=n)(h0:129<=k)(hk:k<8000)(ok:PrbOK n k p t h y)(P:g.limit=limQ p.Bits):
 ∃ r,Wa n p t h y g [] [] [] []=some r /\
   match doQ p.Tape p.Ge (limQ p.Bits) (fv t) (fv h) (rv y) (rv p.P) with
   | .inl f=>r.1=f/\f.Gf≠0
   | .inr z=>∃ A,r=(⟨0,0,0,0⟩,p,t,h,y,toR z.next,toR z.err,A,toRR z.ys,toRR z.ks)/\z.ys.length=p.Ge.B.length/\z.ks.length=p.Ge.B.length:=by
 obtain⟨⟨d1,d2⟩,⟨d3,d4⟩,d5,d6⟩:=ok.tp.r.1;obtain⟨⟨g1,g2⟩,g3,g4,L,g6⟩:=ok.sr.2.1;have hyl:=ok.yl;unfold Wa
 have key:∀(F:List Qa) (i:Nat) (g:Qf) (m kss:List (List Rat)) (K:(Qn×Qa×Qa×(List Qa)×Qf×(List (List Qa))×(List (List Qa))×(List Qa)×(List Qa))->Option (Qc×Qn×Qa×Qa×(List Qa)×(List Qa)×(List Qa)×Qf×(List (List Qa))×(List (List Qa)))),
  i+F.length=p.Ge.B.length->m.length=i->kss.length=i->(∀ a∈kss,QR 129 a)->(∀ a∈kss,a.length=y.length)->g.limit=limQ p.Bits ->
  match stagesQ p.Tape (limQ p.Bits) (fv t) (fv h) (rv y) (rv p.P) ((pairQ p.Ge).drop i) i m kss with
  | .inl f=>∃ r,(rangeL (λ(B:Nat) (_:Qa) (l:Qn×Qa×Qa×(List Qa)×Qf×(List (List Qa))×(List (List Qa))×(List Qa)×(List Qa))=>
  (Kd n l.1 l.2.1 l.2.2.1 l.2.2.2.1 l.2.2.2.2.1 l.2.2.2.2.2.1 l.2.2.2.2.2.2.1 l.2.2.2.2.2.2.2.1 l.2.2.2.2.2.2.2.2 (B:Int)).bind λe=>
  bif !(Qt e.1 (⟨0,0,0,0⟩:Qc)) then (
   some (Lp.out ((e.1,e.2.1,e.2.2.1,e.2.2.2.1,e.2.2.2.2.1,e.2.2.2.2.2.1,e.2.2.2.2.2.2.1,e.2.2.2.2.2.2.2.1,e.2.2.2.2.2.2.2.2.1,e.2.2.2.2.2.2.2.2.2))))
  else (
   some (Lp.go (e.2.1,e.2.2.1,e.2.2.2.1,e.2.2.2.2.1,e.2.2.2.2.2.2.2.1,e.2.2.2.2.2.2.2.2.1,e.2.2.2.2.2.2.2.2.2,e.2.2.2.2.2.1,e.2.2.2.2.2.2.1)))) F i (p,t,h,y,g,toRR m,toRR kss,[],[])).bind (lpK K)=some r/\r.1=f/\f.Gf≠0
   | .inr z=>∃ A,A.limit=limQ p.Bits/\(rangeL (λ(B:Nat) (_:Qa) (l:Qn×Qa×Qa×(List Qa)×Qf×(List (List Qa))×(List (List Qa))×(List Qa)×(List Qa))=>
  (Kd n l.1 l.2.1 l.2.2.1 l.2.2.2.1 l.2.2.2.2.1 l.2.2.2.2.2.1 l.2.2.2.2.2.2.1 l.2.2.2.2.2.2.2.1 l.2.2.2.2.2.2.2.2 (B:Int)).bind λe=>
  bif !(Qt e.1 (⟨0,0,0,0⟩:Qc)) then (
   some (Lp.out ((e.1,e.2.1,e.2.2.1,e.2.2.2.1,e.2.2.2.2.1,e.2.2.2.2.2.1,e.2.2.2.2.2.2.1,e.2.2.2.2.2.2.2.1,e.2.2.2.2.2.2.2.2.1,e.2.2.2.2.2.2.2.2.2))))
  else (
   some (Lp.go (e.2.1,e.2.2.1,e.2.2.2.1,e.2.2.2.2.1,e.2.2.2.2.2.2.2.1,e.2.2.2.2.2.2.2.2.1,e.2.2.2.2.2.2.2.2.2,e.2.2.2.2.2.1,e.2.2.2.2.2.2.1)))) F i (p,t,h,y,g,toRR m,toRR kss,[],[])).bind (lpK K)=K (p,t,h,y,A,toRR z.1,toRR z.2,[],[])/\z.1.length=p.Ge.B.length/\z.2.length=p.Ge.B.length/\(∀ a∈z.2,QR 129 a)/\∀ a∈z.2,a.length=y.length:=by
  intro F
  induction F with
  | nil=>
    intro i g m kss K hi hy1 R hq Z P;have v:(pairQ p.Ge).drop i=[]:=by apply List.drop_eq_nil_of_le;unfold pairQ;simp only[wh,xa] at hi;rw[List.length_zip,Jg,xb];omega
    rw[v];simp only[stagesQ];simp only[wh,xa] at hi;exact⟨g,P,rfl,om,om,hq,Z⟩
  | cons b F ih=>
    intro i g m kss K hi hy1 R hq Z P;rw[xy] at hi;have q:p.Ge.A[i]?=some (p.Ge.A[i]' om):=ow om;have hc:p.Ge.C[i]?=some (p.Ge.C[i]' om):=ow om;rw[Qss q hc];generalize p.Ge.A[i]' om=a at q;generalize p.Ge.C[i]' om=c at hc;simp only[stagesQ,rangeL];obtain⟨A,e1,r,e2,J⟩:=Qrc (g:=g) (ys:=toRR m) (nx:=[]) (er:=[]) hn h0 om ok P q hc (by rw[Qeu];omega) hq R Z;rw[e2,sbind];cases hs:stageQ p.Tape (limQ p.Bits) (fv t) (fv h) (rv y) (rv p.P) (rv a) (fv c) i kss with
    | inl f=>
      rw[hs] at J;obtain⟨G,X⟩:=J;obtain⟨⟨f1,f2,f3,f4⟩,r⟩:=r;simp only[] at G;subst G;simp only[];rw[Qbq X,xw,bifT,sbind];exact⟨_,rfl,rfl,X⟩
    | inr z=>
      rw[hs] at J;obtain⟨G,X,e6⟩:=J;subst G;simp only[];rw[Qag,xz,bifF,sbind]
      have:=ih (i+1) A (m++[z.1]) (kss++[z.2]) K om oe oe (λa q=>by
       rcases uy.1 q with q | q
       . exact hq a q
       . rw[ue.1 q];exact X) (λa q=>by
       rcases uy.1 q with q | q
       . exact Z a q
       . rw[ue.1 q];exact e6) om
      have e7:toRR m++[toR z.1]=toRR (m++[z.1]):=by unfold toRR;rw[yd];rfl
      rw[e7];exact this
 generalize hK:(λ(d:Qn×Qa×Qa×(List Qa)×Qf×(List (List Qa))×(List (List Qa))×(List Qa)×(List Qa))=>
  (Kq n d.1 d.2.1 d.2.2.1 d.2.2.2.1 d.2.2.2.2.1 d.2.2.2.2.2.1 d.2.2.2.2.2.2.1 d.2.2.2.2.2.2.2.1 d.2.2.2.2.2.2.2.2 p.Ge.B).bind λu=>
 (Jp n d.1 d.2.1 d.2.2.1 d.2.2.2.1 d.2.2.2.2.1 d.2.2.2.2.2.1 d.2.2.2.2.2.2.1 u d.2.2.2.2.2.2.2.2 u (p.Ge.B.length:Int)).bind λx=>
 bif !(Qt x.1 (⟨0,0,0,0⟩:Qc)) then (
  some (x.1,d.1,d.2.1,d.2.2.1,d.2.2.2.1,u,d.2.2.2.2.2.2.2.2,x.2,d.2.2.2.2.2.1,d.2.2.2.2.2.2.1))
 else (
  jn (λ(S:((List Qa))->Option _)=>
   (Yq n p.Ge).bind λV=>
   bif decide ((0:Int)<(V.length:Int)) then (
    (Jh n d.1 d.2.1 d.2.2.1 d.2.2.2.1 x.2 d.2.2.2.2.2.1 d.2.2.2.2.2.2.1 u d.2.2.2.2.2.2.2.2 V).bind λC=>
    S C)
   else (
    S d.2.2.2.2.2.2.2.2)) (λ(E:(List Qa))=>
   (Jp n d.1 d.2.1 d.2.2.1 d.2.2.2.1 x.2 d.2.2.2.2.2.1 d.2.2.2.2.2.2.1 u E E (wrap64 ((p.Ge.B.length:Int)+(1:Int)))).bind λW=>
   some (W.1,d.1,d.2.1,d.2.2.1,d.2.2.2.1,u,E,W.2,d.2.2.2.2.2.1,d.2.2.2.2.2.2.1))))=K
 have I:=key p.Ge.B 0 g [] [] K om rfl rfl (λ_ h=>by cases h) (λ_ h=>by cases h) P;unfold doQ;rw[List.drop_zero] at I;unfold pairQ at I;cases hs:stagesQ p.Tape (limQ p.Bits) (fv t) (fv h) (rv y) (rv p.P) (List.zip (p.Ge.A.map rv) (rv p.Ge.C)) 0 [] [] with
 | inl f=>
   rw[hs] at I;exact I
 | inr z=>
   rw[hs] at I;obtain⟨A,q1,q2,q3,q4,T,U⟩:=I;obtain⟨m,kss⟩:=z;simp only[] at q2 q3 q4 T U |-;have e0:toRR []=[]:=rfl;rw[e0] at q2;rw[q2,<-hK];simp only[];have hbB:=Qo7 (QR_rv ok.yk om) (qw_fv ok.hk om) (QR_rv ok.sw.b om) T om h0;have hlB:=Qo8 (H:=fv h) (Y:=rv y) (c:=rv p.Ge.B) (kss:=kss) (by rw[Jg];exact U);rw[Jg] at hlB;have Q:=Qwf (k:=k) (s:=p.Ge) om ok.sw;rw[Qmx hn h0 om ok.hk ok.yk ok.sw.b T om om U om,sbind];obtain⟨w,e1,e2⟩:=Qh1 (p:=p) (t:=t) (h:=h) (y:=y) (g:=A) (ys:=toRR m) (ks:=toRR kss) (nx:=toR (fromQ (fv h) (rv y) (rv p.Ge.B) kss)) (er:=[]) (x2:=(p.Ge.B.length:Int)) hn (V8 hbB (show 22*k<=1099511627775 by omega)) om;rw[e2,sbind,q1];unfold endQ;cases hf:fitQ (limQ p.Bits) (fromQ (fv h) (rv y) (rv p.Ge.B) kss) 0 with
   | some j=>
     simp only[];rw[Qbq oy,xw,bifT];exact⟨_,rfl,rfl,oy⟩
   | none=>
     simp only[];rw[Qag,xz,bifF,jn_eq,Qkz hn om om ok.sw ok.sr,sbind,Kx];have hE:((Jh n p t h y w (toRR m) (toRR kss) (toR (fromQ (fv h) (rv y) (rv p.Ge.B) kss)) [] (toR (gapQ p.Ge)))=some (toR (towQ (fv h) y.length (gapQ p.Ge) kss))\/gapQ p.Ge=[])/\QR (41*k+1000) (if gapQ p.Ge=[] then [] else towQ (fv h) y.length (gapQ p.Ge) kss)/\(if gapQ p.Ge=[] then [] else towQ (fv h) y.length (gapQ p.Ge) kss).length<=1000:=by
      by_cases v:gapQ p.Ge=[]
      . rw[oi v];exact⟨.inr v,λ_ h=>(by cases h),oa⟩
      . have O:p.Ge.E.length=p.Ge.B.length:=by
         rcases L with L | L
         . exact L
         . exact absurd (by unfold gapQ;rw[oi (oq L)]) v
        have hgl:(gapQ p.Ge).length=p.Ge.B.length:=by unfold gapQ;rw[oh (λh=>by rw[h] at O;simp at O;omega),Qo1,Qgi,Jg,Jg];omega
        rw[oh v];have ht:=Qjc (k:=2*k+2) (p:=p) (t:=t) (h:=h) (y:=y) (g:=w) (ys:=toRR m) (nx:=toR (fromQ (fv h) (rv y) (rv p.Ge.B) kss)) (er:=[]) (c:=toR (gapQ p.Ge)) (kss:=kss) hn om om (Wg ok.hk om) (Qaz Q) T om (by rw[Kx];omega) U om;rw[Qf0] at ht;refine⟨.inl ht,V8 (Ql7 (k:=2*k+2) (ov (qw_fv ok.hk om) om) Q T om om) om,?_⟩;rw[Ql8 U];omega
     obtain⟨hE1,M,N⟩:=hE;have hj:∀ {β:Type}(f:List Qa->Option β),(bif decide ((0:Int)<((gapQ p.Ge).length:Int)) then (Jh n p t h y w (toRR m) (toRR kss) (toR (fromQ (fv h) (rv y) (rv p.Ge.B) kss)) [] (toR (gapQ p.Ge))).bind λC=>f C else f [])=f (toR (if gapQ p.Ge=[] then [] else towQ (fv h) y.length (gapQ p.Ge) kss)):=by
      intro β f;by_cases v:gapQ p.Ge=[]
      . rw[oi v,v];rfl
      . have:(gapQ p.Ge).length≠0:=λh=>v (oq h)
        rw[oh v,ou om,bifT,hE1.resolve_right v,sbind]
     rw[hj,w1 om,Jg];generalize (if gapQ p.Ge=[] then [] else towQ (fv h) y.length (gapQ p.Ge) kss)=er at M N |-;obtain⟨g3',J,G⟩:=Qh1 (p:=p) (t:=t) (h:=h) (y:=y) (g:=w) (ys:=toRR m) (ks:=toRR kss) (nx:=toR (fromQ (fv h) (rv y) (rv p.Ge.B) kss)) (er:=toR er) (x2:=((p.Ge.B.length+1:Nat):Int)) hn (V8 M (show 41*k+1000<=1099511627775 by omega)) N;rw[G,sbind,show w.limit=limQ p.Bits by omega];cases hf2:fitQ (limQ p.Bits) er 0 with
     | some j=>exact⟨_,rfl,rfl,by show(6:Int)≠0;decide⟩
     | none=>exact⟨_,rfl,g3',rfl,q3,q4⟩
theorem Qk0(hn:big<=n)(d:1<=k)(hk:k<1048576)(e:TW p.Tape)(hd:-9223372036854775808<=p.Tape.Dim/\p.Tape.Dim<=9223372036854775807)(hs:SchW k p.Ge):
 Yo n p=some (dP (tapeR p.Tape/\schR p.Ge/\(p.P.length:Int)=p.Tape.Par)):=by
 unfold Yo;simp only[jn_eq];rw[Qe8 hn e hd,sbind,bifP];by_cases c1:tapeR p.Tape;rw[oi c1,Qap hn d hk hs,sbind,bifP];by_cases a:schR p.Ge;rw[oi a];exact Ya ⟨λh=>⟨c1,a,h⟩,λh=>h.2.2⟩;rw[oh a,dP_f λh=>a h.2.1];rw[oh c1,dP_f λh=>c1 h.1]
end
theorem Zw(f:Qi)(k:Nat):Js f (k:Int)=some (!decide (f.N.length<=k/\f.D.length<=k)):=by unfold Js;simp only[jn_eq,bifd];by_cases h:(k:Int)<(f.N.length:Int);rw[oi h,oo om];rfl;rw[oh h];by_cases g:(k:Int)<(f.D.length:Int);rw[ou g,oo om];rfl;rw[oo g,ou om];rfl
def tF(x:Qi):Qa:=⟨⟨x.Neg,x.N⟩,x.D⟩
theorem Qa7{n:Nat}{l:List Qi}(hn:big<=n)(d:l.length<=1000000):J5 n l=some (l.map tF):=by unfold J5;rw[Qbc (λi=>((l.take i).map tF,(i:Int))) l.length (l.map tF)];intro i hi;have a:l[i]?=some l[i]:=ow hi;generalize l[i]=p at a;simp only[bifd,J4,sbind];rw[oi om,Ws a,sbind,Zp oe oe,sbind,w1 om,Qdx tF a];rfl;simp only[bifd];rw[oh om,uh];unfold big at hn;omega;rfl
theorem Qnp{n:Nat}{l:List (List Qi)}(hn:big<=n)(e:l.length<=1000000)(d:∀ r∈l,r.length<=1000000):V3 n l=some (l.map (·.map tF)):=by unfold V3;rw[Qbc (λi=>((l.take i).map (·.map tF),(i:Int))) l.length (l.map (·.map tF))];intro i hi;have a:l[i]?=some l[i]:=ow hi;generalize l[i]=p at a;simp only[bifd];rw[oi om,Ws a,sbind,Qa7 hn (d p (Q1 a)),sbind,Zp oe oe,sbind,w1 om,Qdx (·.map tF) a];simp only[bifd];rw[oh om,uh];unfold big at hn;omega;rfl
def FL(many k:Nat)(l:List Qi):Prop:=l.length<=many/\∀ x∈l,x.N.length<=k/\x.D.length<=k
theorem Zx{n:Nat}{l:List Qi}{many k:Nat}(hn:big<=n)(hm:many<=1000000):∃ v,Q2 n l (many:Int) (k:Int)=some v/\(v=false->FL many k l):=by unfold Q2;rw[Qoz (λi=>∀ c,l[i]?=some c->c.N.length<=k/\c.D.length<=k) (min l.length many) (r:=true)];by_cases h:∀ i,i<min l.length many->∀ c,l[i]?=some c->c.N.length<=k/\c.D.length<=k;rw[oi h];refine⟨_,rfl,λe=>⟨by have:=of_decide_eq_false e;omega,λc f=>?_⟩⟩;have:=of_decide_eq_false e;obtain⟨i,hi⟩:=wd f;exact h i (by have:=Jt hi;omega) c hi;rw[oh h];exact⟨true,rfl,λh=>by cases h⟩;intro i hi;have a:l[i]?=some l[i]:=ow om;generalize l[i]=c at a;simp only[jn_eq,bifd];rw[oi om,oi om,Ws a,sbind,Zw,sbind];by_cases h:c.N.length<=k/\c.D.length<=k;rw[ou h,xz,bifF,w1 om];exact⟨λ_=>rfl,λg=>absurd (λd hd=>by rw[a] at hd;cases hd;exact h) g⟩;rw[oo h,xw,bifT];exact⟨λg=>absurd (g c a) h,λ_=>rfl⟩;simp only[jn_eq,bifd];by_cases h:min l.length many<l.length;rw[oi om,oh om];rw[oh om,bifF];unfold big at hn;omega
theorem Qk1{n:Nat}{s:Q6}{many k:Nat}(hn:big<=n)(hm:many<=1000000):∃ v,Vm n s (many:Int) (k:Int)=some v /\
 (v=false->s.Name.length<=50/\s.A.length<=many/\FL many k s.B/\FL many k s.C/\FL many k s.E/\∀ r∈s.A,FL many k r):=by
 unfold Vm;simp only[jn_eq,bifd];by_cases w:(50:Int)<(s.Name.length:Int)
 . rw[oi w];exact⟨true,rfl,λh=>by cases h⟩
 rw[oh w];by_cases x:(many:Int)<(s.A.length:Int)
 . rw[oi x];exact⟨true,rfl,λh=>by cases h⟩
 rw[oh x];obtain⟨b,B,C⟩:=Zx (l:=s.B) (k:=k) hn hm;rw[B,sbind];cases b
 case true=>exact⟨true,rfl,λh=>by cases h⟩
 rw[bifF];obtain⟨c,E,F⟩:=Zx (l:=s.C) (k:=k) hn hm;rw[E,sbind];cases c
 case true=>exact⟨true,rfl,λh=>by cases h⟩
 rw[bifF];obtain⟨e,G,H⟩:=Zx (l:=s.E) (k:=k) hn hm;rw[G,sbind];cases e
 case true=>exact⟨true,rfl,λh=>by cases h⟩
 rw[bifF];have A:∀ r,∃ v,Q2 n r (many:Int) (k:Int)=some v/\(v=false->FL many k r):=λr=>Zx hn hm
 have I:=Qoz (f:=λ(a:Int)=>
  if a<(s.A.length:Int) then (
   (getI s.A a).bind λq=>
   (Q2 n q (many:Int) (k:Int)).bind λm=>
   bif m then (
    some (Lp.out (Lp.out (true))))
   else (
    some (Lp.go (wrap64 (a+(1:Int))))))
  else (
   some (Lp.out (Lp.go ())))) (n:=n) (K:=λ(_:Unit)=>some false) (r:=true) (λi=>∀ r,s.A[i]?=some r->Q2 n r (many:Int) (k:Int)=some false) s.A.length (λi hi=>by
  have j:s.A[i]?=some s.A[i]:=ow hi;generalize s.A[i]=r at j;obtain⟨v,g1,u⟩:=A r;rw[oi om,Ws j,sbind,g1,sbind];cases v
  . rw[bifF,w1 om]
    exact⟨λ_=>rfl,λg=>absurd (λd hd=>by rw[j] at hd;cases hd;exact g1) g⟩
  . rw[bifT]
    exact⟨λg=>(by have:=g r j;rw[g1] at this;cases this),λ_=>rfl⟩) (by rw[oh om]) (by unfold big at hn;omega)
 rw[I];by_cases h:∀ i,i<s.A.length->∀ r,s.A[i]?=some r->Q2 n r (many:Int) (k:Int)=some false
 . rw[oi h]
   refine⟨false,rfl,λ_=>⟨om,om,C rfl,F rfl,H rfl,λr J=>?_⟩⟩;obtain⟨i,hi⟩:=wd J;obtain⟨v,g1,u⟩:=A r;have:=h i (Jt hi) r hi;rw[g1] at this;exact u (Option.some.inj this)
 . rw[oh h];exact⟨true,rfl,λh=>by cases h⟩
def tS(s:Q6):Qg:=⟨s.Name,s.C.map tF,s.A.map (·.map tF),s.B.map tF,s.E.map tF⟩
structure PrbW(k:Nat)(p:Qn):Prop where
 t:∀ c∈p.Tape.Code,Fk k c.N
 d:-9223372036854775808<=p.Tape.Dim/\p.Tape.Dim<=9223372036854775807
 s:SchW k p.Ge
 p:FR k p.P
def prbR(p:Qn):Prop:=tapeR p.Tape/\schR p.Ge/\(p.P.length:Int)=p.Tape.Par
theorem PrbW.tw{k:Nat}{p:Qn}(h:PrbW k p)(hk:k<1048576):TW p.Tape:=λc a=>Fk_Fw (h.t c a) om
theorem Qrd{n k:Nat}{p:Qn}(hn:big<=n)(h0:129<=k)(hk:k<8000)(a:PrbW k p):Yo n p=some (dP (prbR p)):=
 Qk0 hn om om (a.tw om) a.d a.s
theorem PrbW.ok{n k:Nat}{p:Qn}{t h:Qa}{y:List Qa}(a:PrbW k p)(hn:big<=n)(hk:k<8000)(d:prbR p)(i:Fk k t)(e:Fk k h)(hy:FR k y)(f:(y.length:Int)=p.Tape.Dim):PrbOK n k p t h y:=
 ⟨⟨d.1,by rw[Qe8 hn (a.tw om) a.d,dP_t d.1],a.t⟩,a.s,d.2.1,a.p,d.2.2,i,e,hy,f⟩
def toM(z:MadeQ):Vw:=⟨toRR z.ys,toRR z.ks,toR z.next,toR z.err⟩
def noM:Vw:=⟨[],[],[],[]⟩
noncomputable def stepQ(p:Qn)(T H:Rat)(Y:List Rat):Qc ⊕ MadeQ:=
 @ite _ (prbR p/\(Y.length:Int)=p.Tape.Dim) (Classical.propDecidable _) (doQ p.Tape p.Ge (limQ p.Bits) T H Y (rv p.P)) (.inl ⟨2,0,0,0⟩)
theorem Qo9{n k:Nat}{p:Qn}{t h:Qa}{y:List Qa}(hn:big<=n)(h0:129<=k)(hk:k<8000)(m:PrbW k p)(u:Fk k t)(s:Fk k h)(hy:FR k y):
 Qad n p t h y=some (match stepQ p (fv t) (fv h) (rv y) with | .inl f=>(noM,f) | .inr z=>(toM z,⟨0,0,0,0⟩))/\∀ f,stepQ p (fv t) (fv h) (rv y)=.inl f->f.Gf≠0:=by
 unfold Qad stepQ;simp only[jn_eq];rw[Qrd hn h0 hk m,sbind,bifnP,Jg];by_cases d:prbR p
 case neg=>rw[oh d,oh (λh=>d h.1),bifT];exact⟨rfl,λf h=>by cases h;decide⟩
 rw[oi d];by_cases a:(y.length:Int)=p.Tape.Dim
 case neg=>rw[oo a,oh (λh=>a h.2),xw,bifT];exact⟨rfl,λf h=>by cases h;decide⟩
 rw[ou a,oi ⟨d,a⟩,xz,bifF];have ok:=m.ok hn hk d u s hy a;unfold Zm;rw[sbind];obtain⟨r,q,e⟩:=Qtn (g:=⟨⟨0,0⟩,min (max p.Bits 0) 4096⟩) hn h0 hk ok rfl;rw[q,sbind];cases hd:doQ p.Tape p.Ge (limQ p.Bits) (fv t) (fv h) (rv y) (rv p.P) with
 | inl f=>
   rw[hd] at e;obtain⟨i,l⟩:=e;refine⟨?_,λg j=>by cases j;exact l⟩;rw[i];obtain⟨v,w,f3,x⟩:=f;rw[Qbq l,xw,bifT];rfl
 | inr z=>
   rw[hd] at e;obtain⟨A,i,_⟩:=e;subst i;simp only[];rw[Qag,xz,bifF];exact⟨rfl,λg j=>by cases j⟩
set_option maxRecDepth 100000
def dt:List Rat->List Rat->Rat->Rat
 | c::cs,k::ks,z=>dt cs ks (z+c*k)
 | _,_,z=>z
theorem Qqb:∀ {cs u:List Rat}{z c q:Rat},u[cs.length]?=some q->dt (cs++[c]) u z=dt cs u z+c*q
 | [],[],_,_,_,h=>by simp at h
 | [],x::u,z,c,q,h=>by simp at h;subst h;cases u<;>rfl
 | a::cs,[],_,_,_,h=>by simp at h
 | a::cs,x::u,z,c,q,h=>by
   have d:=Qqb (cs:=cs) (u:=u) (z:=z+a*x) (c:=c) (q:=q) (by simpa using h)
   simpa [dt] using d
theorem Qk2{j k:Nat}:∀ {cs u:List Rat}{z:Rat}{b:Nat},QR j cs->QR k u->qw z<=b->qw (dt cs u z)<=b+cs.length*(j+k+1)
 | [],_,z,b,_,_,h=>by simpa [dt] using h
 | _::_,[],z,b,_,_,h=>by simp only[dt];exact ov h (Nat.le_add_right _ _)
 | c::cs,x::u,z,b,d,e,h=>by have:=Qk2 (cs:=cs) (u:=u) (λq a=>d q (.tail _ a)) (λq a=>e q (.tail _ a)) (Qdi h (Xj (d c (.head _)) (e x (.head _))));simp only[dt];rw[xy,ut];omega
def uQ(A:List (List Rat)):Nat->List Rat
 | 0=>A.map λ_=>1
 | m+1=>A.map λr=>dt r (uQ A m) 0
theorem Qh2(A:List (List Rat))(m:Nat):(uQ A m).length=A.length:=by cases m<;>simp[uQ]
theorem Qk3:qw 1=1:=by have a:(toL 1).length=1:=toL1;unfold qw;show max (toL 1).length (toL 1).length=1;rw[a];rfl
theorem Qpa{A:List (List Rat)}(d:∀ r∈A,QR 129 r/\r.length<=8):∀ m,QR (1200*9 ^ m) (uQ A m)
 | 0=>λx a=>by simp only[uQ,xd] at a;obtain⟨_,_,rfl⟩:=a;rw[Qk3];decide
 | m+1=>λx a=>by simp only[uQ,xd] at a;obtain⟨r,e,rfl⟩:=a;have h:=Qk2 (z:=0) (b:=1) (d r e).1 (Qpa d m) (by rw[Yx];exact ot _);have f:r.length*(129+1200*9 ^ m+1)<=8*(129+1200*9 ^ m+1):=xg _ (d r e).2;have i:1<=9 ^ m:=Nat.one_le_pow _ _ oy;rw[Nat.pow_succ];omega
theorem fk_of{k:Nat}{l:List Qa}{i:Nat}{x:Qa}(h:FR k l)(a:l[i]?=some x):Fk k x:=h x (Q1 a)
theorem Qst{n k:Nat}{r:List Qa}{u:List Rat}{R:Type}{K:Qa->Option R}(hn:big<=n)(j:FR 129 r)(l:QR k u)(A:1<=k)(hk:k<10000000000)(E:r.length<=u.length)(B:r.length<=8):
 (rangeL (λ(i:Nat) (x s:Qa)=>(getI (toR u) (i:Int)).bind λy=>(Jz n x y).bind λz=>(Kz n s z).bind λq=>some (Lp.go q)) r 0 (toF 0)).bind (lpK K)=K (toF (dt (rv r) u 0)):=by
 rw[Yz (λi=>toF (dt ((rv r).take i) u 0)) r,J7];rw[show r.length=(rv r).length from(Jg r).symm,uh];intro i x e;have hi:=Jt e;have d:u[i]?=some u[i]:=ow om;have hy:(toR u)[i]?=some (toF u[i]):=by unfold toR;rw[xo,d];rfl
 have a:=fk_of j e;have f:qw u[i]<=k:=l _ (Q1 d);have C:=Qk2 (cs:=(rv r).take i) (u:=u) (z:=0) (b:=1) (V8 (k:=129) (λy hy=>(QR_rv j oy) y (yf hy)) (ot _)) l (by rw[Yx];exact ot _);have w:((rv r).take i).length*(129+k+1)<=8*(129+k+1):=xg _ (by rw[xt,Jg];omega);have m:(rv r).take (i+1)=(rv r).take i++[fv x]:=by rw[vm,Qig,e];rfl
 have v:u[((rv r).take i).length]?=some u[i]:=by rw[xt,Jg,xv om];exact d
 have hm:qw (fv x*u[i])<=129+k:=Xj (qw_fv a oy) f;rw[Ws hy,sbind,Vc (k:=129+k) hn om om (Wg a om) (Kf om),sbind,Jn,Wv (k:=100000000000) hn om om (Kf om) (Kf om),sbind,Jn,Jn,m,Qqb v];rfl
theorem Qre{n k:Nat}{s:Qg}{u:List Rat}(hn:big<=n)(f:∀ r∈s.A,FR 129 r)(e:∀ r∈s.A,r.length<=8/\r.length<=u.length)(l:s.A.length<=8)(j:QR k u)(a:1<=k)(hk:k<10000000000):
 Xd n s (toR u)=some (toR ((s.A.map rv).map λr=>dt r u 0)):=by
 unfold Xd;rw[Yz (λi=>toR (((s.A.map rv).take i).map λr=>dt r u 0)) s.A,J7];rw[show s.A.length=(s.A.map rv).length by simp,uh];intro i r d;have hi:=Jt d;have hm:=Q1 d;rw[Vf hn,sbind,Qst hn (f r hm) j a hk (e r hm).2 (e r hm).1,Zp (by rw[Kx];simp;omega) (by rw[Kx];simp;omega),sbind,vm,xo,d,yd];show some (Lp.go (toR _++[toF _]))=_;rw[Qo5];rfl;rfl
def rowsF(N:Nat)(g:Nat->List Qa):List (List Qa):=(List.range N).map g
theorem Qsu{N g}:(rowsF N g).length=N:=by simp[rowsF]
theorem Qfb{N i g}(h:i<N):getI (rowsF N g) (i:Int)=some (g i):=by rw[Qbn];simp[rowsF,xo,vz h]
theorem Qmy{N i g x}:List.set (rowsF N g) i x=rowsF N λj=>if j=i then x else g j:=by
 apply List.ext_getElem?;intro j;rw[List.getElem?_set,Qsu];unfold rowsF;by_cases c:j<N;rw[xo,xo,vz c];by_cases e:i=j;subst e;rw[oi rfl,oi c];simp;rw[oh e];simp[Ne.symm e];rw[ol oe,ol oe];split
 first | rfl | (rw[oh om])
 rfl
theorem Qa0{N g a}(h:∀ j,j<N->g j=a j):rowsF N g=rowsF N a:=by unfold rowsF;exact List.map_congr_left λj d=>h j (ud.1 d)
def chain(k:Nat):List Int:=(List.range k).map λi:Nat=>(i:Int)
theorem Qdj{k}:(chain k).length=k:=by simp[chain]
theorem Qdk{k i:Nat}(h:i<k):getI (chain k) (i:Int)=some (i:Int):=by rw[Qbn];simp[chain,xo,vz h]
theorem Qij{n:Nat}(hn:big<=n){k:Nat}(hk:k<18446744073709551616):k<n:=xx hk hn
theorem Qpq{n k i:Nat}(hn:big<=n)(hi:1<=i)(hk:i<k)(a:k<=100):Yr n (chain k) (i:Int)=some ((i - 1:Nat):Int):=by
 unfold Yr;have e:wrap64 ((i:Int) - 1)=((i - 1:Nat):Int):=by rw[w64 om om];omega
 rw[e,Qc1 (t:=((i - 1:Nat):Int)) (h:=?_) (hn:=Qij hn oy),sbind];rw[Qdk om,sbind,Qdk hk,sbind,e,ou rfl,xz,bifF]
theorem Qrf{n k:Nat}(hn:big<=n)(hk:1<=k)(a:k<=8):Y9 n (chain k)=some true:=by
 unfold Y9;simp only[jn_eq];rw[Qdj,ou (show(k:Int)<=8 by omega),bifT];unfold Qa4;simp only[jn_eq];rw[Qdj,oo (show ¬(k:Int)=0 by omega),bifF,show(0:Int)=((0:Nat):Int) from rfl,Qdk om,sbind,ou rfl,xz,bifF];rw[Qbc (s:=(1:Int)) (λi=>((i+1:Nat):Int)) (k - 1) (.go ()) (λi hi=>?_) ?_ (Qij hn om) rfl,J7,sbind];rw[oo (show ¬((k - 1+1:Nat):Int)<(k:Int) by omega),bifF];have e:wrap64 (((i+1:Nat):Int) - 1)=(i:Int):=by rw[w64 om om];omega
 rw[ou (show((i+1:Nat):Int)<(k:Int) by omega),bifT,Qdk om,sbind,oo (show ¬((i+1:Nat):Int)<1 by omega),bifF,sbind,e,Qdk om,sbind,oo (show ¬(i:Int)<i by omega),bifF,w64 om om];rfl
theorem Quw{A:List (List Rat)}{k:Nat}(h:A.length=k):List.replicate k (toF 1)=toR (uQ A 0):=by subst h;simp[uQ,toR,va,Function.comp_def,List.map_const']
def rowK(A:List (List Rat))(m k j:Nat):List Qa:=toR (uQ A (if j<m - k then 0 else m - j))
theorem Qpr{n m:Nat}{s:Qg}(hn:big<=n)(F:SchW 129 s)(f:schR s)(hm:m+1<=s.B.length):
 Wy n s s.B (chain (m+1))=some (toF (dt (rv s.B) (uQ (s.A.map rv) m) 0),true):=by
 obtain⟨⟨S,L⟩,c1,a1,_,a2⟩:=f.2.1;have J:∀ r∈s.A,FR 129 r:=F.a
 have I:∀ r∈s.A,r.length<=8:=λr f=>by obtain⟨i,hi,rfl⟩:=List.mem_iff_getElem.1 f;have:=a2 i _ (ow hi);omega
 have B:∀ r∈s.A.map rv,QR 129 r/\r.length<=8:=λr f=>by obtain⟨x,A,rfl⟩:=xd.1 f;exact⟨QR_rv (J x A) oy,by rw[Jg];exact I x A⟩
 have l:(s.A.map rv).length=s.B.length:=by simp[a1]
 have u:∀ j,j<=m->QR (1200*9 ^ 7) (uQ (s.A.map rv) j):=λj w=>V8 (Qpa B j) (yq _ (yg oy om));have K:1200*9 ^ 7<10000000000:=oy
 unfold Wy;simp only[jn_eq];rw[Vf hn,sbind,Qap hn (k:=129) oy oy F,sbind,dP_t f,xz,bifF,ou trivial,xz,bifF,Qrf hn om om,sbind,xz,bifF,Qdj,Qdh om om,sbind];have hones:List.replicate s.B.length (toF 1)=toR (uQ (s.A.map rv) 0):=Quw l;rw[Yz (λi=>rowsF (m+1) λj=>if j<i then List.replicate s.B.length (toF 1) else []) (List.replicate (m+1) []) ?_ ?_,J7,yt]
 rotate_left
 . intro i x A
   have hi:i<m+1:=by simpa using Jt A
   rw[Yz (λc=>rowsF (m+1) λj=>if j<i then List.replicate s.B.length (toF 1) else if j=i then List.replicate c (toF 1) else []) s.B ?_ ?_,J7]
   . congr 2
     refine Qa0 λj w=>?_;by_cases a:j<i
     . rw[oi a,oi om]
     . rw[oh a]
       by_cases d:j=i
       . rw[oi d,oi om]
       . rw[oh d,oh om]
   . intro c y hy
     have T:=Jt hy;rw[Qfb hi,sbind,Qdy hn,sbind,oh (Nat.lt_irrefl i),oi rfl,Zp oe oe,sbind,Qmy];congr 2;refine Qa0 λj w=>?_;by_cases d:j=i
     . subst d;rw[oi rfl,oh (Nat.lt_irrefl j),oi rfl,wm]
     . rw[oh d]
       by_cases a:j<i
       . rw[oi a,oi a]
       . rw[oh a,oh a,oh d,oh d]
   . refine Qa0 λj w=>?_
     by_cases a:j<i
     . rw[oi a,oi a]
     . rw[oh a,oh a]
       by_cases d:j=i
       . rw[oi d];rfl
       . rw[oh d]
 . unfold rowsF
   rw[List.map_congr_left (g:=λ_=>[]) (λj _=>by simp),List.map_const',List.length_range]
 rw[Qbc (s:=(rowsF (m+1) λj=>if j<m+1 then List.replicate s.B.length (toF 1) else [],wrap64 (((m+1:Nat):Int) - 1))) (λk=>(rowsF (m+1) (rowK (s.A.map rv) m k),((m - k:Nat):Int))) m (rowsF (m+1) (rowK (s.A.map rv) m m)) ?_ ?_ (Qij hn om) ?_]
 rotate_left
 . intro k hk
   have M:m - k - 1=m - (k+1):=om
   have N:wrap64 (((m - k:Nat):Int) - 1)=((m - (k+1):Nat):Int):=by rw[w64 om om];omega
   have Q:rowK (s.A.map rv) m k (m - (k+1))=toR (uQ (s.A.map rv) 0):=by unfold rowK;rw[oi om]
   have R:rowK (s.A.map rv) m k (m - k)=toR (uQ (s.A.map rv) k):=by unfold rowK;rw[oh om,show m - (m - k)=k by omega]
   have A:(toR ((s.A.map rv).map λr=>dt r (uQ (s.A.map rv) k) 0))=toR (uQ (s.A.map rv) (k+1)):=rfl
   rw[ou (show(0:Int)<((m - k:Nat):Int) by omega),bifT,Qpq hn om om om,sbind,M,Qfb om,sbind,grd_t (by rw[oo (show ¬((m - (k+1):Nat):Int).toNat=((m - k:Nat):Int).toNat by omega)];rfl),sbind,Qfb om,sbind,Q,R,
    Qre hn J (λr f=>⟨I r f,by obtain⟨i,hi,rfl⟩:=List.mem_iff_getElem.1 f;have:=a2 i _ (ow hi);rw[Qh2,l];omega⟩) om (u k om) oy K,sbind,A]
   rw[Qhx (λx y=>x) (toR (uQ (s.A.map rv) (k+1))) (toR (uQ (s.A.map rv) 0)) (by rw[Kx,Kx,Qh2,Qh2]) ?_,J7,N]
   . congr 3
     rw[show((m - (k+1):Nat):Int).toNat=m - (k+1) by omega,Qmy];refine Qa0 λj w=>?_;have P:List.zipWith (λx y=>x) (toR (uQ (s.A.map rv) (k+1))) (toR (uQ (s.A.map rv) 0))=toR (uQ (s.A.map rv) (k+1)):=by apply List.ext_getElem (by simp[Kx,Qh2]);intro i a d;simp
     rw[P];unfold rowK;by_cases a:j=m - (k+1)
     . rw[oi a,oh om,show m - j=k+1 by omega]
     . rw[oh a]
       by_cases d:j<m - (k+1)
       . rw[oi om,oi d]
       . rw[oh om,oh d]
   . intro i x y U G v E
     have H:y=toF 1:=by rw[<-hones] at v;simp[List.getElem?_replicate] at v;exact v.2.symm
     obtain⟨q,O,rfl⟩:∃ q,q∈uQ (s.A.map rv) (k+1)/\x=toF q:=by have:=Q1 G;obtain⟨q,a,d⟩:=xd.1 this;exact⟨q,a,d.symm⟩
     have C:qw q<=1200*9 ^ 7:=u (k+1) om q O;subst H;rw[Ws E,sbind,Vc (k:=1200*9 ^ 7) hn oy oy (Kf (by rw[Qk3];decide)) (Kf C),sbind,Jn,Jn];rw[show(1:Rat)*q=q by grind];rfl
 . rw[oo (show ¬(0:Int)<((m - m:Nat):Int) by omega),bifF]
 . have e:wrap64 (((m+1:Nat):Int) - 1)=((m - 0:Nat):Int):=by rw[w64 om om];omega
   rw[e];congr 1;refine Qa0 λj w=>?_;unfold rowK;rw[oi w,hones];by_cases h:j<m - 0
   . rw[oi h]
   . rw[oh h,show m - j=0 by omega]
 rw[Qfb om,sbind,show rowK (s.A.map rv) m m 0=toR (uQ (s.A.map rv) m) from by unfold rowK;rw[oh om];rfl];rw[Qst hn F.b (u m (ot m)) oy K (by rw[Qh2,l];exact ot _) L]
set_option maxRecDepth 100000
def bz(b:Nat)(q:Rat):Prop:=q.num.natAbs<=2 ^ b/\q.den<=2 ^ b
theorem Qqc{a b:Nat}{q:Rat}(h:bz a q)(hk:a<=b):bz b q:=⟨ov h.1 (yg oy hk),ov h.2 (yg oy hk)⟩
theorem Qjv{z:Int}{d b:Nat}(hd:d≠0)(f:z.natAbs<=2 ^ b)(i:d<=2 ^ b):bz b (mkRat z d):=by obtain⟨a,e⟩:=Zc (z:=z) hd;unfold bz;rw[a,e];exact⟨ov (Int.natAbs_ediv_le_natAbs z (Nat.gcd z.natAbs d:Int)) f,ov (vt d (Nat.gcd z.natAbs d)) i⟩
theorem Qev{a b:Rat}{j k:Nat}(d:bz j a)(e:bz k b):bz (j+k) (a*b):=by rw[<-vc a,<-vc b,wc];refine Qjv (uo a.den_nz b.den_nz) ?_ ?_;rw[ve,vg];exact yv d.1 e.1;rw[vg];exact yv d.2 e.2
theorem Qk4{a b:Rat}{j k:Nat}(d:bz j a)(e:bz k b):bz (j+k+1) (a+b):=by
 rw[<-vc a,<-vc b,wb _ _ a.den_nz b.den_nz];have i:=yv d.1 e.2;have f:=yv e.1 d.2;have l:=yv d.2 e.2;rw[<-vg] at i f l;rw[Nat.add_comm k j] at f;have m:2 ^ (j+k+1)=2 ^ (j+k)+2 ^ (j+k):=by rw[Nat.pow_succ];omega
 refine Qjv (uo a.den_nz b.den_nz) ?_ om;refine ov (Int.natAbs_add_le _ _) ?_;rw[ve,ve,vq,vq];omega
theorem Qik{b:Nat}:bz b 0:=⟨by rw[show(0:Rat).num=0 from rfl];exact xk _,by rw[show(0:Rat).den=1 from rfl];exact Nat.one_le_two_pow⟩
theorem Qqd{v b:Nat}(h:v<=2 ^ b):blen v<=b+1:=by by_cases h0:v=0;subst h0;rw[Qbo];omega;have d:=Qec h0;have e:2 ^ (blen v - 1)<=2 ^ b:=ov d h;have f:=(Nat.pow_le_pow_iff_right (a:=2) oy).1 e;omega
theorem qz_bz{b:Nat}{q:Rat}(h:bz b q):qz q<=2*b+2:=by have a:=Qqd h.1;have d:=Qqd h.2;unfold qz;omega
theorem fits{b:Nat}{q:Rat}(h:bz b q)(a:b<=1999):(qz q:Int)<=4000:=by have:=qz_bz h;omega
def fb(j:Nat):List Nat->Nat->Nat
 | [],b=>b
 | k::ks,b=>fb j ks (b+(j+k)+1)
theorem fb_le{j:Nat}:∀ {ks:List Nat}{b:Nat},b<=fb j ks b
 | [],_=>ot _
 | k::ks,b=>ov om (fb_le (ks:=ks) (b:=b+(j+k)+1))
def Bs:List Nat->List Rat->Prop
 | k::ks,x::xs=>bz k x/\Bs ks xs
 | _,[]=>True
 | [],_::_=>False
theorem dt_bz{j:Nat}:∀ {cs:List Rat}{a:List Nat}{ks:List Rat}{z:Rat}{b:Nat},(∀ c∈cs,bz j c)->Bs a ks->bz b z->bz (fb j a b) (dt cs ks z)
 | [],a,ks,z,b,_,_,h=>by simp only[dt];exact Qqc h fb_le
 | _::_,a,[],z,b,_,_,h=>by simp only[dt];exact Qqc h fb_le
 | _::_,[],_::_,_,_,_,h,_=>h.elim
 | c::cs,k::a,x::ks,z,b,d,h,f=>by simp only[dt,fb];exact dt_bz (λq e=>d q (.tail _ e)) h.2 (Qk4 f (Qev (d c (.head _)) h.1))
theorem Qqe:∀ {a:List Nat}{ks:List Rat}{k:Nat}{x:Rat},a.length=ks.length->Bs a ks->bz k x->Bs (a++[k]) (ks++[x])
 | [],[],_,_,_,_,h=>⟨h,trivial⟩
 | [],_::_,_,_,h,_,_=>by simp at h
 | _::_,[],_,_,h,_,_=>by simp at h
 | b::a,y::ks,k,x,d,h,e=>⟨h.1,Qqe (by simpa using d) h.2 e⟩
def growsT:Qs:=⟨[⟨4,0,0,⟨⟨false,[]⟩,[]⟩⟩,⟨3,0,0,⟨⟨false,[]⟩,[]⟩⟩,⟨9,0,1,⟨⟨false,[]⟩,[]⟩⟩],[2],1,1⟩
def sgl(ks:List Rat):List (List Rat):=ks.map λk=>[k]
theorem Qqf:∀ {cs ks:List Rat}{z:Rat},mixQ cs (sgl ks) [z]=[dt cs ks z]
 | [],ks,z=>by cases ks<;>rfl
 | _::_,[],z=>rfl
 | c::cs,k::ks,z=>by show mixQ cs (sgl ks) [z+c*k]=_;rw[Qqf];rfl
theorem Qqg{H:Rat}{cs ks:List Rat}:towQ H 1 cs (sgl ks)=[H*dt cs ks 0]:=by unfold towQ;rw[show List.replicate 1 (0:Rat)=[0] from rfl,Qqf];rfl
theorem Qpb{H y:Rat}{cs ks:List Rat}:fromQ H [y] cs (sgl ks)=[y+H*dt cs ks 0]:=by unfold fromQ;rw[show[y].length=1 from rfl,Qqg];rfl
theorem Ql9{q:Rat}(h:(qz q:Int)<=4000):fitQ 4000 [q] 0=none:=by simp only[fitQ];rw[oi h]
theorem Qps{T Y p:Rat}(a:(qz p:Int)<=4000)(d:(qz Y:Int)<=4000)(e:(qz (p*Y):Int)<=4000):fieldQ growsT 4000 T [Y] [p]=.inr [p*Y]:=by unfold fieldQ growsT;simp[runQ,opQ,a,d,e]
def stK(p H y:Rat):List (List Rat)->List Rat->List Rat
 | [],ks=>ks
 | r::rs,ks=>stK p H y rs (ks++[p*(y+H*dt r ks 0)])
def KB:List Nat:=[64,194,421,875]
theorem Qk5{T H y p:Rat}(w:bz 32 H)(hy:bz 32 y)(m:bz 32 p):∀(rest:List (List Rat×Rat)) (ks:List Rat) (i:Nat) (a:List (List Rat)),i=ks.length->ks.length+rest.length<=4->Bs (KB.take ks.length) ks ->
 (∀ j x,rest[j]?=some x->x.1.length=ks.length+j/\∀ q∈x.1,bz 32 q) ->
 ∃ ys,stagesQ growsT 4000 T H [y] [p] rest i a (sgl ks)=.inr (ys,sgl (stK p H y (rest.map (·.1)) ks))/\Bs (KB.take (ks.length+rest.length)) (stK p H y (rest.map (·.1)) ks)
 | [],ks,i,a,hi,s,l,u=>⟨a,rfl,l⟩
 | (r,c)::rest,ks,i,a,hi,s,l,u=>by
   obtain⟨G,I⟩:=u 0 _ rfl;simp only[xa] at G;have E:ks.length<4:=by simp at s;omega
   have f:∃ b,bz b (y+H*dt r ks 0)/\bz (32+b) (p*(y+H*dt r ks 0))/\KB[ks.length]?=some (32+b):=by
    by_cases h0:ks.length=0;have v:r=[]:=oq om;subst v;rw[h0];have e:y+H*dt [] ks 0=y:=by simp only[dt];grind
    rw[e];exact⟨32,hy,Qev m hy,rfl⟩;have hd:=dt_bz (z:=0) (b:=0) I l Qik;have f:=Qk4 hy (Qev w hd);refine⟨_,f,Qev m f,?_⟩;rcases(show ks.length=1\/ks.length=2\/ks.length=3 by omega) with e | e | e<;>rw[e]<;>rfl
   obtain⟨b,f,hk,d⟩:=f;have F:32+b<=875:=by rcases(show ks.length=0\/ks.length=1\/ks.length=2\/ks.length=3 by omega) with e | e | e | e<;>rw[e] at d<;>simp[KB] at d<;>omega
   obtain⟨ys,A,B⟩:=Qk5 w hy m rest (ks++[p*(y+H*dt r ks 0)]) (i+1) (a++[[y+H*dt r ks 0]]) oe (by simp at s |-;omega)
    (by
     rw[xl,vw,vm,d]
     exact Qqe (by simp[KB];omega) l hk)
    (λj x J=>by
     have:=u (j+1) x (by simpa using J)
     exact⟨by rw[this.1];simp;omega,this.2⟩)
   refine⟨ys,?_,?_⟩;simp only[stagesQ,stageQ];rw[Qpb,Ql9 (fits f om)];simp only[];rw[Qps (fits m oy) (fits f om) (fits hk om)];simp only[];have C:sgl ks++[[p*(y+H*dt r ks 0)]]=sgl (ks++[p*(y+H*dt r ks 0)]):=by simp[sgl]
   rw[C,A];rfl;have:ks.length+((r,c)::rest).length=(ks++[p*(y+H*dt r ks 0)]).length+rest.length:=oe
   rw[this];exact B
set_option maxRecDepth 100000
def powQ(z:Rat):Nat->Rat
 | 0=>1
 | i+1=>powQ z i*z
def facQ(A:List (List Rat))(B:List Rat)(z:Rat):Nat->Rat
 | 0=>1
 | i+1=>facQ A B z i+dt B (uQ A i) 0*powQ z (i+1)
theorem lng1{α:Type}{l:List α}(h:l.length=1):∃ a,l=[a]:=by
 match l,h with
 | [a],_=>exact⟨a,rfl⟩
theorem lng2{α:Type}{l:List α}(h:l.length=2):∃ a b,l=[a,b]:=by
 match l,h with
 | [a,b],_=>exact⟨a,b,rfl⟩
theorem lng3{α:Type}{l:List α}(h:l.length=3):∃ a b c,l=[a,b,c]:=by
 match l,h with
 | [a,b,c],_=>exact⟨a,b,c,rfl⟩
theorem lng4{α:Type}{l:List α}(h:l.length=4):∃ a b c d,l=[a,b,c,d]:=by
 match l,h with
 | [a,b,c,d],_=>exact⟨a,b,c,d,rfl⟩
theorem Qwg{p H y a:Rat}:y+H*dt [a] (stK p H y [[]] []) 0=facQ [[]] [a] (p*H) 1*y:=by simp only[stK,dt,facQ,powQ,uQ,List.map,yr];grind
theorem Qwh{p H y d e a:Rat}:y+H*dt [d,e] (stK p H y [[],[a]] []) 0=facQ [[],[a]] [d,e] (p*H) 2*y:=by simp only[stK,dt,facQ,powQ,uQ,List.map,yr,xp];grind
theorem Qwi{p H y e f i a c d:Rat}:y+H*dt [e,f,i] (stK p H y [[],[a],[c,d]] []) 0=facQ [[],[a],[c,d]] [e,f,i] (p*H) 3*y:=by simp only[stK,dt,facQ,powQ,uQ,List.map,yr,xp];grind
theorem Qwj{p H y i j l m a c d e f g:Rat}:y+H*dt [i,j,l,m] (stK p H y [[],[a],[c,d],[e,f,g]] []) 0=facQ [[],[a],[c,d],[e,f,g]] [i,j,l,m] (p*H) 4*y:=by simp only[stK,dt,facQ,powQ,uQ,List.map,yr,xp];grind
theorem Qsv{p H y:Rat}{A:List (List Rat)}{B:List Rat}(j:∀(i:Nat) r,A[i]?=some r->r.length=i)(m:A.length=B.length)(C:1<=B.length)(E:B.length<=4):
 y+H*dt B (stK p H y A []) 0=facQ A B (p*H) B.length*y:=by
 rcases(show B.length=1\/B.length=2\/B.length=3\/B.length=4 by omega) with h | h | h | h;obtain⟨q,rfl⟩:=lng1 h;obtain⟨r0,rfl⟩:=lng1 (m.trans h);obtain rfl:=oq (j 0 r0 rfl);exact Qwg;obtain⟨q,u,rfl⟩:=lng2 h;obtain⟨r0,l,rfl⟩:=lng2 (m.trans h);obtain rfl:=oq (j 0 r0 rfl);obtain⟨a,rfl⟩:=lng1 (j 1 l rfl);exact Qwh;obtain⟨q,u,v,rfl⟩:=lng3 h;obtain⟨r0,l,s,rfl⟩:=lng3 (m.trans h);obtain rfl:=oq (j 0 r0 rfl);obtain⟨a,rfl⟩:=lng1 (j 1 l rfl);obtain⟨c,d,rfl⟩:=lng2 (j 2 s rfl);exact Qwi;obtain⟨q,u,v,x,rfl⟩:=lng4 h;obtain⟨r0,l,s,w,rfl⟩:=lng4 (m.trans h);obtain rfl:=oq (j 0 r0 rfl);obtain⟨a,rfl⟩:=lng1 (j 1 l rfl);obtain⟨c,d,rfl⟩:=lng2 (j 2 s rfl);obtain⟨e,f,g,rfl⟩:=lng3 (j 3 w rfl);exact Qwj
theorem bz_fv{f:Qa}(h:Fk 1 f):bz 32 (fv f):=by
 unfold fv
 have d:∀ {a:List Nat},Wd a->a.length<=1->val a<=2 ^ 32:=fun {a} hw hl=>by have e:=K9 hw;rw[Qft] at e;have i:2 ^ (32*a.length)<=2 ^ 32:=yg oy om;omega
 by_cases h0:val f.Den=0;rw[h0,Rat.mkRat_zero];exact Qik;refine Qjv h0 ?_ (d h.2.2.1 h.2.2.2);rw[W9];exact d h.1 h.2.1
theorem Qux:bz 0 (-1:Rat):=⟨oy,oy⟩
theorem growsR:tapeR growsT:=by refine⟨⟨oy,oy,oy,oy⟩,?_,oy⟩;intro i x h;have hi:i<3:=Jt h;rcases(show i=0\/i=1\/i=2 by omega) with e | e | e<;>subst e<;>cases h<;>simp[mayR,blankF,rdT,growsT]
theorem Qto{s:Qg}{T H y p:Rat}(Y:schR s)(I:SchW 1 s)(R:s.B.length<=4)(J:bz 32 H)(hy:bz 32 y)(X:bz 32 p):
 ∃ z,doQ growsT s 4000 T H [y] [p]=.inr z/\z.next=[facQ (s.A.map rv) (rv s.B) (p*H) s.B.length*y]:=by
 obtain⟨⟨Q,b8⟩,c1,a1,e1,a2⟩:=Y.2.1
 have G:∀ {l:List Qa},FR 1 l->∀ q∈rv l,bz 32 q:=fun {l} hl q m=>by obtain⟨x,u,rfl⟩:=xd.1 m;exact bz_fv (hl x u)
 have N:∀(i:Nat) r,(s.A.map rv)[i]?=some r->r.length=i:=λi r h=>by
  rw[xo] at h;cases u:s.A[i]? with
  | none=>rw[u] at h;cases h
  | some x=>rw[u] at h;cases h;rw[Jg];exact a2 i x u
 have C:(List.zip (s.A.map rv) (rv s.C)).map (·.1)=s.A.map rv:=by rw[show(λx:List Rat×Rat=>x.1)=Prod.fst from rfl,List.map_fst_zip (by simp[Jg,a1,c1])]
 obtain⟨ys,g1,E⟩:=Qk5 (T:=T) J hy X (List.zip (s.A.map rv) (rv s.C)) [] 0 [] rfl (by simp[Jg,a1,c1];omega) trivial (λj x u=>by
  have d:(s.A.map rv)[j]?=some x.1:=by
   have:((List.zip (s.A.map rv) (rv s.C)).map (·.1))[j]?=some x.1:=by rw[xo,u];rfl
   rw[C] at this;exact this
  refine⟨by rw[N j _ d];simp,λq m=>?_⟩;rw[xo] at d;cases M:s.A[j]? with
  | none=>rw[M] at d;cases d
  | some r=>rw[M] at d;have e:=Option.some.inj d;rw[<-e] at m;exact G (I.a r (Q1 M)) q m)
 rw[C] at g1 E;have F:([]:List Rat).length+(List.zip (s.A.map rv) (rv s.C)).length=s.B.length:=by simp[Jg,a1,c1]
 rw[F] at E;have f:=Qsv (p:=p) (H:=H) (y:=y) (A:=s.A.map rv) (B:=rv s.B) N (by rw[Jg];simp[a1]) (by rw[Jg];exact Q) (by rw[Jg];exact R);rw[Jg] at f;generalize W:stK p H y (s.A.map rv) []=ks at g1 E f;have hd:=dt_bz (z:=0) (b:=0) (G I.b) E Qik;have hn:=Qk4 hy (Qev J hd);have U:fb 32 (KB.take s.B.length) 0<=1686:=by rcases(show s.B.length=1\/s.B.length=2\/s.B.length=3\/s.B.length=4 by omega) with e | e | e | e<;>rw[e]<;>decide
 have O:fb 65 (KB.take s.B.length) 0<=1818:=by rcases(show s.B.length=1\/s.B.length=2\/s.B.length=3\/s.B.length=4 by omega) with e | e | e | e<;>rw[e]<;>decide
 have V:∀ q∈gapQ s,bz 65 q:=by
  intro q m;unfold gapQ at m;split at m
  . cases m
  . refine Qif (g:=λa b:Rat=>a+b) (P:=bz 65) (λx u w L=>?_) q m
    obtain⟨v,Z,rfl⟩:=xd.1 L;exact Qk4 (G I.b x u) (by have:=Qev Qux (G I.e v Z);rw[xm] at this;exact this)
 have S:=Qev J (dt_bz (z:=0) (b:=0) V E Qik);unfold doQ;rw[show([]:List (List Rat))=sgl [] from rfl] at *;rw[g1];simp only[];unfold endQ;rw[Qpb,Ql9 (fits hn om),show[y].length=1 from rfl,Qqg];simp only[];have K:fitQ 4000 (if gapQ s=[] then [] else [H*dt (gapQ s) ks 0]) 0=none:=by
  split
  . rfl
  . exact Ql9 (fits S om)
 rw[K];exact⟨_,rfl,by rw[f]⟩
theorem Qil{z:Rat}(h:qw z<=300):∀ i,qw (powQ z i)<=1+300*i
 | 0=>by rw[show powQ z 0=1 from rfl,Qk3];decide
 | i+1=>by have:=Xj (Qil h i) h;show qw (powQ z i*z)<=_;omega
theorem w33g:Kk big=some true:=od
theorem Qk6{k:Nat}{x:Qi}(a:Kv x)(h:x.N.length<=k/\x.D.length<=k):Fk k (tF x):=⟨a.2.1.2,h.1,a.2.2.1.2,h.2⟩
theorem Qk7{many k:Nat}{l:List Qi}(a:Kb l)(h:FL many k l):FR k (l.map tF):=λx d=>by obtain⟨y,hy,rfl⟩:=xd.1 d;exact Qk6 (a.2 y hy) (h.2 y hy)
theorem Qnq(e:Q6)(a:J6)(E:Z5 e)(K:Zs a):∃ n,Kh n e a=some true:=by
 refine⟨big,?_⟩;have hn:big<=big:=ot _;unfold Kh;simp only[jn_eq];obtain⟨v,e1,e2⟩:=Qk1 (s:=e) (many:=4) (k:=1) hn oy;rw[show((4:Nat):Int)=4 from rfl,show((1:Nat):Int)=1 from rfl] at e1;rw[e1,sbind];cases v
 case true=>rw[bifT,bifT,w33g];rfl
 obtain⟨s1,s2,Z,s4,s5,s6⟩:=e2 rfl;rw[bifF,show(1:Int)=((1:Nat):Int) from rfl,Zw,sbind];by_cases h0:a.a0.N.length<=1/\a.a0.D.length<=1
 case neg=>rw[oo h0,xw,bifT,bifT,w33g];rfl
 rw[ou h0,xz,bifF,Zw,sbind];by_cases F:a.a1.N.length<=1/\a.a1.D.length<=1
 case neg=>rw[oo F,xw,bifT,bifT,w33g];rfl
 rw[ou F,xz,bifF,Zw,sbind];by_cases G:a.a2.N.length<=1/\a.a2.D.length<=1
 case neg=>rw[oo G,xw,bifT,w33g];rfl
 rw[ou G,xz,bifF];have O:V4 big e=some (tS e):=by unfold V4;rw[Qa7 hn (by have:=s4.1;omega),sbind,Qnp hn om (λr j=>by have:=(s6 r j).1;omega),sbind,Qa7 hn (by have:=Z.1;omega),sbind,Qa7 hn (by have:=s5.1;omega),sbind];rfl
 have A:SchW 1 (tS e):=⟨λr j=>by
  obtain⟨d,hd,rfl⟩:=xd.1 j
  exact Qk7 (E.2.2.1.2 d hd) (s6 d hd),Qk7 E.2.2.2.1 Z,Qk7 E.2.1 s4,Qk7 E.2.2.2.2.1 s5,by show e.Name.length<=_;omega⟩
 have M:(tS e).B.length<=4:=by show(e.B.map tF).length<=4;rw[xb];exact Z.1
 have N:(e.B.length:Int)=((tS e).B.length:Int):=by show _=((e.B.map tF).length:Int);rw[xb]
 have J:Fk 1 (tF a.a0):=Qk6 K.1 h0;have I:Fk 1 (tF a.a1):=Qk6 K.2.1 F;have hy:Fk 1 (tF a.a2):=Qk6 K.2.2.1 G;unfold J4;rw[O,sbind,sbind,sbind,sbind,show Vj=some growsT from rfl,sbind,Vf hn,sbind];show((Qad big ⟨growsT,tS e,[tF a.a0],4000⟩ (toF 0) (tF a.a1) [tF a.a2]).bind _)=_;rw[N];have W:(⟨⟨a.a2.Neg,a.a2.N⟩,a.a2.D⟩:Qa)=tF a.a2:=rfl;have V:(⟨⟨a.a1.Neg,a.a1.N⟩,a.a1.D⟩:Qa)=tF a.a1:=rfl;have U:(⟨⟨a.a0.Neg,a.a0.N⟩,a.a0.D⟩:Qa)=tF a.a0:=rfl;rw[U,V,W];generalize tS e=s at *;generalize tF a.a0=p at *;generalize tF a.a1=h at *;generalize tF a.a2=y at *;have l:SchW 129 s:=⟨λr j=>Qbp (A.a r j) oy,Qbp A.b oy,Qbp A.c oy,Qbp A.e oy,A.n⟩
 have R:PrbW 129 ⟨growsT,s,[p],4000⟩:=⟨λc m=>by
  have m:c∈growsT.Code:=m;simp[growsT] at m
  rcases m with rfl | rfl | rfl<;>exact⟨(λ_ h=>by cases h),oy,(λ_ h=>by cases h),oy⟩,⟨by show(-9223372036854775808:Int)<=1;decide,by show(1:Int)<=9223372036854775807;decide⟩,l,λx B=>by rcases ue.1 B with rfl;exact Wg J oy⟩
 obtain⟨d1,d2⟩:=Qo9 (t:=toF 0) (h:=h) (y:=[y]) hn (k:=129) oy oy R (Kf (by rw[Yx];decide)) (Wg I oy) (λx B=>by rcases ue.1 B with rfl;exact Wg hy oy);rw[d1,sbind];clear d1 d2;unfold stepQ;by_cases j:schR s
 case neg=>
  rw[oh (λm=>j m.1.2.1)];simp only[];rw[ou trivial,bifT,w33g];rfl
 rw[oi ⟨⟨growsR,j,rfl⟩,rfl⟩];obtain⟨z,g1,g2⟩:=Qto (T:=fv (toF 0)) (H:=fv h) (y:=fv y) (p:=fv p) j A M (bz_fv I) (bz_fv hy) (bz_fv J);have hd:doQ growsT s (limQ 4000) (fv (toF 0)) (fv h) (rv [y]) (rv [p])=.inr z:=g1;show(bif decide ((match doQ growsT s (limQ 4000) (fv (toF 0)) (fv h) (rv [y]) (rv [p]) with | .inl f=>(noM,f) | .inr z=>(toM z,(⟨0,0,0,0⟩:Qc))).2.Gf=2) then _ else _)=_;rw[hd];simp only[];have w:qw (fv p*fv h)<=300:=ov (Xj (qw_fv J oy) (qw_fv I oy)) oy;obtain⟨⟨q1,q8⟩,_,a1,_,a2⟩:=j.2.1
 have L:∀ r∈s.A.map rv,QR 129 r/\r.length<=8:=λr j=>by obtain⟨x,B,rfl⟩:=xd.1 j;obtain⟨i,hi,rfl⟩:=List.mem_iff_getElem.1 B;have:=a2 i _ (ow hi);exact⟨QR_rv (l.a _ B) oy,by rw[Jg];omega⟩
 have C:∀ i,i<s.B.length->qw (dt (rv s.B) (uQ (s.A.map rv) i) 0)<=50000000000:=λi hi=>by
  have F:=Qk2 (z:=0) (b:=1) (QR_rv l.b oy) (V8 (Qpa L i) (yq _ (yg (n:=9) oy (show i<=7 by omega)))) (by rw[Yx];exact ot _);have G:(rv s.B).length*(129+1200*9 ^ 7+1)<=8*(129+1200*9 ^ 7+1):=xg _ (by rw[Jg];omega);have h3:1+8*(129+1200*9 ^ 7+1)<=50000000000:=oy
  omega
 have u:∀ i,i<=s.B.length->qw (facQ (s.A.map rv) (rv s.B) (fv p*fv h) i)<=1+i*51000000000:=by
  intro i
  induction i with
  | zero=>intro _;rw[show facQ (s.A.map rv) (rv s.B) (fv p*fv h) 0=1 from rfl,Qk3];omega
  | succ i ih=>
    intro hi;have:=Qdi (ih om) (Xj (C i om) (Qil w (i+1)));show qw (facQ (s.A.map rv) (rv s.B) (fv p*fv h) i+dt (rv s.B) (uQ (s.A.map rv) i) 0*powQ (fv p*fv h) (i+1))<=_;omega
 rw[show(decide ((0:Int)=2))=false from rfl,bifF,Vc (k:=1) hn oy oy J I,sbind,show((1:Nat):Int)=1 from rfl,Qdy hn,sbind,sbind];rw[Qbc (s:=(toF 1,toF 1,([]:List Int),(0:Int))) (λi=>(toF (facQ (s.A.map rv) (rv s.B) (fv p*fv h) i),toF (powQ (fv p*fv h) i),chain i,(i:Int))) s.B.length (.go (toF (facQ (s.A.map rv) (rv s.B) (fv p*fv h) s.B.length))) ?_ ?_ (Qij hn om) rfl,J7]
 rotate_left
 . intro i hi
   have m:chain i++[(i:Int)]=chain (i+1):=by unfold chain;rw[List.range_succ,yd];rfl
   have Q:=Qil w (i+1);have hpi:=Qil w i;have hfb:=u i om;have X:=C i hi;have hwp:=Xj X Q;show(bif decide ((i:Int)<(s.B.length:Int)) then _ else _)=_
   rw[ou (show(i:Int)<(s.B.length:Int) by omega),bifT,Zp (by rw[Qdj];simp;omega) (by rw[Qdj];simp;omega),sbind,m,Qpr hn l j om,sbind,
    Vc (k:=1000000000000) hn oy oy (Kf om) (Kf om),sbind,Jn,Jn]
   show((Jz big (toF (dt (rv s.B) (uQ (s.A.map rv) i) 0)) (toF (powQ (fv p*fv h) (i+1)))).bind _)=_;rw[Vc (k:=1000000000000) hn oy oy (Kf om) (Kf om),sbind,Jn,Jn,Wv (k:=1000000000000) hn oy oy (Kf om) (Kf om),sbind,Jn,Jn,xz,bifF,w1 (i:=i) om];rfl
 . show(bif decide ((s.B.length:Int)<(s.B.length:Int)) then _ else _)=_
   rw[oo (Int.lt_irrefl _),bifF]
 have P:=u s.B.length (ot _);have Y:=qw_fv hy (ot 1);have hfy:=Xj P Y;rw[Qag,bifT,Vc (k:=1000000000000) hn oy oy (Kf om) (Wg hy oy),sbind,Jn];show((Qam big (toR z.next) (toR [_])).bind _)=_;rw[g2,Qnj (k:=1000000000000) hn oy oy (Qaz (λq S=>by rcases ue.1 S with rfl;omega)) (Qaz (λq S=>by rcases ue.1 S with rfl;omega)),sbind,ou rfl,bifT,w33g];rfl
end Go.Proofs.YtmnlcblemgjeeaaGreatDoor
