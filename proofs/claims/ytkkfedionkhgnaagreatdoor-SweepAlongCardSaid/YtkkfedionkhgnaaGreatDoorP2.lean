import Derived.Test.YtkkfedionkhgnaaGreatDoorP1
namespace Go.Proofs.YtkkfedionkhgnaaGreatDoor
open Go Go.RowKit
theorem Qu4{lim:Int}:∀ {l:List Rat}{i j:Nat},fitQ lim l i=some j->j<i+l.length
 | [],i,j,h=>by simp[fitQ] at h
 | q::l,i,j,h=>by simp only[fitQ] at h;split at h;have:=Qu4 h;simp;omega;cases h;simp
structure MadeQ where
 ys:List (List Rat)
 ks:List (List Rat)
 next:List Rat
 err:List Rat
def towQ(H:Rat)(m:Nat)(c:List Rat)(kss:List (List Rat)):List Rat:=scaleQ H (mixQ c kss (List.replicate m 0))
def fromQ(H:Rat)(Y c:List Rat)(kss:List (List Rat)):List Rat:=addQ Y (towQ H Y.length c kss)
def stageQ(t:Ql)(lim:Int)(T H:Rat)(Y P:List Rat)(a:List Rat)(c:Rat)(i:Nat)(kss:List (List Rat)):Qc ⊕ (List Rat×List Rat):=
 match fitQ lim (fromQ H Y a kss) 0 with
 | some j=>.inl ⟨6,0,(i:Int),300+(j:Int)⟩
 | none=>match fieldQ t lim (T+H*c) (fromQ H Y a kss) P with
   | .inl e=>.inl ⟨e.1,0,(i:Int),(e.2:Int)⟩
   | .inr k=>.inr (fromQ H Y a kss,k)
def stagesQ(t:Ql)(lim:Int)(T H:Rat)(Y P:List Rat):List (List Rat×Rat)->Nat->List (List Rat)->List (List Rat)->Qc ⊕ (List (List Rat)×List (List Rat))
 | [],_,yss,kss=>.inr (yss,kss)
 | x::r,i,yss,kss=>match stageQ t lim T H Y P x.1 x.2 i kss with
   | .inl f=>.inl f
   | .inr z=>stagesQ t lim T H Y P r (i+1) (yss++[z.1]) (kss++[z.2])
def endQ(s:Qv)(lim:Int)(H:Rat)(Y:List Rat)(yss kss:List (List Rat)):Qc ⊕ MadeQ:=
 match fitQ lim (fromQ H Y (rv s.B) kss) 0 with
 | some j=>.inl ⟨6,0,(s.B.length:Int),300+(j:Int)⟩
 | none=>match fitQ lim (if gapQ s=[] then [] else towQ H Y.length (gapQ s) kss) 0 with
   | some j=>.inl ⟨6,0,(s.B.length:Int)+1,300+(j:Int)⟩
   | none=>.inr ⟨yss,kss,fromQ H Y (rv s.B) kss,if gapQ s=[] then [] else towQ H Y.length (gapQ s) kss⟩
def doQ(t:Ql)(s:Qv)(lim:Int)(T H:Rat)(Y P:List Rat):Qc ⊕ MadeQ:=
 match stagesQ t lim T H Y P (List.zip (s.A.map rv) (rv s.C)) 0 [] [] with
 | .inl f=>.inl f
 | .inr z=>endQ s lim H Y z.1 z.2
def toRR(l:List (List Rat)):List (List Qa):=l.map toR
theorem Vs(l:List (List Rat)):(toRR l).length=l.length:=by unfold toRR;simp
theorem Q55(l:List (List Rat)):(toRR l).map rv=l:=by
 unfold toRR;rw[List.map_map]
 conv=>rhs;rw[←List.map_id l]
 exact List.map_congr_left λq _=>Kw q
theorem Qop{l:List (List Rat)}{P:List Qa->Prop}(h:∀ a∈l,P (toR a)):∀ a∈toRR l,P a:=λa ha=>by obtain⟨q,hq,rfl⟩:=List.mem_map.1 ha;exact h q hq
theorem Que(m:Nat):QR 1 (List.replicate m 0):=λq hq=>by rw[(List.mem_replicate.1 hq).2,Zn];exact Nat.le_refl _
theorem Qq5{k m:Nat}{H:Rat}{c:List Rat}{kss:List (List Rat)}(hH:qw H≤k)(hc:QR k c)(hk:∀ a∈kss,QR 129 a)(hl:kss.length≤8)(h0:129≤k):QR (20*k) (towQ H m c kss):=by have h2:=Qq2 (z:=List.replicate m 0) hc hk (Que m);have h3:kss.length*(k+129+1)≤8*(k+129+1):=Nat.mul_le_mul_right _ hl;exact Q8 (Ql5 hH h2) (by omega)
theorem Qr2{k:Nat}{H:Rat}{Y c:List Rat}{kss:List (List Rat)}(hY:QR k Y)(hH:qw H≤k)(hc:QR k c)(hk:∀ a∈kss,QR 129 a)(hl:kss.length≤8)(h0:129≤k):QR (22*k) (fromQ H Y c kss):=
 Q8 (Qq1 hY (Qq5 hH hc hk hl h0)) (by omega)
theorem Ql6{m:Nat}{H:Rat}{c:List Rat}{kss:List (List Rat)}(hk:∀ a∈kss,a.length=m):(towQ H m c kss).length=m:=by unfold towQ;rw[Zo];exact Qgc hk (by simp)
theorem Qex{H:Rat}{Y c:List Rat}{kss:List (List Rat)}(hk:∀ a∈kss,a.length=Y.length):(fromQ H Y c kss).length=Y.length:=by unfold fromQ;rw[Qeu,Ql6 hk,Nat.min_self]
section
variable {n k:Nat}{p:Qf}{t h:Qa}{y:List Qa}{g:Qh}{ys ks:List (List Qa)}{nx er:List Qa}
theorem Qv4{c:List Qa}{kss:List (List Rat)}(hn:big≤n)(h0:129≤k)(hk:k<16384)(hh:Fk k h)(hc:FR k c)(hkq:∀ a∈kss,QR 129 a)(hl:kss.length≤8)(hcl:c.length=kss.length)(hkl:∀ a∈kss,a.length=y.length)(hy:y.length≤6):
 V4 n p t h y g ys (toRR kss) nx er c=some (toR (towQ (fv h) y.length (rv c) kss)):=by
 unfold V4;rw[Qon,Qub (j:=k) (k:=129) hn (by omega) (by omega) (by omega) (by omega) hc (Qop λa ha=>J6 (hkq a ha)) (by omega) (by rw[Vs];omega),sbind,if_pos ⟨by rw[Vs,hcl],Qop λa ha=>by rw[Q2];exact hkl a ha⟩];rw[Q55];have hm:=Qq2 (z:=List.replicate y.length 0) (QR_rv hc (by omega)) hkq (Que y.length);have h3:kss.length*(k+129+1)≤8*(k+129+1):=Nat.mul_le_mul_right _ hl;have hml:=Qgc (cs:=rv c) hkl (show(List.replicate y.length (0:Rat)).length=y.length by simp);rw[Xx (k:=20*k) hn (by omega) (by omega) (Vq hh (by omega)) (J6 (Q8 hm (by omega))) (by rw[Q2,hml];omega),sbind,Kw];rfl
theorem Q08{c:List Qa}{kss:List (List Rat)}(hn:big≤n)(h0:129≤k)(hk:k<16384)(hh:Fk k h)(hyk:FR k y)(hc:FR k c)(hkq:∀ a∈kss,QR 129 a)(hl:kss.length≤8)(hcl:c.length=kss.length)(hkl:∀ a∈kss,a.length=y.length)(hy:y.length≤6):
 Yc n p t h y g ys (toRR kss) nx er c=some (toR (fromQ (fv h) (rv y) (rv c) kss)):=by
 unfold Yc;have hb:=Qq5 (m:=y.length) (qw_fv hh (by omega)) (QR_rv hc (by omega)) hkq hl h0;have htl:=Ql6 (H:=fv h) (c:=rv c) hkl;rw[Qv4 hn h0 hk hh hc hkq hl hcl hkl hy,sbind,Qaz (k:=20*k) hn (by omega) (by omega) (Js hyk (by omega)) (J6 hb) (by omega),sbind,Q2,htl,if_pos rfl,Kw];unfold fromQ;rw[Q3]
theorem Quf{l:List Rat}{x2:Int}(hn:big≤n)(hl:QR 1099511627775 l)(hll:l.length≤1000):
 ∃ g',g'.limit=g.limit∧Wh n p t h y g ys ks nx er (toR l) x2=some (match fitQ g.limit l 0 with | none=>(⟨0,0,0,0⟩,g') | some j=>(⟨6,0,x2,300+(j:Int)⟩,g')):=by
 obtain⟨g',h1,h2⟩:=Qoo (g:=g) hn hl;refine⟨g',h1,?_⟩;unfold Wh;rw[h2,sbind];cases hf:fitQ g.limit l 0 with
 | none=>rfl
 | some j=>
   have:=Qu4 hf;simp only[Bool.not_false,bifT];rw[w64 (by omega) (by omega)]
structure PrbOK(n k:Nat)(p:Qf)(t h:Qa)(y:List Qa):Prop where
 tp:Qud n k p.Tape
 sw:SchW k p.An
 sr:schR p.An
 pk:FR k p.P
 pl:(p.P.length:Int)=p.Tape.Ay
 tk:Fk k t
 hk:Fk k h
 yk:FR k y
 yl:(y.length:Int)=p.Tape.Au
def limQ(bits:Int):Int:=min (max bits 0) 4096
theorem Qp7{i:Nat}{c:Qa}(hn:big≤n)(h0:129≤k)(hk:k<16384)(ht:Fk k t)(hh:Fk k h)(hck:Fk k c)(hc:p.An.C[i]?=some c):Qbv n p t h (i:Int)=some (toF (fv t+fv h*fv c)):=by have hi:=Kh hc;have hmul:=X3 (qw_fv hh (by omega)) (qw_fv hck (by omega));unfold Qbv;simp only[jn_eq];rw[decide_eq_false (show ¬(i:Int)<0 by omega),bifF,decide_eq_false (show ¬(p.An.C.length:Int)≤(i:Int) by omega),bifF,Ki hc,sbind,V3 hn (by omega) (by omega) hh hck,sbind,Vd (k:=4*k) hn (by omega) (by omega) (Vq ht (by omega)) (Q6 (by omega)),sbind,Q1]
theorem Q7f{i:Nat}{a:List Qa}{c:Qa}{kss:List (List Rat)}(hn:big≤n)(h0:129≤k)(hk:k<16384)(ok:PrbOK n k p t h y)(hg:g.limit=limQ p.Ap)
 (ha:p.An.A[i]?=some a) (hc:p.An.C[i]?=some c) (hys:ys.length≤8) (hkq:∀ a∈kss,QR 129 a) (hki:kss.length=i) (hkl:∀ a∈kss,a.length=y.length) :
 ∃ g',g'.limit=g.limit∧∃ r,Xr n p t h y g ys (toRR kss) nx er (i:Int)=some r ∧
   match stageQ p.Tape (limQ p.Ap) (fv t) (fv h) (rv y) (rv p.P) (rv a) (fv c) i kss with
   | .inl f=>r.1=f∧f.Aq≠0
   | .inr z=>r=(⟨0,0,0,0⟩,p,t,h,y,nx,er,g',ys++[toR z.1],toRR (kss++[z.2]))∧QR 129 z.2∧z.2.length=y.length:=by
 obtain⟨⟨d1,d2⟩,⟨d3,d4⟩,d5,d6⟩:=ok.tp.r.1;obtain⟨⟨g1,g2⟩,g3,g4,g5,g6⟩:=ok.sr.2.1;have hi:=Kh ha;have hyl:=ok.yl;have hak:=ok.sw.a a (Jm ha);have hck:=ok.sw.c c (Jm hc);have hal:=g6 i a ha;have hb:=Qr2 (QR_rv ok.yk (by omega)) (qw_fv ok.hk (by omega)) (QR_rv hak (by omega)) hkq (by omega) h0;have hfl:=Qex (H:=fv h) (Y:=rv y) (c:=rv a) (kss:=kss) (by rw[Q3];exact hkl);rw[Q3] at hfl;unfold Xr;rw[Ki ha,sbind,Q08 hn h0 hk ok.hk ok.yk hak hkq (by omega) (by omega) hkl (by omega),sbind];obtain⟨g',e1,e2⟩:=Quf (p:=p) (t:=t) (h:=h) (y:=y) (g:=g) (ys:=ys) (ks:=toRR kss) (nx:=nx) (er:=er) (x2:=(i:Int)) hn (Q8 hb (show 22*k≤1099511627775 by omega)) (by omega);refine⟨g',e1,?_⟩;rw[e2,sbind,hg];unfold stageQ;cases hf:fitQ (limQ p.Ap) (fromQ (fv h) (rv y) (rv a) kss) 0 with
 | some j=>
   simp only[];rw[Jw (by decide),Bool.not_false,bifT];exact⟨_,rfl,rfl,by decide⟩
 | none=>
   simp only[];rw[J2,Bool.not_true,bifF];unfold Qo8;have hmul:=X3 (qw_fv ok.hk (by omega)) (qw_fv hck (by omega));have hadd:=Yl (qw_fv ok.tk (by omega)) hmul;rw[Qp7 hn h0 hk ok.tk ok.hk hck hc,sbind,sbind];have hF:=Qz9 (k:=22*k) (t:=p.Tape) (p:=⟨toF (fv t+fv h*fv c),toR (fromQ (fv h) (rv y) (rv a) kss),p.P⟩) (bits:=p.Ap) hn (by omega) (by omega) ⟨ok.tp.r,ok.tp.h,λx hx=>Vq (ok.tp.w x hx) (by omega)⟩ (Q6 (by omega)) (J6 hb) (Js ok.pk (by omega)) (by simp only[Q2,hfl];exact hyl) ok.pl;rw[hF,sbind];simp only[];rw[Q1,Kw];have hlim:limQ p.Ap=min (max p.Ap 0) 4096:=rfl;rw[hlim];cases hq:fieldQ p.Tape (min (max p.Ap 0) 4096) (fv t+fv h*fv c) (fromQ (fv h) (rv y) (rv a) kss) (rv p.P) with
   | inl e=>
     have hkd:=Qv3 hq;simp only[];rw[Jw (by omega),Bool.not_false,bifT];exact⟨_,rfl,rfl,by show e.1≠0;omega⟩
   | inr l=>
     obtain⟨q1,q2⟩:=Q06 (by omega) hq;simp only[];rw[J2,Bool.not_true,bifF,Km (by simp;omega) (by simp;omega),sbind,Km (by rw[Vs];simp;omega) (by rw[Vs];simp;omega),sbind];refine⟨_,rfl,?_,q2,by omega⟩;unfold toRR;rw[List.map_append];rfl
end
section
variable {n k:Nat}{p:Qf}{t h:Qa}{y:List Qa}
def pairQ(s:Qv):List (List Rat×Rat):=List.zip (s.A.map rv) (rv s.C)
theorem Q9g{s:Qv}{i:Nat}{a:List Qa}{c:Qa}(ha:s.A[i]?=some a)(hc:s.C[i]?=some c):(pairQ s).drop i=(rv a,fv c)::(pairQ s).drop (i+1):=by
 have h1:(pairQ s)[i]?=some (rv a,fv c):=by unfold pairQ rv;rw[List.getElem?_zip_eq_some];simp only[List.getElem?_map];exact⟨by rw[ha];rfl,by rw[hc];rfl⟩
 have hi:=Kh h1;rw[List.drop_eq_getElem_cons hi];congr 1;rw[List.getElem?_eq_getElem hi] at h1;exact Option.some.inj h1
theorem Ja5{g:Qh}(hn:big≤n)(h0:129≤k)(hk:k<8000)(ok:PrbOK n k p t h y)(hg:g.limit=limQ p.Ap):
 ∃ r,Qa6 n p t h y g [] [] [] []=some r ∧
   match doQ p.Tape p.An (limQ p.Ap) (fv t) (fv h) (rv y) (rv p.P) with
   | .inl f=>r.1=f∧f.Aq≠0
   | .inr z=>∃ g',r=(⟨0,0,0,0⟩,p,t,h,y,toR z.next,toR z.err,g',toRR z.ys,toRR z.ks)∧z.ys.length=p.An.B.length∧z.ks.length=p.An.B.length:=by
 obtain⟨⟨d1,d2⟩,⟨d3,d4⟩,d5,d6⟩:=ok.tp.r.1;obtain⟨⟨g1,g2⟩,g3,g4,g5,g6⟩:=ok.sr.2.1;have hyl:=ok.yl;unfold Qa6
 have key:∀(bs:List Qa) (i:Nat) (g:Qh) (yss kss:List (List Rat)) (K:(Qf×Qa×Qa×(List Qa)×Qh×(List (List Qa))×(List (List Qa))×(List Qa)×(List Qa))->Option (Qc×Qf×Qa×Qa×(List Qa)×(List Qa)×(List Qa)×Qh×(List (List Qa))×(List (List Qa)))),
  i+bs.length=p.An.B.length->yss.length=i->kss.length=i->(∀ a∈kss,QR 129 a)->(∀ a∈kss,a.length=y.length)->g.limit=limQ p.Ap →
  match stagesQ p.Tape (limQ p.Ap) (fv t) (fv h) (rv y) (rv p.P) ((pairQ p.An).drop i) i yss kss with
  | .inl f=>∃ r,(rangeL (λ(i15:Nat) (_:Qa) (s14:Qf×Qa×Qa×(List Qa)×Qh×(List (List Qa))×(List (List Qa))×(List Qa)×(List Qa))=>
  (Xr n s14.1 s14.2.1 s14.2.2.1 s14.2.2.2.1 s14.2.2.2.2.1 s14.2.2.2.2.2.1 s14.2.2.2.2.2.2.1 s14.2.2.2.2.2.2.2.1 s14.2.2.2.2.2.2.2.2 (i15:Int)).bind λr18=>
  bif !(Qo r18.1 (⟨0,0,0,0⟩:Qc)) then (
   some (Lp.out ((r18.1,r18.2.1,r18.2.2.1,r18.2.2.2.1,r18.2.2.2.2.1,r18.2.2.2.2.2.1,r18.2.2.2.2.2.2.1,r18.2.2.2.2.2.2.2.1,r18.2.2.2.2.2.2.2.2.1,r18.2.2.2.2.2.2.2.2.2))))
  else (
   some (Lp.go (r18.2.1,r18.2.2.1,r18.2.2.2.1,r18.2.2.2.2.1,r18.2.2.2.2.2.2.2.1,r18.2.2.2.2.2.2.2.2.1,r18.2.2.2.2.2.2.2.2.2,r18.2.2.2.2.2.1,r18.2.2.2.2.2.2.1)))) bs i (p,t,h,y,g,toRR yss,toRR kss,[],[])).bind (lpK K)=some r∧r.1=f∧f.Aq≠0
   | .inr z=>∃ g',g'.limit=limQ p.Ap∧(rangeL (λ(i15:Nat) (_:Qa) (s14:Qf×Qa×Qa×(List Qa)×Qh×(List (List Qa))×(List (List Qa))×(List Qa)×(List Qa))=>
  (Xr n s14.1 s14.2.1 s14.2.2.1 s14.2.2.2.1 s14.2.2.2.2.1 s14.2.2.2.2.2.1 s14.2.2.2.2.2.2.1 s14.2.2.2.2.2.2.2.1 s14.2.2.2.2.2.2.2.2 (i15:Int)).bind λr18=>
  bif !(Qo r18.1 (⟨0,0,0,0⟩:Qc)) then (
   some (Lp.out ((r18.1,r18.2.1,r18.2.2.1,r18.2.2.2.1,r18.2.2.2.2.1,r18.2.2.2.2.2.1,r18.2.2.2.2.2.2.1,r18.2.2.2.2.2.2.2.1,r18.2.2.2.2.2.2.2.2.1,r18.2.2.2.2.2.2.2.2.2))))
  else (
   some (Lp.go (r18.2.1,r18.2.2.1,r18.2.2.2.1,r18.2.2.2.2.1,r18.2.2.2.2.2.2.2.1,r18.2.2.2.2.2.2.2.2.1,r18.2.2.2.2.2.2.2.2.2,r18.2.2.2.2.2.1,r18.2.2.2.2.2.2.1)))) bs i (p,t,h,y,g,toRR yss,toRR kss,[],[])).bind (lpK K)=K (p,t,h,y,g',toRR z.1,toRR z.2,[],[])∧z.1.length=p.An.B.length∧z.2.length=p.An.B.length∧(∀ a∈z.2,QR 129 a)∧∀ a∈z.2,a.length=y.length:=by
  intro bs
  induction bs with
  | nil=>
    intro i g yss kss K hi hy1 hk1 hq hl hg;have he:(pairQ p.An).drop i=[]:=by apply List.drop_eq_nil_of_le;unfold pairQ;simp only[List.length_nil,Nat.add_zero] at hi;rw[List.length_zip,Q3,List.length_map];omega
    rw[he];simp only[stagesQ];simp only[List.length_nil,Nat.add_zero] at hi;exact⟨g,hg,rfl,by omega,by omega,hq,hl⟩
  | cons b bs ih=>
    intro i g yss kss K hi hy1 hk1 hq hl hg;rw[List.length_cons] at hi;have ha:p.An.A[i]?=some (p.An.A[i]'(by omega)):=List.getElem?_eq_getElem (by omega);have hc:p.An.C[i]?=some (p.An.C[i]'(by omega)):=List.getElem?_eq_getElem (by omega);rw[Q9g ha hc];generalize p.An.A[i]'(by omega)=a at ha;generalize p.An.C[i]'(by omega)=c at hc;simp only[stagesQ,rangeL];obtain⟨g',e1,r,e2,e3⟩:=Q7f (g:=g) (ys:=toRR yss) (nx:=[]) (er:=[]) hn h0 (by omega) ok hg ha hc (by rw[Vs];omega) hq hk1 hl;rw[e2,sbind];cases hs:stageQ p.Tape (limQ p.Ap) (fv t) (fv h) (rv y) (rv p.P) (rv a) (fv c) i kss with
    | inl f=>
      rw[hs] at e3;obtain⟨e4,e5⟩:=e3;obtain⟨⟨f1,f2,f3,f4⟩,r⟩:=r;simp only[] at e4;subst e4;simp only[];rw[Jw e5,Bool.not_false,bifT,sbind];exact⟨_,rfl,rfl,e5⟩
    | inr z=>
      rw[hs] at e3;obtain⟨e4,e5,e6⟩:=e3;subst e4;simp only[];rw[J2,Bool.not_true,bifF,sbind]
      have:=ih (i+1) g' (yss++[z.1]) (kss++[z.2]) K (by omega) (by simp;omega) (by simp;omega) (λa ha=>by
       rcases List.mem_append.1 ha with ha | ha
       . exact hq a ha
       . rw[List.mem_singleton.1 ha];exact e5) (λa ha=>by
       rcases List.mem_append.1 ha with ha | ha
       . exact hl a ha
       . rw[List.mem_singleton.1 ha];exact e6) (by omega)
      have e7:toRR yss++[toR z.1]=toRR (yss++[z.1]):=by unfold toRR;rw[List.map_append];rfl
      rw[e7];exact this
 generalize hK:(λ(s20:Qf×Qa×Qa×(List Qa)×Qh×(List (List Qa))×(List (List Qa))×(List Qa)×(List Qa))=>
  (Yc n s20.1 s20.2.1 s20.2.2.1 s20.2.2.2.1 s20.2.2.2.2.1 s20.2.2.2.2.2.1 s20.2.2.2.2.2.2.1 s20.2.2.2.2.2.2.2.1 s20.2.2.2.2.2.2.2.2 p.An.B).bind λr21=>
 (Wh n s20.1 s20.2.1 s20.2.2.1 s20.2.2.2.1 s20.2.2.2.2.1 s20.2.2.2.2.2.1 s20.2.2.2.2.2.2.1 r21 s20.2.2.2.2.2.2.2.2 r21 (p.An.B.length:Int)).bind λr23=>
 bif !(Qo r23.1 (⟨0,0,0,0⟩:Qc)) then (
  some (r23.1,s20.1,s20.2.1,s20.2.2.1,s20.2.2.2.1,r21,s20.2.2.2.2.2.2.2.2,r23.2,s20.2.2.2.2.2.1,s20.2.2.2.2.2.2.1))
 else (
  jn (λ(j29:((List Qa))->Option _)=>
   (Qbl n p.An).bind λr32=>
   bif decide ((0:Int)<(r32.length:Int)) then (
    (V4 n s20.1 s20.2.1 s20.2.2.1 s20.2.2.2.1 r23.2 s20.2.2.2.2.2.1 s20.2.2.2.2.2.2.1 r21 s20.2.2.2.2.2.2.2.2 r32).bind λr34=>
    j29 r34)
   else (
    j29 s20.2.2.2.2.2.2.2.2)) (λ(s31:(List Qa))=>
   (Wh n s20.1 s20.2.1 s20.2.2.1 s20.2.2.2.1 r23.2 s20.2.2.2.2.2.1 s20.2.2.2.2.2.2.1 r21 s31 s31 (wrap64 ((p.An.B.length:Int)+(1:Int)))).bind λr36=>
   some (r36.1,s20.1,s20.2.1,s20.2.2.1,s20.2.2.2.1,r21,s31,r36.2,s20.2.2.2.2.2.1,s20.2.2.2.2.2.2.1))))=K
 have h1:=key p.An.B 0 g [] [] K (by omega) rfl rfl (λ_ h=>by cases h) (λ_ h=>by cases h) hg;unfold doQ;rw[List.drop_zero] at h1;unfold pairQ at h1;cases hs:stagesQ p.Tape (limQ p.Ap) (fv t) (fv h) (rv y) (rv p.P) (List.zip (p.An.A.map rv) (rv p.An.C)) 0 [] [] with
 | inl f=>
   rw[hs] at h1;exact h1
 | inr z=>
   rw[hs] at h1;obtain⟨g',q1,q2,q3,q4,q5,q6⟩:=h1;obtain⟨yss,kss⟩:=z;simp only[] at q2 q3 q4 q5 q6 ⊢;have e0:toRR []=[]:=rfl;rw[e0] at q2;rw[q2,←hK];simp only[];have hbB:=Qr2 (QR_rv ok.yk (by omega)) (qw_fv ok.hk (by omega)) (QR_rv ok.sw.b (by omega)) q5 (by omega) h0;have hlB:=Qex (H:=fv h) (Y:=rv y) (c:=rv p.An.B) (kss:=kss) (by rw[Q3];exact q6);rw[Q3] at hlB;have hgq:=Q9f (k:=k) (s:=p.An) (by omega) ok.sw;rw[Q08 hn h0 (by omega) ok.hk ok.yk ok.sw.b q5 (by omega) (by omega) q6 (by omega),sbind];obtain⟨g2',e1,e2⟩:=Quf (p:=p) (t:=t) (h:=h) (y:=y) (g:=g') (ys:=toRR yss) (ks:=toRR kss) (nx:=toR (fromQ (fv h) (rv y) (rv p.An.B) kss)) (er:=[]) (x2:=(p.An.B.length:Int)) hn (Q8 hbB (show 22*k≤1099511627775 by omega)) (by omega);rw[e2,sbind,q1];unfold endQ;cases hf:fitQ (limQ p.Ap) (fromQ (fv h) (rv y) (rv p.An.B) kss) 0 with
   | some j=>
     simp only[];rw[Jw (by decide),Bool.not_false,bifT];exact⟨_,rfl,rfl,by decide⟩
   | none=>
     simp only[];rw[J2,Bool.not_true,bifF,jn_eq,Qpn hn (by omega) (by omega) ok.sw ok.sr,sbind,Q2];have hE:((V4 n p t h y g2' (toRR yss) (toRR kss) (toR (fromQ (fv h) (rv y) (rv p.An.B) kss)) [] (toR (gapQ p.An)))=some (toR (towQ (fv h) y.length (gapQ p.An) kss))∨gapQ p.An=[])∧QR (41*k+1000) (if gapQ p.An=[] then [] else towQ (fv h) y.length (gapQ p.An) kss)∧(if gapQ p.An=[] then [] else towQ (fv h) y.length (gapQ p.An) kss).length≤1000:=by
      by_cases he:gapQ p.An=[]
      . rw[if_pos he];exact⟨.inr he,λ_ h=>(by cases h),by simp⟩
      . have hEl:p.An.E.length=p.An.B.length:=by
         rcases g5 with g5 | g5
         . exact g5
         . exact absurd (by unfold gapQ;rw[if_pos (List.eq_nil_of_length_eq_zero g5)]) he
        have hgl:(gapQ p.An).length=p.An.B.length:=by unfold gapQ;rw[if_neg (λh=>by rw[h] at hEl;simp at hEl;omega),Qeu,Zo,Q3,Q3];omega
        rw[if_neg he];have ht:=Qv4 (k:=2*k+2) (p:=p) (t:=t) (h:=h) (y:=y) (g:=g2') (ys:=toRR yss) (nx:=toR (fromQ (fv h) (rv y) (rv p.An.B) kss)) (er:=[]) (c:=toR (gapQ p.An)) (kss:=kss) hn (by omega) (by omega) (Vq ok.hk (by omega)) (J6 hgq) q5 (by omega) (by rw[Q2];omega) q6 (by omega);rw[Kw] at ht;refine⟨.inl ht,Q8 (Qq5 (k:=2*k+2) (Nat.le_trans (qw_fv ok.hk (by omega)) (by omega)) hgq q5 (by omega) (by omega)) (by omega),?_⟩;rw[Ql6 q6];omega
     obtain⟨hE1,hE2,hE3⟩:=hE;have hj:∀ {β:Type}(f:List Qa->Option β),(bif decide ((0:Int)<((gapQ p.An).length:Int)) then (V4 n p t h y g2' (toRR yss) (toRR kss) (toR (fromQ (fv h) (rv y) (rv p.An.B) kss)) [] (toR (gapQ p.An))).bind λr34=>f r34 else f [])=f (toR (if gapQ p.An=[] then [] else towQ (fv h) y.length (gapQ p.An) kss)):=by
      intro β f;by_cases he:gapQ p.An=[]
      . rw[if_pos he,he];rfl
      . have:(gapQ p.An).length≠0:=λh=>he (List.eq_nil_of_length_eq_zero h)
        rw[if_neg he,decide_eq_true (by omega),bifT,hE1.resolve_right he,sbind]
     rw[hj,w1 (by omega),Q3];generalize (if gapQ p.An=[] then [] else towQ (fv h) y.length (gapQ p.An) kss)=er at hE2 hE3 ⊢;obtain⟨g3',e3,e4⟩:=Quf (p:=p) (t:=t) (h:=h) (y:=y) (g:=g2') (ys:=toRR yss) (ks:=toRR kss) (nx:=toR (fromQ (fv h) (rv y) (rv p.An.B) kss)) (er:=toR er) (x2:=((p.An.B.length+1:Nat):Int)) hn (Q8 hE2 (show 41*k+1000≤1099511627775 by omega)) hE3;rw[e4,sbind,show g2'.limit=limQ p.Ap by omega];cases hf2:fitQ (limQ p.Ap) er 0 with
     | some j=>exact⟨_,rfl,rfl,by show(6:Int)≠0;decide⟩
     | none=>exact⟨_,rfl,g3',rfl,q3,q4⟩
theorem Qyf(hn:big≤n)(h1:1≤k)(hk:k<1048576)(ht:TW p.Tape)(hd:-9223372036854775808≤p.Tape.Au∧p.Tape.Au≤9223372036854775807)(hs:SchW k p.An):
 Zy n p=some (dP (tapeR p.Tape∧schR p.An∧(p.P.length:Int)=p.Tape.Ay)):=by
 unfold Zy;simp only[jn_eq];rw[Qpj hn ht hd,sbind,bifP];by_cases c1:tapeR p.Tape;rw[if_pos c1,Qnb hn h1 hk hs,sbind,bifP];by_cases c2:schR p.An;rw[if_pos c2];exact Qb5 ⟨λh=>⟨c1,c2,h⟩,λh=>h.2.2⟩;rw[if_neg c2,dP_f λh=>c2 h.2.1];rw[if_neg c1,dP_f λh=>c1 h.1]
end
def tI(x:Q9):Qt:=⟨x.Op,x.A,x.B,⟨⟨x.N.Neg,x.N.N⟩,x.N.D⟩⟩
theorem Qd8(f:Qe)(k:Nat):Vu f (k:Int)=some (!decide (f.N.length≤k∧f.D.length≤k)):=by unfold Vu;simp only[jn_eq,bifd];by_cases h:(k:Int)<(f.N.length:Int);rw[if_pos h,decide_eq_false (by omega)];rfl;rw[if_neg h];by_cases g:(k:Int)<(f.D.length:Int);rw[decide_eq_true g,decide_eq_false (by omega)];rfl;rw[decide_eq_false g,decide_eq_true (by omega)];rfl
theorem Qyg{n:Nat}{t:Jv}{many k:Nat}(hn:big≤n)(hm:many≤1000000):∃ v,Zz n t (many:Int) (k:Int)=some v∧(v=false->t.Code.length≤many∧t.Ar.length≤many∧∀ c∈t.Code,c.N.N.length≤k∧c.N.D.length≤k):=by unfold Zz;rw[Qom (λi=>∀ c,t.Code[i]?=some c->c.N.N.length≤k∧c.N.D.length≤k) (min t.Code.length many) (r:=true)];by_cases h:∀ i,i<min t.Code.length many->∀ c,t.Code[i]?=some c->c.N.N.length≤k∧c.N.D.length≤k;rw[if_pos h];simp only[jn_eq,bifd];by_cases h1:(many:Int)<(t.Code.length:Int);rw[if_pos h1];exact⟨true,rfl,λh=>by cases h⟩;rw[if_neg h1];refine⟨_,rfl,λhv=>⟨by omega,by have:=of_decide_eq_false hv;omega,λc hc=>?_⟩⟩;obtain⟨i,hi⟩:=List.getElem?_of_mem hc;exact h i (by have:=Kh hi;omega) c hi;rw[if_neg h];exact⟨true,rfl,λh=>by cases h⟩;intro i hi;have hp:t.Code[i]?=some t.Code[i]:=List.getElem?_eq_getElem (by omega);generalize t.Code[i]=c at hp;simp only[jn_eq,bifd];rw[if_pos (by omega),if_pos (by omega),Ki hp,sbind,Qd8,sbind];by_cases h:c.N.N.length≤k∧c.N.D.length≤k;rw[decide_eq_true h,Bool.not_true,bifF,w1 (by omega)];exact⟨λ_=>rfl,λg=>absurd (λd hd=>by rw[hp] at hd;cases hd;exact h) g⟩;rw[decide_eq_false h,Bool.not_false,bifT];exact⟨λg=>absurd (g c hp) h,λ_=>rfl⟩;simp only[jn_eq,bifd];by_cases h:min t.Code.length many<t.Code.length;rw[if_pos (by omega),if_neg (by omega)];rw[if_neg (by omega),bifF];unfold big at hn;omega
theorem Q14{n:Nat}{t:Jv}(hn:big≤n)(h1:t.Code.length≤1000000)(h2:t.Ar.length≤1000000):Qas n t=some ⟨t.Code.map tI,t.Ar,t.Au,t.Ay⟩:=by unfold Qas;rw[Km (by simp;omega) (by simp;omega),sbind];rw[Qh1 (λi=>((t.Code.take i).map tI,(i:Int))) t.Code.length (t.Code.map tI)];rfl;intro i hi;have hp:t.Code[i]?=some t.Code[i]:=List.getElem?_eq_getElem hi;generalize t.Code[i]=p at hp;simp only[bifd,Jt,sbind];rw[if_pos (by omega),Ki hp,sbind,Km (by simp;omega) (by simp;omega),sbind,w1 (by omega),Qae tI hp];rfl;simp only[bifd];rw[if_neg (by omega),List.take_length];unfold big at hn;omega;rfl
def tF(x:Qe):Qa:=⟨⟨x.Neg,x.N⟩,x.D⟩
theorem Kx{n:Nat}{l:List Qe}(hn:big≤n)(h1:l.length≤1000000):Q7 n l=some (l.map tF):=by unfold Q7;rw[Qh1 (λi=>((l.take i).map tF,(i:Int))) l.length (l.map tF)];intro i hi;have hp:l[i]?=some l[i]:=List.getElem?_eq_getElem hi;generalize l[i]=p at hp;simp only[bifd,Jt,sbind];rw[if_pos (by omega),Ki hp,sbind,Km (by simp;omega) (by simp;omega),sbind,w1 (by omega),Qae tF hp];rfl;simp only[bifd];rw[if_neg (by omega),List.take_length];unfold big at hn;omega;rfl
theorem Q15{n:Nat}{l:List (List Qe)}(hn:big≤n)(h1:l.length≤1000000)(h2:∀ r∈l,r.length≤1000000):Qar n l=some (l.map (·.map tF)):=by unfold Qar;rw[Qh1 (λi=>((l.take i).map (·.map tF),(i:Int))) l.length (l.map (·.map tF))];intro i hi;have hp:l[i]?=some l[i]:=List.getElem?_eq_getElem hi;generalize l[i]=p at hp;simp only[bifd];rw[if_pos (by omega),Ki hp,sbind,Kx hn (h2 p (Jm hp)),sbind,Km (by simp;omega) (by simp;omega),sbind,w1 (by omega),Qae (·.map tF) hp];simp only[bifd];rw[if_neg (by omega),List.take_length];unfold big at hn;omega;rfl
def FL(many k:Nat)(l:List Qe):Prop:=l.length≤many∧∀ x∈l,x.N.length≤k∧x.D.length≤k
theorem K6{n:Nat}{l:List Qe}{many k:Nat}(hn:big≤n)(hm:many≤1000000):∃ v,Qx n l (many:Int) (k:Int)=some v∧(v=false->FL many k l):=by unfold Qx;rw[Qom (λi=>∀ c,l[i]?=some c->c.N.length≤k∧c.D.length≤k) (min l.length many) (r:=true)];by_cases h:∀ i,i<min l.length many->∀ c,l[i]?=some c->c.N.length≤k∧c.D.length≤k;rw[if_pos h];refine⟨_,rfl,λhv=>⟨by have:=of_decide_eq_false hv;omega,λc hc=>?_⟩⟩;have:=of_decide_eq_false hv;obtain⟨i,hi⟩:=List.getElem?_of_mem hc;exact h i (by have:=Kh hi;omega) c hi;rw[if_neg h];exact⟨true,rfl,λh=>by cases h⟩;intro i hi;have hp:l[i]?=some l[i]:=List.getElem?_eq_getElem (by omega);generalize l[i]=c at hp;simp only[jn_eq,bifd];rw[if_pos (by omega),if_pos (by omega),Ki hp,sbind,Qd8,sbind];by_cases h:c.N.length≤k∧c.D.length≤k;rw[decide_eq_true h,Bool.not_true,bifF,w1 (by omega)];exact⟨λ_=>rfl,λg=>absurd (λd hd=>by rw[hp] at hd;cases hd;exact h) g⟩;rw[decide_eq_false h,Bool.not_false,bifT];exact⟨λg=>absurd (g c hp) h,λ_=>rfl⟩;simp only[jn_eq,bifd];by_cases h:min l.length many<l.length;rw[if_pos (by omega),if_neg (by omega)];rw[if_neg (by omega),bifF];unfold big at hn;omega
theorem Qyh{n:Nat}{s:Jn}{many k:Nat}(hn:big≤n)(hm:many≤1000000):∃ v,Z1 n s (many:Int) (k:Int)=some v ∧
 (v=false->s.Name.length≤50∧s.A.length≤many∧FL many k s.B∧FL many k s.C∧FL many k s.E∧∀ r∈s.A,FL many k r):=by
 unfold Z1;simp only[jn_eq,bifd];by_cases h1:(50:Int)<(s.Name.length:Int)
 . rw[if_pos h1];exact⟨true,rfl,λh=>by cases h⟩
 rw[if_neg h1];by_cases h2:(many:Int)<(s.A.length:Int)
 . rw[if_pos h2];exact⟨true,rfl,λh=>by cases h⟩
 rw[if_neg h2];obtain⟨b,e1,e2⟩:=K6 (l:=s.B) (k:=k) hn hm;rw[e1,sbind];cases b
 case true=>exact⟨true,rfl,λh=>by cases h⟩
 rw[bifF];obtain⟨c,e3,e4⟩:=K6 (l:=s.C) (k:=k) hn hm;rw[e3,sbind];cases c
 case true=>exact⟨true,rfl,λh=>by cases h⟩
 rw[bifF];obtain⟨e,e5,e6⟩:=K6 (l:=s.E) (k:=k) hn hm;rw[e5,sbind];cases e
 case true=>exact⟨true,rfl,λh=>by cases h⟩
 rw[bifF];have hb:∀ r,∃ v,Qx n r (many:Int) (k:Int)=some v∧(v=false->FL many k r):=λr=>K6 hn hm
 have hl:=Qom (f:=λ(s28:Int)=>
  if s28<(s.A.length:Int) then (
   (getI s.A s28).bind λy29=>
   (Qx n y29 (many:Int) (k:Int)).bind λr31=>
   bif r31 then (
    some (Lp.out (Lp.out (true))))
   else (
    some (Lp.go (wrap64 (s28+(1:Int))))))
  else (
   some (Lp.out (Lp.go ())))) (n:=n) (K:=λ(_:Unit)=>some false) (r:=true) (λi=>∀ r,s.A[i]?=some r->Qx n r (many:Int) (k:Int)=some false) s.A.length (λi hi=>by
  have hp:s.A[i]?=some s.A[i]:=List.getElem?_eq_getElem hi;generalize s.A[i]=r at hp;obtain⟨v,g1,g2⟩:=hb r;rw[if_pos (by omega),Ki hp,sbind,g1,sbind];cases v
  . rw[bifF,w1 (by omega)]
    exact⟨λ_=>rfl,λg=>absurd (λd hd=>by rw[hp] at hd;cases hd;exact g1) g⟩
  . rw[bifT]
    exact⟨λg=>(by have:=g r hp;rw[g1] at this;cases this),λ_=>rfl⟩) (by rw[if_neg (by omega)]) (by unfold big at hn;omega)
 rw[hl];by_cases h:∀ i,i<s.A.length->∀ r,s.A[i]?=some r->Qx n r (many:Int) (k:Int)=some false
 . rw[if_pos h]
   refine⟨false,rfl,λ_=>⟨by omega,by omega,e2 rfl,e4 rfl,e6 rfl,λr hr=>?_⟩⟩;obtain⟨i,hi⟩:=List.getElem?_of_mem hr;obtain⟨v,g1,g2⟩:=hb r;have:=h i (Kh hi) r hi;rw[g1] at this;exact g2 (Option.some.inj this)
 . rw[if_neg h];exact⟨true,rfl,λh=>by cases h⟩
theorem Qd9{n:Nat}{p:Qz}{a b k:Nat}(hn:big≤n)(ha:a≤1000000)(hb:b≤1000000):∃ v,Xd n p (a:Int) (b:Int) (k:Int)=some v ∧
 (v=false->(p.Tape.Code.length≤a∧p.Tape.Ar.length≤a∧∀ c∈p.Tape.Code,c.N.N.length≤k∧c.N.D.length≤k)∧(p.An.Name.length≤50∧p.An.A.length≤b∧FL b 4 p.An.B∧FL b 4 p.An.C∧FL b 4 p.An.E∧∀ r∈p.An.A,FL b 4 r)∧FL 6 k p.P):=by
 unfold Xd;simp only[jn_eq];obtain⟨u,e1,e2⟩:=Qyg (t:=p.Tape) (k:=k) hn ha;rw[e1,sbind];cases u
 case true=>exact⟨true,rfl,λh=>by cases h⟩
 rw[bifF];obtain⟨u,e3,e4⟩:=Qyh (s:=p.An) (k:=4) hn hb;rw[show((4:Nat):Int)=4 from rfl] at e3;rw[e3,sbind];cases u
 case true=>exact⟨true,rfl,λh=>by cases h⟩
 rw[bifF];obtain⟨u,e5,e6⟩:=K6 (l:=p.P) (many:=6) (k:=k) hn (by decide);rw[show((6:Nat):Int)=6 from rfl] at e5;rw[e5,sbind];exact⟨u,rfl,λh=>⟨e2 rfl,e4 rfl,e6 h⟩⟩
theorem Qg4{n:Nat}{f:J7}(hn:big≤n):∃ v,Yr n f=some v∧(v=false->(f.T.N.length≤2∧f.T.D.length≤2)∧(f.H.N.length≤2∧f.H.D.length≤2)∧FL 4 2 f.Y):=by
 unfold Yr;simp only[jn_eq];have e:∀ g:Qe,Vu g 2=some (!decide (g.N.length≤2∧g.D.length≤2)):=λg=>Qd8 g 2;rw[e,sbind];by_cases h1:f.T.N.length≤2∧f.T.D.length≤2
 case neg=>rw[decide_eq_false h1];exact⟨true,rfl,λh=>by cases h⟩
 rw[decide_eq_true h1,Bool.not_true,bifF,e,sbind];by_cases h2:f.H.N.length≤2∧f.H.D.length≤2
 case neg=>rw[decide_eq_false h2];exact⟨true,rfl,λh=>by cases h⟩
 rw[decide_eq_true h2,Bool.not_true,bifF];obtain⟨u,e5,e6⟩:=K6 (l:=f.Y) (many:=4) (k:=2) hn (by decide);rw[show((4:Nat):Int)=4 from rfl,show((2:Nat):Int)=2 from rfl] at e5;rw[e5,sbind];exact⟨u,rfl,λh=>⟨h1,h2,e6 h⟩⟩
def tS(s:Jn):Qv:=⟨s.Name,s.C.map tF,s.A.map (·.map tF),s.B.map tF,s.E.map tF⟩
def tT(t:Jv):Ql:=⟨t.Code.map tI,t.Ar,t.Au,t.Ay⟩
def tP(p:Qz):Qf:=⟨tT p.Tape,tS p.An,p.P.map tF,p.Ap⟩
theorem Qgk{n:Nat}{p:Qz}(hn:big≤n)(h1:p.Tape.Code.length≤1000000)(h2:p.Tape.Ar.length≤1000000)(h3:p.An.A.length≤1000000)(h4:p.An.B.length≤1000000)(h5:p.An.C.length≤1000000)(h6:p.An.E.length≤1000000)
 (h7:∀ r∈p.An.A,r.length≤1000000) (h8:p.P.length≤1000000):Wj n p=some (tP p):=by
 unfold Wj Qcg;rw[Q14 hn h1 h2,sbind,Kx hn h5,sbind,Q15 hn h3 h7,sbind,Kx hn h4,sbind,Kx hn h6,sbind,sbind,Kx hn h8,sbind];rfl
structure PrbW(k:Nat)(p:Qf):Prop where
 t:∀ c∈p.Tape.Code,Fk k c.N
 d:-9223372036854775808≤p.Tape.Au∧p.Tape.Au≤9223372036854775807
 s:SchW k p.An
 p:FR k p.P
def prbR(p:Qf):Prop:=tapeR p.Tape∧schR p.An∧(p.P.length:Int)=p.Tape.Ay
theorem PrbW.tw{k:Nat}{p:Qf}(h:PrbW k p)(hk:k<1048576):TW p.Tape:=λc hc=>Fk_Fw (h.t c hc) (by omega)
theorem Qif{n k:Nat}{p:Qf}(hn:big≤n)(h0:129≤k)(hk:k<8000)(hw:PrbW k p):Zy n p=some (dP (prbR p)):=
 Qyf hn (by omega) (by omega) (hw.tw (by omega)) hw.d hw.s
theorem PrbW.ok{n k:Nat}{p:Qf}{t h:Qa}{y:List Qa}(hw:PrbW k p)(hn:big≤n)(hk:k<8000)(hr:prbR p)(ht:Fk k t)(hh:Fk k h)(hy:FR k y)(hl:(y.length:Int)=p.Tape.Au):PrbOK n k p t h y:=
 ⟨⟨hr.1,by rw[Qpj hn (hw.tw (by omega)) hw.d,dP_t hr.1],hw.t⟩,hw.s,hr.2.1,hw.p,hr.2.2,ht,hh,hy,hl⟩
def toM(z:MadeQ):Q4:=⟨toRR z.ys,toRR z.ks,toR z.next,toR z.err⟩
def noM:Q4:=⟨[],[],[],[]⟩
noncomputable def stepQ(p:Qf)(T H:Rat)(Y:List Rat):Qc ⊕ MadeQ:=
 @ite _ (prbR p∧(Y.length:Int)=p.Tape.Au) (Classical.propDecidable _) (doQ p.Tape p.An (limQ p.Ap) T H Y (rv p.P)) (.inl ⟨2,0,0,0⟩)
theorem Qla{n k:Nat}{p:Qf}{t h:Qa}{y:List Qa}(hn:big≤n)(h0:129≤k)(hk:k<8000)(hw:PrbW k p)(ht:Fk k t)(hh:Fk k h)(hy:FR k y):
 Qcp n p t h y=some (match stepQ p (fv t) (fv h) (rv y) with | .inl f=>(noM,f) | .inr z=>(toM z,⟨0,0,0,0⟩))∧∀ f,stepQ p (fv t) (fv h) (rv y)=.inl f->f.Aq≠0:=by
 unfold Qcp stepQ;simp only[jn_eq];rw[Qif hn h0 hk hw,sbind,bifnP,Q3];by_cases hr:prbR p
 case neg=>rw[if_neg hr,if_neg (λh=>hr h.1),bifT];exact⟨rfl,λf h=>by cases h;decide⟩
 rw[if_pos hr];by_cases hl:(y.length:Int)=p.Tape.Au
 case neg=>rw[decide_eq_false hl,if_neg (λh=>hl h.2),Bool.not_false,bifT];exact⟨rfl,λf h=>by cases h;decide⟩
 rw[decide_eq_true hl,if_pos ⟨hr,hl⟩,Bool.not_true,bifF];have ok:=hw.ok hn hk hr ht hh hy hl;unfold Wf;rw[sbind];obtain⟨r,e1,e2⟩:=Ja5 (g:=⟨⟨0,0⟩,min (max p.Ap 0) 4096⟩) hn h0 hk ok rfl;rw[e1,sbind];cases hd:doQ p.Tape p.An (limQ p.Ap) (fv t) (fv h) (rv y) (rv p.P) with
 | inl f=>
   rw[hd] at e2;obtain⟨e3,e4⟩:=e2;refine⟨?_,λg hg=>by cases hg;exact e4⟩;rw[e3];obtain⟨f1,f2,f3,f4⟩:=f;rw[Jw e4,Bool.not_false,bifT];rfl
 | inr z=>
   rw[hd] at e2;obtain⟨g',e3,_⟩:=e2;subst e3;simp only[];rw[J2,Bool.not_true,bifF];exact⟨rfl,λg hg=>by cases hg⟩
theorem Qug{t:Ql}{lim:Int}{T H:Rat}{Y P:List Rat}{m:Nat}(hlim:lim≤4096)(hm:t.Ar.length=m)(hY:Y.length=m):∀ {r:List (List Rat×Rat)}{i:Nat}{yss kss:List (List Rat)}{z},(∀ a∈kss,a.length=m)->(∀ a∈yss,a.length=m)->stagesQ t lim T H Y P r i yss kss=.inr z →
 (∀ a∈z.2,a.length=m)∧(∀ a∈z.1,a.length=m)∧(∃ e,z.1=yss++e)∧∃ e,z.2=kss++e
 | [],i,yss,kss,z,h1,h2,h=>by simp only[stagesQ] at h;cases h;exact⟨h1,h2,⟨[],by simp⟩,[],by simp⟩
 | x::r,i,yss,kss,z,h1,h2,h=>by
   simp only[stagesQ] at h;cases hs:stageQ t lim T H Y P x.1 x.2 i kss with
   | inl f=>rw[hs] at h;cases h
   | inr w=>
     rw[hs] at h;have hw:w.2.length=m∧w.1.length=m:=by
      unfold stageQ at hs;split at hs;cases hs;cases hf:fieldQ t lim (T+H*x.2) (fromQ H Y x.1 kss) P with
      | inl e=>rw[hf] at hs;cases hs
      | inr k=>
        rw[hf] at hs;cases hs;exact⟨by rw[(Q06 hlim hf).1,hm],by show(fromQ H Y x.1 kss).length=m;rw[Qex (by rw[hY];exact h1),hY]⟩
     obtain⟨g1,g2,⟨e,g3⟩,e',g4⟩:=Qug hlim hm hY (λa ha=>by
      rcases List.mem_append.1 ha with ha | ha;exact h1 a ha;rw[List.mem_singleton.1 ha];exact hw.1) (λa ha=>by
      rcases List.mem_append.1 ha with ha | ha;exact h2 a ha
      rw[List.mem_singleton.1 ha];exact hw.2) h
     exact⟨g1,g2,⟨w.1::e,by rw[g3];simp⟩,w.2::e',by rw[g4];simp⟩
set_option maxRecDepth 100000
def toD(v d:Rat):Qw:=⟨toF v,toF d⟩
def toDD(vs ds:List Rat):List Qw:=List.zipWith toD vs ds
theorem Ql7{vs ds:List Rat}(h:ds.length=vs.length):(toDD vs ds).length=vs.length:=by unfold toDD;rw[List.length_zipWith,h,Nat.min_self]
theorem Q09{vs ds:List Rat}{v d:Rat}(h:ds.length=vs.length):toDD vs ds++[toD v d]=toDD (vs++[v]) (ds++[d]):=by unfold toDD;rw[List.zipWith_append h.symm];rfl
theorem Qms{vs ds:List Rat}{r:Int}(h:ds.length=vs.length)(h1:0≤r)(h2:r<(vs.length:Int)):getI (toDD vs ds) r=some (toD (vs.getD r.toNat 0) (ds.getD r.toNat 0)):=by
 obtain⟨k,rfl⟩:∃ k:Nat,r=(k:Int):=⟨r.toNat,by omega⟩
 have hk:k<vs.length:=by omega
 have hk2:k<ds.length:=by omega
 rw[Qhy,Int.toNat_natCast];unfold toDD;rw[List.getElem?_zipWith,List.getElem?_eq_getElem hk,List.getElem?_eq_getElem hk2,List.getD_eq_getElem?_getD,List.getElem?_eq_getElem hk,List.getD_eq_getElem?_getD,List.getElem?_eq_getElem hk2];rfl
def turnQ(a q:Rat)(e:Int):Rat:=if 0<e then a ^ (e - 1) else if e<0 then q / a else 0
def slopeQ(x:Qt)(q T:Rat)(Y P vs ds:List Rat):Rat:=
 if x.Op=6 then -ds.getD x.A.toNat 0 else
 if x.Op=11 then ((x.B:Rat)*turnQ (vs.getD x.A.toNat 0) q x.B)*ds.getD x.A.toNat 0 else
 if x.Op=7 then ds.getD x.A.toNat 0+ds.getD x.B.toNat 0 else
 if x.Op=8 then ds.getD x.A.toNat 0 - ds.getD x.B.toNat 0 else
 if x.Op=9 then ds.getD x.A.toNat 0*vs.getD x.B.toNat 0+vs.getD x.A.toNat 0*ds.getD x.B.toNat 0 else
 if x.Op=10 then (ds.getD x.A.toNat 0 - q*ds.getD x.B.toNat 0) / vs.getD x.B.toNat 0 else
 if x.Op=1 then 0 else
 if x.Op=3 then Y.getD x.A.toNat 0 else
 if x.Op=4 then P.getD x.A.toNat 0 else T
theorem Q30{z:Int}(h:z.natAbs≤8):qw (z:Rat)≤1:=by unfold qw;rw[Rat.num_intCast,Rat.den_intCast];have l1:(toL z.natAbs).length≤1:=Qbh (n:=z.natAbs) (k:=1) (by rw[Xh,Qbs];omega);have l2:(toL 1).length≤1:=Qbh (n:=1) (k:=1) (by rw[Xh,Qbs];omega);omega
theorem Q7g{n k:Nat}{g:Qh}{z:Int}{t:Ql}{x:Qt}{T T':Rat}{Y P Y' P' vs ds:List Rat}(hn:big≤n)(h1:1≤k)(hk:k<1048576)(hx:mayR t vs.length x)(hN:Fk k x.N)
 (hT:qw T≤k) (hY:QR k Y) (hP:QR k P) (hV:QR k vs) (hT':qw T'≤k) (hY':QR k Y') (hP':QR k P') (hD:QR k ds) (hl:ds.length=vs.length) (hyl:Y'.length=Y.length) (hpl:P'.length=P.length) (hy:(Y.length:Int)=t.Au) (hp:(P.length:Int)=t.Ay) :
 ∃ v,Kt n g z x ⟨toD T T',toDD Y Y',toDD P P'⟩ (toDD vs ds)=some (match opQ x T Y P vs with | none=>(v,false) | some q=>(toD q (slopeQ x q T' Y' P' vs ds),true))∧∀ q,opQ x T Y P vs=some q->qw q≤8*k+1∧qw (slopeQ x q T' Y' P' vs ds)≤20*k+10:=by
 unfold Kt opQ slopeQ;have rd:=Qq3 hx;have dA:x.Op=6∨x.Op=11∨x.Op=7∨x.Op=8∨x.Op=9∨x.Op=10->getI (toDD vs ds) x.A=some (toD (vs.getD x.A.toNat 0) (ds.getD x.A.toNat 0)):=λh=>Qms hl (rd _ (rdT_A h)).1 (rd _ (rdT_A h)).2;have dB:x.Op=7∨x.Op=8∨x.Op=9∨x.Op=10->getI (toDD vs ds) x.B=some (toD (vs.getD x.B.toNat 0) (ds.getD x.B.toNat 0)):=λh=>Qms hl (rd _ (rdT_B h)).1 (rd _ (rdT_B h)).2;have qA:qw (vs.getD x.A.toNat 0)≤k:=Vy hV h1;have qB:qw (vs.getD x.B.toNat 0)≤k:=Vy hV h1;have qA':qw (ds.getD x.A.toNat 0)≤k:=Vy hD h1;have qB':qw (ds.getD x.B.toNat 0)≤k:=Vy hD h1;generalize vs.getD x.A.toNat 0=a at dA qA ⊢;generalize vs.getD x.B.toNat 0=b at dB qB ⊢;generalize ds.getD x.A.toNat 0=a' at dA qA' ⊢;generalize ds.getD x.B.toNat 0=b' at dB qB' ⊢;have fA:Fk k (toF a):=Q6 qA;have fB:Fk k (toF b):=Q6 qB;have fA':Fk k (toF a'):=Q6 qA';have fB':Fk k (toF b'):=Q6 qB';have pV:∀ u w:Rat,(toD u w).V=toF u:=λ_ _=>rfl;have pD:∀ u w:Rat,(toD u w).D=toF w:=λ_ _=>rfl;simp only[bifd];by_cases o6:x.Op=6;simp only[if_pos o6];unfold Qdu;rw[dA (by omega),sbind,pV,pD,Qdh hn (Fk_Fw fA (by omega)),sbind,Qdh hn (Fk_Fw fA' (by omega)),sbind,sbind,Q1,Q1];exact⟨toD 0 0,rfl,λq hq=>by cases hq;rw[Qmr,Qmr];omega⟩;simp only[if_neg o6];by_cases o11:x.Op=11;simp only[if_pos o11];unfold Qdv;simp only[jn_eq];rw[dA (by omega),sbind,pV,pD,Qjn hn h1 (by omega) fA,sbind,Q1];by_cases hc:x.B < -8∨8<x.B∨(x.B<0∧a=0)
 simp only[if_pos hc];exact⟨_,rfl,λq hq=>by cases hq⟩;simp only[if_neg hc];rw[Bool.not_true,bifF,Wu hn,sbind];have hq:=Qu0 qA (e:=x.B) (by omega)
 have key:∀ w:Rat,qw w≤16*k+2->turnQ a (a ^ x.B) x.B=w->((Jp n x.B).bind λr16=>(Vi n r16 (toF w)).bind λr18=>(Vi n r18 (toF a')).bind λr20=>(some ((⟨toF (a ^ x.B),r20⟩:Qw),true):Option (Qw×Bool)))=some (toD (a ^ x.B) (((x.B:Rat)*turnQ a (a ^ x.B) x.B)*a'),true)∧qw (((x.B:Rat)*turnQ a (a ^ x.B) x.B)*a')≤20*k+10:=λw hw e=>by have qi:=Q30 (z:=x.B) (by omega);have q1:=X3 qi hw;have q2:=X3 q1 qA';rw[Qh2 hn (by omega) (by omega),sbind,V3 (k:=16*k+2) hn (by omega) (by omega) (Q6 (by omega)) (Q6 hw),sbind,V3 (k:=20*k) hn (by omega) (by omega) (Q6 (by rw[Q1,Q1];omega)) (Q6 (by omega)),sbind,Q1,Q1,Q1,Q1,e];exact⟨rfl,by omega⟩
 simp only[bifd];by_cases h0:0<x.B;have hw1:=Qu0 qA (e:=x.B - 1) (by omega);obtain⟨k1,k2⟩:=key (a ^ (x.B - 1)) (by omega) (by unfold turnQ;rw[if_pos h0]);rw[if_pos h0,w64 (by omega) (by omega),Qjn hn h1 (by omega) fA,sbind,Q1,if_neg (show ¬(x.B - 1 < -8∨8<x.B - 1∨(x.B - 1<0∧a=0)) by omega)];simp only[];rw[k1,sbind];exact⟨toD 0 0,rfl,λq hq=>by cases hq;exact⟨hq,k2⟩⟩;rw[if_neg h0];by_cases h2:x.B<0;have ha:¬ a=0:=λg=>hc (.inr (.inr ⟨h2,g⟩));have hw1:=Qq0 hq qA;obtain⟨k1,k2⟩:=key (a ^ x.B / a) (by omega) (by unfold turnQ;rw[if_neg h0,if_pos h2]);rw[if_pos h2,Qdi (k:=8*k+1) hn (by omega) (by omega) (Q6 hq) (Q6 (by omega)),sbind,Q1,Q1,if_neg ha];simp only[];rw[k1,sbind];exact⟨toD 0 0,rfl,λq hq=>by cases hq;exact⟨hq,k2⟩⟩;obtain⟨k1,k2⟩:=key 0 (by rw[Zn];omega) (by unfold turnQ;rw[if_neg h0,if_neg h2]);rw[if_neg h2,k1,sbind];exact⟨toD 0 0,rfl,λq hq=>by cases hq;exact⟨hq,k2⟩⟩;simp only[if_neg o11];by_cases o7:x.Op=7;simp only[if_pos o7];unfold Qdw;rw[dA (by omega),sbind,dB (by omega),sbind,pV,pV,pD,pD,Vd hn h1 (by omega) fA fB,sbind,Vd hn h1 (by omega) fA' fB',sbind,sbind,Q1,Q1,Q1,Q1];exact⟨toD 0 0,rfl,λq hq=>by cases hq;have:=Yl qA qB;have:=Yl qA' qB';omega⟩;simp only[if_neg o7];by_cases o8:x.Op=8;simp only[if_pos o8];unfold Qdx;rw[dA (by omega),sbind,dB (by omega),sbind,pV,pV,pD,pD,Qjm hn h1 (by omega) fA fB,sbind,Qjm hn h1 (by omega) fA' fB',sbind,sbind,Q1,Q1,Q1,Q1];exact⟨toD 0 0,rfl,λq hq=>by cases hq;have:=Qx9 qA qB;have:=Qx9 qA' qB';omega⟩;simp only[if_neg o8];by_cases o9:x.Op=9;simp only[if_pos o9];unfold Qdy;have q1:=X3 qA' qB;have q2:=X3 qA qB';have q3:=X3 qA qB;have q4:=Yl q1 q2;rw[dA (by omega),sbind,dB (by omega),sbind,pV,pV,pD,pD,V3 hn h1 (by omega) fA fB,sbind,V3 hn h1 (by omega) fA' fB,sbind,V3 hn h1 (by omega) fA fB',sbind,Q1,Q1,Q1,Q1,Vd (k:=2*k) hn (by omega) (by omega) (Q6 (by omega)) (Q6 (by omega)),sbind,sbind,Q1,Q1];exact⟨toD 0 0,rfl,λq hq=>by cases hq;omega⟩;simp only[if_neg o9];by_cases o10:x.Op=10;simp only[if_pos o10];unfold Qdz;rw[dA (by omega),sbind,dB (by omega),sbind,pV,pV,pD,pD,Qdi hn h1 (by omega) fA fB,sbind,Q1,Q1];by_cases hb:b=0;simp only[if_pos hb];exact⟨_,rfl,λq hq=>by cases hq⟩;simp only[if_neg hb];have q0:=Qq0 qA qB;have q1:=X3 q0 qB';have q2:=Qx9 qA' q1;have q3:=Qq0 q2 qB;rw[Bool.not_true,bifF,V3 (k:=2*k) hn (by omega) (by omega) (Q6 (by omega)) (Q6 (by omega)),sbind,Q1,Q1,Qjm (k:=3*k) hn (by omega) (by omega) (Q6 (by omega)) (Q6 (by omega)),sbind,Q1,Q1,Qdi (k:=4*k+1) hn (by omega) (by omega) (Q6 (by omega)) (Q6 (by omega)),sbind,Q1,Q1,if_neg hb,sbind];exact⟨toD 0 0,rfl,λq hq=>by cases hq;omega⟩;simp only[if_neg o10];unfold Wb;simp only[bifd];by_cases o1:x.Op=1;simp only[if_pos o1];unfold Qe7;rw[K8 hn (Fk_Fw hN (by omega)),sbind,Wu hn,sbind,sbind,sbind];exact⟨toD 0 0,rfl,λq hq=>by cases hq;have:=qw_fv hN h1;rw[Zn];omega⟩;simp only[if_neg o1];by_cases o3:x.Op=3;simp only[if_pos o3];obtain⟨a1,a2⟩:=Qyd hx o3;rw[Qms hyl a1 (by omega),sbind,sbind]
 exact⟨toD 0 0,rfl,λq hq=>by cases hq;have:=Vy (i:=x.A.toNat) hY h1;have:=Vy (i:=x.A.toNat) hY' h1;omega⟩;simp only[if_neg o3];by_cases o4:x.Op=4;simp only[if_pos o4];obtain⟨a1,a2⟩:=Qye hx o4;rw[Qms hpl a1 (by omega),sbind,sbind];exact⟨toD 0 0,rfl,λq hq=>by cases hq;have:=Vy (i:=x.A.toNat) hP h1;have:=Vy (i:=x.A.toNat) hP' h1;omega⟩;simp only[if_neg o4];exact⟨toD 0 0,rfl,λq hq=>by cases hq;omega⟩
def prunQ(lim:Int)(T:Rat)(Y P:List Rat)(T':Rat)(Y' P':List Rat):List Qt->Nat->List Rat->List Rat->(Int×Int×Nat) ⊕ (List Rat×List Rat)
 | [],_,vs,ds=>.inr (vs,ds)
 | x::c,i,vs,ds=>match opQ x T Y P vs with
   | none=>.inl (3,0,i)
   | some q=>if (qz q:Int)≤lim then (if (qz (slopeQ x q T' Y' P' vs ds):Int)≤lim then prunQ lim T Y P T' Y' P' c (i+1) (vs++[q]) (ds++[slopeQ x q T' Y' P' vs ds]) else .inl (6,1,i)) else .inl (6,0,i)
theorem Q9h{n k:Nat}{g:Qh}{t:Ql}{T T':Rat}{Y P Y' P':List Rat}(hn:big≤n)(h1:129≤k)(hk:k<1048576)(ht:tapeR t)(hR:Zc n t=some true)(hN:∀ c∈t.Code,Fk k c.N)
 (hT:qw T≤k) (hY:QR k Y) (hP:QR k P) (hT':qw T'≤k) (hY':QR k Y') (hP':QR k P') (hyl:Y'.length=Y.length) (hpl:P'.length=P.length) (hy:(Y.length:Int)=t.Au) (hp:(P.length:Int)=t.Ay) (hg:g.limit≤4096) :
 ∃ g',Vo n g 0 t ⟨toD T T',toDD Y Y',toDD P P'⟩=some (match prunQ g.limit T Y P T' Y' P' t.Code 0 [] [] with | .inl e=>([],⟨e.1,0,0,(e.2.2:Int)⟩,g',e.2.1) | .inr l=>(toDD l.1 l.2,⟨0,0,0,0⟩,g',0)):=by
 unfold Vo;simp only[jn_eq,hR,sbind,Bool.not_true,bifF];rw[Ql7 hyl,Ql7 hpl,decide_eq_true hy,decide_eq_true hp,Bool.not_true,bifF,bifF]
 have key:∀(c:List Qt) (vs ds:List Rat) (g:Qh) (K:Qh×Int×List Qw->Option (List Qw×Qc×Qh×Int)),(∀(j:Nat) x,c[j]?=some x->mayR t (vs.length+j) x)->(∀ x∈c,Fk k x.N)->QR k vs->QR k ds->ds.length=vs.length->g.limit≤4096->vs.length+c.length≤300 →
  ∃ g',(rangeL (λ(i30:Nat) (x31:Qt) (s29:Qh×Int×(List Qw))=>
    (Kt n s29.1 s29.2.1 x31 ⟨toD T T',toDD Y Y',toDD P P'⟩ s29.2.2).bind λr33=>
    bif !r33.2 then (
     some (Lp.out ((([]:List Qw),(⟨(3:Int),0,0,(i30:Int)⟩:Qc),s29.1,s29.2.1))))
    else (
     (Qa7 n s29.1 s29.2.1 r33.1).bind λr35=>
     bif !r35.1 then (
      some (Lp.out ((([]:List Qw),(⟨(6:Int),0,0,(i30:Int)⟩:Qc),r35.2.1,r35.2.2))))
     else (
      (appM 112 s29.2.2 ([r33.1]:List Qw)).bind λy37=>
      some (Lp.go (r35.2.1,r35.2.2,y37))))) c vs.length (g,0,toDD vs ds)).bind (lpK K)=match prunQ g.limit T Y P T' Y' P' c vs.length vs ds with | .inl e=>some ([],⟨e.1,0,0,(e.2.2:Int)⟩,g',e.2.1) | .inr l=>K (g',0,toDD l.1 l.2):=by
  intro c
  induction c with
  | nil=>intro vs ds g K _ _ _ _ _ _ _;exact⟨g,rfl⟩
  | cons x c ih=>
    intro vs ds g K hm hN hV hD hdl hg hl;simp only[rangeL,prunQ];obtain⟨v,e1,e2⟩:=Q7g (g:=g) (z:=0) hn (by omega) hk (by have:=hm 0 x rfl;rwa [Nat.add_zero] at this) (hN x (.head _)) hT hY hP hV hT' hY' hP' hD hdl hyl hpl hy hp;rw[e1,sbind];cases hq:opQ x T Y P vs with
    | none=>exact⟨g,rfl⟩
    | some q=>
      obtain⟨hqk,hdk⟩:=e2 q hq;simp only[Bool.not_true,bifF];generalize slopeQ x q T' Y' P' vs ds=d at hdk ⊢;unfold Qa7;rw[show(toD q d).V=toF q from rfl,show(toD q d).D=toF d from rfl,Qj2 hn (by omega),sbind];simp only[];by_cases hf:(qz q:Int)≤g.limit;rw[decide_eq_true hf,if_pos hf,Bool.not_true,bifF,Qj2 hn (by omega),sbind];simp only[];by_cases hf2:(qz d:Int)≤g.limit;rw[decide_eq_true (show(qz d:Int)≤(noteG g q).limit from hf2),if_pos hf2,Bool.not_true,bifF,sbind];simp only[Bool.not_true,bifF];rw[Km (by rw[Ql7 hdl];simp at hl ⊢;omega) (by rw[Ql7 hdl];simp at hl ⊢;omega),sbind,sbind];simp only[];have hq2:qw q≤k:=by
       have:=qw_qz (q:=q) (b:=4096) (by omega);omega
      have hd2:qw d≤k:=by have:=qw_qz (q:=d) (b:=4096) (by omega);omega
      have hlen:(vs++[q]).length=vs.length+1:=by simp
      obtain⟨g',h⟩:=ih (vs++[q]) (ds++[d]) (noteG (noteG g q) d) K (λj y hy=>by
       rw[hlen,show vs.length+1+j=vs.length+(j+1) by omega];exact hm (j+1) y (by simpa using hy)) (λy hy=>hN y (.tail _ hy)) (λz hz=>by
       rcases List.mem_append.1 hz with hz | hz;exact hV z hz;rw[List.mem_singleton.1 hz];exact hq2) (λz hz=>by
       rcases List.mem_append.1 hz with hz | hz;exact hD z hz
       rw[List.mem_singleton.1 hz];exact hd2) (by simp;exact hdl) hg (by rw[hlen];simp at hl;omega)
      refine⟨g',?_⟩;rw[hlen] at h;rw[Q09 hdl];exact h;rw[decide_eq_false (show ¬(qz d:Int)≤(noteG g q).limit from hf2),if_neg hf2,Bool.not_false,bifT];unfold Qjf;rw[sbind,sbind];exact⟨noteG (noteG g q) d,rfl⟩;rw[decide_eq_false hf,if_neg hf,Bool.not_false,bifT,sbind];exact⟨noteG g q,rfl⟩
 obtain⟨⟨d1,d2,d3,d4⟩,m1,m2⟩:=ht;obtain⟨g',h⟩:=key t.Code [] [] g (λs39=>some (s39.2.2,(⟨0,0,0,0⟩:Qc),s39.1,s39.2.1)) (λj x hx=>by rw[show([]:List Rat).length+j=j by simp];exact m1 j x hx) hN (λ_ h=>by cases h) (λ_ h=>by cases h) rfl hg (by simpa using d4);refine⟨g',?_⟩;rw[show(([]:List Rat).length)=0 from rfl,show toDD [] []=[] from rfl] at h;rw[h];cases prunQ g.limit T Y P T' Y' P' t.Code 0 [] []<;>rfl
theorem Q1a{lim:Int}:∀ {l:List Rat}{i:Nat},fitQ lim l i=none->∀ q∈l,(qz q:Int)≤lim
 | [],_,_,q,hq=>by cases hq
 | x::l,i,h,q,hq=>by simp only[fitQ] at h;split at h;rename_i hx;rcases List.mem_cons.1 hq with rfl | hq;exact hx;exact Q1a h q hq;cases h
theorem Qj3{lim:Int}{l:List Rat}(hlim:lim≤4096)(h:fitQ lim l 0=none):QR 129 l:=λq hq=>by have h1:=Q1a h q hq;have h2:=qw_qz (q:=q) (b:=4096) (by omega);omega
theorem Qa0{p:Qf}{T H:Rat}{Y:List Rat}{z:MadeQ}(h:stepQ p T H Y=.inr z):prbR p∧(Y.length:Int)=p.Tape.Au∧QR 129 z.next∧z.next.length=Y.length∧QR 129 z.err:=by
 unfold stepQ at h;by_cases hc:prbR p∧(Y.length:Int)=p.Tape.Au
 case neg=>rw[if_neg hc] at h;cases h
 rw[if_pos hc] at h;refine⟨hc.1,hc.2,?_⟩;have hdim:=hc.1.1.1;unfold doQ at h;cases hz:stagesQ p.Tape (limQ p.Ap) T H Y (rv p.P) (List.zip (p.An.A.map rv) (rv p.An.C)) 0 [] [] with
 | inl e=>rw[hz] at h;cases h
 | inr w=>
   rw[hz] at h;simp only[] at h;obtain⟨g1,g2,g3,g4⟩:=Qug (m:=Y.length) (by unfold limQ;omega) (by have:=hdim.2.2.1;omega) rfl (λ_ h=>by cases h) (λ_ h=>by cases h) hz;unfold endQ at h;have hlim:limQ p.Ap≤4096:=by unfold limQ;omega
   split at h
   . cases h
   . rename_i hf
     split at h
     . cases h
     . rename_i hf2
       cases h;exact⟨Qj3 hlim hf,Qex g1,Qj3 hlim hf2⟩
theorem Qq6{l:List Rat}:scaleQ 1 l=l:=by
 unfold scaleQ
 conv=>rhs;rw[←List.map_id l]
 exact List.map_congr_left λq _=>by show 1*q=q;grind
theorem Qq7:qw 1=1:=by unfold qw;rw[show(1:Rat).num=1 from rfl,show(1:Rat).den=1 from rfl,show(1:Int).natAbs=1 from rfl,toL1];rfl
set_option maxRecDepth 100000
theorem Q0a{α:Type}{l:List α}{i:Nat}{x:α}(h:l[i]?=some x):l.take (i+1)=l.take i++[x]:=by rw[List.take_add_one,h];rfl
theorem Qwt{lim T Y P T' Y' P'}(hlim:lim≤4096):∀ {c:List Qt}{i:Nat}{vs ds:List Rat}{l:List Rat×List Rat},QR 129 vs->QR 129 ds->ds.length=vs.length->prunQ lim T Y P T' Y' P' c i vs ds=.inr l->l.1.length=vs.length+c.length∧l.2.length=l.1.length∧QR 129 l.1∧QR 129 l.2
 | [],i,vs,ds,l,hv,hd,hl,h=>by simp only[prunQ] at h;cases h;exact⟨rfl,hl,hv,hd⟩
 | x::c,i,vs,ds,l,hv,hd,hl,h=>by
   simp only[prunQ] at h;cases hq:opQ x T Y P vs with
   | none=>rw[hq] at h;cases h
   | some q=>
     rw[hq] at h;simp only[] at h;generalize slopeQ x q T' Y' P' vs ds=d at h;by_cases hf:(qz q:Int)≤lim
     case neg=>rw[if_neg hf] at h;cases h
     rw[if_pos hf] at h;by_cases hf2:(qz d:Int)≤lim
     case neg=>rw[if_neg hf2] at h;cases h
     rw[if_pos hf2] at h;have b1:=qw_qz (q:=q) (b:=4096) (by omega);have b2:=qw_qz (q:=d) (b:=4096) (by omega)
     obtain⟨h1,h2,h3,h4⟩:=Qwt hlim (λz hz=>by
      rcases List.mem_append.1 hz with hz | hz
      . exact hv z hz
      . rw[List.mem_singleton.1 hz];omega) (λz hz=>by
      rcases List.mem_append.1 hz with hz | hz
      . exact hd z hz
      . rw[List.mem_singleton.1 hz];omega) (by simp;exact hl) h
     exact⟨by rw[h1];simp;omega,h2,h3,h4⟩
theorem Qr3{lim T Y P T' Y' P'}:∀ {c:List Qt}{i:Nat}{vs ds:List Rat}{e},prunQ lim T Y P T' Y' P' c i vs ds=.inl e->e.1=3∨e.1=6
 | [],i,vs,ds,e,h=>by simp only[prunQ] at h;cases h
 | x::c,i,vs,ds,e,h=>by
   simp only[prunQ] at h;cases hq:opQ x T Y P vs with
   | none=>rw[hq] at h;cases h;exact .inl rfl
   | some q=>
     rw[hq] at h;simp only[] at h;split at h;split at h;exact Qr3 h;cases h;exact .inr rfl;cases h;exact .inr rfl
def pfieldQ(t:Ql)(lim:Int)(T:Rat)(Y P:List Rat)(T':Rat)(Y' P':List Rat):(Int×Int×Nat) ⊕ (List Rat×List Rat):=
 match prunQ lim T Y P T' Y' P' t.Code 0 [] [] with
 | .inl e=>.inl e
 | .inr l=>.inr (t.Ar.map λo=>l.1.getD o.toNat 0,t.Ar.map λo=>l.2.getD o.toNat 0)
theorem Qq8{vs ds:List Rat}(h:ds.length=vs.length)(hl:vs.length≤1000000):Qgu (toR vs) (toR ds)=some (toDD vs ds,true):=by
 unfold Qgu;rw[Q2,Q2,decide_eq_true (by omega),Bool.not_true,bifF];rw[X2 (λi=>toDD (vs.take i) (ds.take i)) (toR vs)];rw[Q2,List.take_length,←h,List.take_length];show some _=_;rfl;intro i x hx;have hi:=Kh hx;rw[Q2] at hi;have h1:vs[i]?=some vs[i]:=List.getElem?_eq_getElem hi;have h2:ds[i]?=some (ds[i]'(by omega)):=List.getElem?_eq_getElem _;generalize vs[i]=v at h1;generalize ds[i]'(by omega)=d at h2;have e1:x=toF v:=by
  unfold toR at hx;rw[List.getElem?_map,h1] at hx;exact(Option.some.inj hx).symm
 have hl2:(ds.take i).length=(vs.take i).length:=by rw[List.length_take,List.length_take,h]
 have hle:(vs.take i).length≤vs.length:=by rw[List.length_take];omega
 rw[Ki (show(toR ds)[i]?=some (toF d) by unfold toR;rw[List.getElem?_map,h2];rfl),sbind,Km (by rw[Ql7 hl2];simp;omega) (by rw[Ql7 hl2];simp;omega),sbind,e1,show(⟨toF v,toF d⟩:Qw)=toD v d from rfl,Q09 hl2,Q0a h1,Q0a h2];rfl
theorem Qyi{n k:Nat}{t:Ql}{p q:Va}{bits:Int}(hn:big≤n)(h1:129≤k)(hk:k<1048576)(ht:Qud n k t)(hT:Fk k p.T)(hY:FR k p.Y)(hP:FR k p.P)(hT':Fk k q.T)(hY':FR k q.Y)(hP':FR k q.P)(hy:(p.Y.length:Int)=t.Au)(hp:(p.P.length:Int)=t.Ay)(hyl:q.Y.length=p.Y.length)(hpl:q.P.length=p.P.length):
 Qhl n t p q bits=some (match pfieldQ t (min (max bits 0) 4096) (fv p.T) (rv p.Y) (rv p.P) (fv q.T) (rv q.Y) (rv q.P) with | .inl e=>([],[],⟨e.1,0,e.2.1,(e.2.2:Int)⟩) | .inr l=>(toR l.1,toR l.2,⟨0,0,0,0⟩)):=by
 obtain⟨r,h,w⟩:=ht;have hd:=r.1;obtain⟨⟨d1,d2⟩,⟨d3,d4⟩,d5,d6⟩:=hd;have eT:=qw_fv hT (by omega);have eY:=QR_rv hY (by omega);have eP:=QR_rv hP (by omega);have eT':=qw_fv hT' (by omega);have eY':=QR_rv hY' (by omega);have eP':=QR_rv hP' (by omega);unfold Qhl Qmd Qco Wf;simp only[jn_eq];rw[K8 hn (Fk_Fw hT (by omega)),sbind,Zv hn (by omega) hY (by omega),sbind,Zv hn (by omega) hP (by omega),sbind,sbind,K8 hn (Fk_Fw hT' (by omega)),sbind,Zv hn (by omega) hY' (by omega),sbind,Zv hn (by omega) hP' (by omega),sbind,sbind];simp only[];rw[Qq8 (by rw[Q3,Q3];exact hyl) (by rw[Q3];omega),sbind,Qq8 (by rw[Q3,Q3];exact hpl) (by rw[Q3];omega),sbind];simp only[Bool.not_true,bifF,sbind];obtain⟨g',e⟩:=Q9h (g:=⟨⟨0,0⟩,min (max bits 0) 4096⟩) hn h1 hk r h w eT eY eP eT' eY' eP' (by rw[Q3,Q3];exact hyl) (by rw[Q3,Q3];exact hpl) (by rw[Q3];exact hy) (by rw[Q3];exact hp) (by simp only[];omega);rw[show(⟨toF (fv p.T),toF (fv q.T)⟩:Qw)=toD (fv p.T) (fv q.T) from rfl,e,sbind];unfold pfieldQ;simp only[];cases hr:prunQ (min (max bits 0) 4096) (fv p.T) (rv p.Y) (rv p.P) (fv q.T) (rv q.Y) (rv q.P) t.Code 0 [] [] with
 | inl q=>
   have hk:=Qr3 hr;simp only[];rw[sbind];simp only[];rw[Jw (by omega),Bool.not_false,bifT]
 | inr l=>
   obtain⟨l1,l2,l3,l4⟩:=Qwt (by omega) (λ_ h=>by cases h) (λ_ h=>by cases h) rfl hr;have hl:l.1.length=t.Code.length:=by simpa using l1
   simp only[];rw[sbind];simp only[];rw[J2,Bool.not_true,bifF];rw[X2 (λi=>(toR ((t.Ar.take i).map λo=>l.1.getD o.toNat 0),toR ((t.Ar.take i).map λo=>l.2.getD o.toNat 0))) t.Ar];rw[List.take_length];rfl;intro i o ho;have hb:=r.2.2 o (Jm ho);have hi:=Kh ho;rw[Qms l2 hb.1 (by omega),sbind,Km (by simp only[Q2,List.length_map,List.length_take,List.length_cons,List.length_nil];omega) (by simp only[Q2,List.length_map,List.length_take,List.length_cons,List.length_nil];omega),sbind,sbind,Km (by simp only[Q2,List.length_map,List.length_take,List.length_cons,List.length_nil];omega) (by simp only[Q2,List.length_map,List.length_take,List.length_cons,List.length_nil];omega),sbind,Q0a ho];simp only[List.map_append,List.map_cons,List.map_nil];rw[←Qwr,←Qwr];rfl;rfl
theorem Qyj{t:Ql}{lim T Y P T' Y' P' l}(hlim:lim≤4096)(h:pfieldQ t lim T Y P T' Y' P'=.inr l):l.1.length=t.Ar.length∧l.2.length=t.Ar.length∧QR 129 l.1∧QR 129 l.2:=by
 unfold pfieldQ at h;cases hr:prunQ lim T Y P T' Y' P' t.Code 0 [] [] with
 | inl q=>rw[hr] at h;cases h
 | inr l'=>
   rw[hr] at h;cases h;obtain⟨l1,l2,l3,l4⟩:=Qwt hlim (λ_ h=>by cases h) (λ_ h=>by cases h) rfl hr;refine⟨by simp,by simp,λq hq=>?_,λq hq=>?_⟩;obtain⟨o,_,rfl⟩:=List.mem_map.1 hq;exact Vy l3 (by omega);obtain⟨o,_,rfl⟩:=List.mem_map.1 hq;exact Vy l4 (by omega)
theorem Quh{t:Ql}{lim T Y P T' Y' P' e}(h:pfieldQ t lim T Y P T' Y' P'=.inl e):e.1=3∨e.1=6:=by
 unfold pfieldQ at h;cases hr:prunQ lim T Y P T' Y' P' t.Code 0 [] [] with
 | inl q=>rw[hr] at h;cases h;exact Qr3 hr
 | inr l'=>rw[hr] at h;cases h
theorem Q1b{t:Ql}{lim:Int}{T H:Rat}{Y P:List Rat}(hlim:lim≤4096):∀ {r:List (List Rat×Rat)}{i:Nat}{yss kss:List (List Rat)}{z},(∀ a∈yss,QR 129 a)->stagesQ t lim T H Y P r i yss kss=.inr z->∀ a∈z.1,QR 129 a
 | [],i,yss,kss,z,h1,h=>by simp only[stagesQ] at h;cases h;exact h1
 | x::r,i,yss,kss,z,h1,h=>by
   simp only[stagesQ] at h;cases hs:stageQ t lim T H Y P x.1 x.2 i kss with
   | inl f=>rw[hs] at h;cases h
   | inr w=>
     rw[hs] at h;have hw:QR 129 w.1:=by
      unfold stageQ at hs;cases hf:fitQ lim (fromQ H Y x.1 kss) 0 with
      | some j=>rw[hf] at hs;cases hs
      | none=>
        rw[hf] at hs;simp only[] at hs;cases hf2:fieldQ t lim (T+H*x.2) (fromQ H Y x.1 kss) P with
        | inl e=>rw[hf2] at hs;cases hs
        | inr k=>rw[hf2] at hs;cases hs;exact Qj3 hlim hf
     exact Q1b hlim (λa ha=>by
      rcases List.mem_append.1 ha with ha | ha;exact h1 a ha
      rw[List.mem_singleton.1 ha];exact hw) h
theorem Qwu{p:Qf}{T H:Rat}{Y:List Rat}{z:MadeQ}(h:stepQ p T H Y=.inr z):(∀ a∈z.ys,QR 129 a∧a.length=Y.length)∧z.ys.length=p.An.B.length:=by
 obtain⟨hr,hl,_⟩:=Qa0 h;have hd:=hr.1.1;unfold stepQ at h;rw[if_pos ⟨hr,hl⟩] at h;unfold doQ at h;cases hz:stagesQ p.Tape (limQ p.Ap) T H Y (rv p.P) (List.zip (p.An.A.map rv) (rv p.An.C)) 0 [] [] with
 | inl e=>rw[hz] at h;cases h
 | inr w=>
   rw[hz] at h;simp only[] at h;have hlim:limQ p.Ap≤4096:=by unfold limQ;omega
   have q1:=Q1b hlim (λ_ h=>by cases h) hz;obtain⟨_,q2,_,_⟩:=Qug hlim (m:=Y.length) (by have:=hd.2.2.1;omega) rfl (λ_ h=>by cases h) (λ_ h=>by cases h) hz;have q3:∀ {r:List (List Rat×Rat)}{i:Nat}{yss kss:List (List Rat)}{z},stagesQ p.Tape (limQ p.Ap) T H Y (rv p.P) r i yss kss=.inr z->z.1.length=yss.length+r.length:=by
    intro r
    induction r with
    | nil=>intro i yss kss z h;simp only[stagesQ] at h;cases h;rfl
    | cons x r ih=>
      intro i yss kss z h;simp only[stagesQ] at h;cases hs:stageQ p.Tape (limQ p.Ap) T H Y (rv p.P) x.1 x.2 i kss with
      | inl f=>rw[hs] at h;cases h
      | inr w=>rw[hs] at h;rw[ih h];simp;omega
   have q4:=q3 hz;obtain⟨⟨g1,g2⟩,g3,g4,g5,g6⟩:=hr.2.1.2.1;have e:z.ys=w.1:=by unfold endQ at h;split at h;cases h;split at h;cases h;cases h;rfl
   rw[e];refine⟨λa ha=>⟨q1 a ha,q2 a ha⟩,?_⟩;rw[q4,List.length_zip,List.length_map,Q3];simp;omega
set_option maxRecDepth 100000
def tstageQ(t:Ql)(lim:Int)(T H:Rat)(U V P:List Rat)(y a:List Rat)(c:Rat)(i:Nat)(kss:List (List Rat)):Qc ⊕ List Rat:=
 match fitQ lim (fromQ H U a kss) 0 with
 | some j=>.inl ⟨6,0,(i:Int),300+(j:Int)⟩
 | none=>match pfieldQ t lim (T+H*c) y P 0 (fromQ H U a kss) V with
   | .inl e=>.inl ⟨e.1,0,(i:Int),(e.2.2:Int)⟩
   | .inr k=>.inr k.2
def tstagesQ(t:Ql)(lim:Int)(T H:Rat)(U V P:List Rat):List ((List Rat×Rat)×List Rat)->Nat->List (List Rat)->Qc ⊕ List (List Rat)
 | [],_,kss=>.inr kss
 | x::r,i,kss=>match tstageQ t lim T H U V P x.2 x.1.1 x.1.2 i kss with
   | .inl f=>.inl f
   | .inr k=>tstagesQ t lim T H U V P r (i+1) (kss++[k])
def tendQ(s:Qv)(lim:Int)(H:Rat)(U:List Rat)(kss:List (List Rat)):Qc ⊕ (List Rat×List Rat):=
 match fitQ lim (fromQ H U (rv s.B) kss) 0 with
 | some j=>.inl ⟨6,0,(s.B.length:Int),300+(j:Int)⟩
 | none=>match fitQ lim (if gapQ s=[] then [] else towQ H U.length (gapQ s) kss) 0 with
   | some j=>.inl ⟨6,0,(s.B.length:Int)+1,300+(j:Int)⟩
   | none=>.inr (fromQ H U (rv s.B) kss,if gapQ s=[] then [] else towQ H U.length (gapQ s) kss)
def tdoQ(t:Ql)(s:Qv)(lim:Int)(T H:Rat)(U V P:List Rat)(yss:List (List Rat)):Qc ⊕ (List Rat×List Rat):=
 match tstagesQ t lim T H U V P (List.zip (pairQ s) yss) 0 [] with
 | .inl f=>.inl f
 | .inr kss=>tendQ s lim H U kss
section
variable {n k:Nat}{p:Qf}{t h:Qa}{y u v:List Qa}{g:Qh}{md:Q4}{ks:List (List Qa)}
theorem Q1c{c:List Qa}{kss:List (List Rat)}(hn:big≤n)(h0:129≤k)(hk:k<16384)(hh:Fk k h)(hc:FR k c)(hkq:∀ a∈kss,QR 129 a)(hl:kss.length≤8)(hcl:c.length=kss.length)(hkl:∀ a∈kss,a.length=u.length)(hy:u.length≤6):
 V6 n p t h u v md (toRR kss) g c=some (toR (towQ (fv h) u.length (rv c) kss)):=by
 unfold V6;rw[Qon,Qub (j:=k) (k:=129) hn (by omega) (by omega) (by omega) (by omega) hc (Qop λa ha=>J6 (hkq a ha)) (by omega) (by rw[Vs];omega),sbind,if_pos ⟨by rw[Vs,hcl],Qop λa ha=>by rw[Q2];exact hkl a ha⟩];rw[Q55];have hm:=Qq2 (z:=List.replicate u.length 0) (QR_rv hc (by omega)) hkq (Que u.length);have h3:kss.length*(k+129+1)≤8*(k+129+1):=Nat.mul_le_mul_right _ hl;have hml:=Qgc (cs:=rv c) hkl (show(List.replicate u.length (0:Rat)).length=u.length by simp);rw[Xx (k:=20*k) hn (by omega) (by omega) (Vq hh (by omega)) (J6 (Q8 hm (by omega))) (by rw[Q2,hml];omega),sbind,Kw];rfl
theorem Qyk{c:List Qa}{kss:List (List Rat)}(hn:big≤n)(h0:129≤k)(hk:k<16384)(hh:Fk k h)(hyk:FR k u)(hc:FR k c)(hkq:∀ a∈kss,QR 129 a)(hl:kss.length≤8)(hcl:c.length=kss.length)(hkl:∀ a∈kss,a.length=u.length)(hy:u.length≤6):
 Yd n p t h u v md (toRR kss) g c=some (toR (fromQ (fv h) (rv u) (rv c) kss)):=by
 unfold Yd;have hb:=Qq5 (m:=u.length) (qw_fv hh (by omega)) (QR_rv hc (by omega)) hkq hl h0;have htl:=Ql6 (H:=fv h) (c:=rv c) hkl;rw[Q1c hn h0 hk hh hc hkq hl hcl hkl hy,sbind,Qaz (k:=20*k) hn (by omega) (by omega) (Js hyk (by omega)) (J6 hb) (by omega),sbind,Q2,htl,if_pos rfl,Kw];unfold fromQ;rw[Q3]
theorem Qr4{l:List Rat}{x2:Int}(hn:big≤n)(hl:QR 1099511627775 l)(hll:l.length≤1000):
 ∃ g',g'.limit=g.limit∧Wi n p t h u v md ks g (toR l) x2=some (match fitQ g.limit l 0 with | none=>(⟨0,0,0,0⟩,g') | some j=>(⟨6,0,x2,300+(j:Int)⟩,g')):=by
 obtain⟨g',h1,h2⟩:=Qoo (g:=g) hn hl;refine⟨g',h1,?_⟩;unfold Wi;rw[h2,sbind];cases hf:fitQ g.limit l 0 with
 | none=>rfl
 | some j=>
   have:=Qu4 hf;simp only[Bool.not_false,bifT];rw[w64 (by omega) (by omega)]
theorem Je7{k:Nat}:Fk k ⟨⟨false,[]⟩,[]⟩:=⟨(λ_ h=>by cases h),Nat.zero_le _,(λ_ h=>by cases h),Nat.zero_le _⟩
theorem Je8:fv ⟨⟨false,[]⟩,[]⟩=0:=by decide +kernel
theorem Q5g{i:Nat}{a:List Qa}{c:Qa}{yi:List Rat}{kss yss:List (List Rat)}{ks0:List (List Qa)}{nx er:List Qa}(hn:big≤n)(h0:129≤k)(hk:k<16384)(ok:PrbOK n k p t h y)(hu:FR k u)(hul:u.length=y.length)(hv:FR k v)(hvl:v.length=p.P.length)(hg:g.limit=limQ p.Ap)
 (ha:p.An.A[i]?=some a) (hc:p.An.C[i]?=some c) (hyi:yss[i]?=some yi) (hyq:QR 129 yi) (hyil:yi.length=y.length) (hkq:∀ a∈kss,QR 129 a) (hki:kss.length=i) (hkl:∀ a∈kss,a.length=y.length) :
 ∃ g',g'.limit=g.limit∧∃ r,Y8 n p t h u v ⟨toRR yss,ks0,nx,er⟩ (toRR kss) g (i:Int)=some r ∧
   match tstageQ p.Tape (limQ p.Ap) (fv t) (fv h) (rv u) (rv v) (rv p.P) yi (rv a) (fv c) i kss with
   | .inl f=>r.1=f∧f.Aq≠0
   | .inr z=>r=(⟨0,0,0,0⟩,p,t,h,u,v,⟨toRR yss,ks0,nx,er⟩,toRR (kss++[z]),g')∧QR 129 z∧z.length=y.length:=by
 obtain⟨⟨d1,d2⟩,⟨d3,d4⟩,d5,d6⟩:=ok.tp.r.1;obtain⟨⟨g1,g2⟩,g3,g4,g5,g6⟩:=ok.sr.2.1;have hi:=Kh ha;have hyl:=ok.yl;have hpl:=ok.pl;have hak:=ok.sw.a a (Jm ha);have hck:=ok.sw.c c (Jm hc);have hal:=g6 i a ha;have hkl':∀ a∈kss,a.length=u.length:=λa ha=>by rw[hul];exact hkl a ha
 have hb:=Qr2 (QR_rv hu (by omega)) (qw_fv ok.hk (by omega)) (QR_rv hak (by omega)) hkq (by omega) h0;have hfl:=Qex (H:=fv h) (Y:=rv u) (c:=rv a) (kss:=kss) (by rw[Q3];exact hkl');rw[Q3] at hfl;unfold Y8;rw[Ki ha,sbind,Qyk hn h0 hk ok.hk hu hak hkq (by omega) (by omega) hkl' (by omega),sbind];obtain⟨g',e1,e2⟩:=Qr4 (p:=p) (t:=t) (h:=h) (u:=u) (v:=v) (g:=g) (md:=⟨toRR yss,ks0,nx,er⟩) (ks:=toRR kss) (x2:=(i:Int)) hn (Q8 hb (show 22*k≤1099511627775 by omega)) (by omega);refine⟨g',e1,?_⟩;rw[e2,sbind,hg];unfold tstageQ;cases hf:fitQ (limQ p.Ap) (fromQ (fv h) (rv u) (rv a) kss) 0 with
 | some j=>
   simp only[];rw[Jw (by decide),Bool.not_false,bifT];exact⟨_,rfl,rfl,by decide⟩
 | none=>
   simp only[];rw[J2,Bool.not_true,bifF];have hmul:=X3 (qw_fv ok.hk (by omega)) (qw_fv hck (by omega));have hadd:=Yl (qw_fv ok.tk (by omega)) hmul;rw[Qp7 hn h0 hk ok.tk ok.hk hck hc,sbind,Ki (show(toRR yss)[i]?=some (toR yi) by unfold toRR;rw[List.getElem?_map,hyi];rfl),sbind];have hF:=Qyi (k:=22*k) (t:=p.Tape) (p:=⟨toF (fv t+fv h*fv c),toR yi,p.P⟩) (q:=⟨⟨⟨false,[]⟩,[]⟩,toR (fromQ (fv h) (rv u) (rv a) kss),v⟩) (bits:=p.Ap) hn (by omega) (by omega) ⟨ok.tp.r,ok.tp.h,λx hx=>Vq (ok.tp.w x hx) (by omega)⟩ (Q6 (by omega)) (J6 (Q8 hyq (by omega))) (Js ok.pk (by omega)) Je7 (J6 hb) (Js hv (by omega)) (by simp only[Q2];omega) ok.pl (by simp only[Q2];omega) hvl;rw[hF,sbind];simp only[];rw[Q1,Kw,Kw,Je8];have hlim:limQ p.Ap=min (max p.Ap 0) 4096:=rfl;rw[hlim];cases hq:pfieldQ p.Tape (min (max p.Ap 0) 4096) (fv t+fv h*fv c) yi (rv p.P) 0 (fromQ (fv h) (rv u) (rv a) kss) (rv v) with
   | inl e=>
     have hkd:=Quh hq;simp only[];rw[Jw (by omega),Bool.not_false,bifT];exact⟨_,rfl,rfl,by show e.1≠0;omega⟩
   | inr l=>
     obtain⟨q1,q2,q3,q4⟩:=Qyj (by omega) hq;simp only[];rw[J2,Bool.not_true,bifF,Km (by rw[Vs];simp;omega) (by rw[Vs];simp;omega),sbind];refine⟨_,rfl,?_,q4,by omega⟩;unfold toRR;rw[List.map_append];rfl
theorem Q9i{s:Qv}{yss:List (List Rat)}{i:Nat}{a:List Qa}{c:Qa}{yi:List Rat}(ha:s.A[i]?=some a)(hc:s.C[i]?=some c)(hy:yss[i]?=some yi):(List.zip (pairQ s) yss).drop i=((rv a,fv c),yi)::(List.zip (pairQ s) yss).drop (i+1):=by
 have h1:(List.zip (pairQ s) yss)[i]?=some ((rv a,fv c),yi):=by rw[List.getElem?_zip_eq_some];refine⟨?_,hy⟩;unfold pairQ rv;rw[List.getElem?_zip_eq_some];simp only[List.getElem?_map];exact⟨by rw[ha];rfl,by rw[hc];rfl⟩
 have hi:=Kh h1;rw[List.drop_eq_getElem_cons hi];congr 1;rw[List.getElem?_eq_getElem hi] at h1;exact Option.some.inj h1
abbrev TiS:=Qf×Qa×Qa×(List Qa)×(List Qa)×Q4×(List (List Qa))×Qh
abbrev TiR:=Ju×Qc×Qf×Qa×Qa×(List Qa)×(List Qa)×Q4×(List (List Qa))×Qh
def noMv:Ju:=⟨[],[],⟨[],[],[],[]⟩⟩
def tiBody(n:Nat)(i15:Nat)(_:Qa)(s14:TiS):Option (Lp TiS TiR):=
    (Y8 n s14.1 s14.2.1 s14.2.2.1 s14.2.2.2.1 s14.2.2.2.2.1 s14.2.2.2.2.2.1 s14.2.2.2.2.2.2.1 s14.2.2.2.2.2.2.2 (i15:Int)).bind λr18=>
    bif !(Qo r18.1 (⟨0,0,0,0⟩:Qc)) then (
     some (Lp.out (((⟨[],[],(⟨[],[],[],[]⟩:Q4)⟩:Ju),r18.1,r18.2.1,r18.2.2.1,r18.2.2.2.1,r18.2.2.2.2.1,r18.2.2.2.2.2.1,r18.2.2.2.2.2.2.1,r18.2.2.2.2.2.2.2.1,r18.2.2.2.2.2.2.2.2))))
    else (
     some (Lp.go (r18.2.1,r18.2.2.1,r18.2.2.2.1,r18.2.2.2.2.1,r18.2.2.2.2.2.1,r18.2.2.2.2.2.2.1,r18.2.2.2.2.2.2.2.1,r18.2.2.2.2.2.2.2.2)))
def tiFin(n:Nat)(x0_p:Qf)(s20:TiS)(g:Qh)(s31:Ju):Option TiR:=
 (Wi n s20.1 s20.2.1 s20.2.2.1 s20.2.2.2.1 s20.2.2.2.2.1 s20.2.2.2.2.2.1 s20.2.2.2.2.2.2.1 g s31.A1 (wrap64 ((x0_p.An.B.length:Int)+(1:Int)))).bind λr36=>
 bif !(Qo r36.1 (⟨0,0,0,0⟩:Qc)) then (
  some ((⟨[],[],(⟨[],[],[],[]⟩:Q4)⟩:Ju),r36.1,s20.1,s20.2.1,s20.2.2.1,s20.2.2.2.1,s20.2.2.2.2.1,s20.2.2.2.2.2.1,s20.2.2.2.2.2.2.1,r36.2))
 else (
  some (s31,(⟨0,0,0,0⟩:Qc),s20.1,s20.2.1,s20.2.2.1,s20.2.2.2.1,s20.2.2.2.2.1,s20.2.2.2.2.2.1,s20.2.2.2.2.2.2.1,r36.2))
def tiEnd(n:Nat)(x0_p:Qf)(x0_made:Q4)(s20:TiS):Option TiR:=
 (Yd n s20.1 s20.2.1 s20.2.2.1 s20.2.2.2.1 s20.2.2.2.2.1 s20.2.2.2.2.2.1 s20.2.2.2.2.2.2.1 s20.2.2.2.2.2.2.2 x0_p.An.B).bind λr21=>
 (Wi n s20.1 s20.2.1 s20.2.2.1 s20.2.2.2.1 s20.2.2.2.2.1 s20.2.2.2.2.2.1 s20.2.2.2.2.2.2.1 s20.2.2.2.2.2.2.2 r21 (x0_p.An.B.length:Int)).bind λr23=>
 bif !(Qo r23.1 (⟨0,0,0,0⟩:Qc)) then (
  some ((⟨[],[],(⟨[],[],[],[]⟩:Q4)⟩:Ju),r23.1,s20.1,s20.2.1,s20.2.2.1,s20.2.2.2.1,s20.2.2.2.2.1,s20.2.2.2.2.2.1,s20.2.2.2.2.2.2.1,r23.2))
 else (
  jn (λ(j29:(Ju)->Option _)=>
   (Qbl n x0_p.An).bind λr32=>
   bif decide ((0:Int)<(r32.length:Int)) then (
    (V6 n s20.1 s20.2.1 s20.2.2.1 s20.2.2.2.1 s20.2.2.2.2.1 s20.2.2.2.2.2.1 s20.2.2.2.2.2.2.1 r23.2 r32).bind λr34=>
    j29 ⟨r21,r34,x0_made⟩)
   else (
    j29 ⟨r21,[],x0_made⟩)) (tiFin n x0_p s20 r23.2))
theorem Q9j(ks):Qa8 n p t h u v md ks g=(rangeL (tiBody n) p.An.B 0 (p,t,h,u,v,md,ks,g)).bind (lpK (tiEnd n p md)):=Eq.symm (Eq.symm rfl)
theorem Q9k{yss:List (List Rat)}{ks0:List (List Qa)}{nx er:List Qa}(hn:big≤n)(h0:129≤k)(hk:k<8000)(ok:PrbOK n k p t h y)(hu:FR k u)(hul:u.length=y.length)(hv:FR k v)(hvl:v.length=p.P.length)(hg:g.limit=limQ p.Ap)
 (hys:∀ a∈yss,QR 129 a∧a.length=y.length) (hysl:yss.length=p.An.B.length) :
 ∃ r,Qa8 n p t h u v ⟨toRR yss,ks0,nx,er⟩ [] g=some r ∧
   match tdoQ p.Tape p.An (limQ p.Ap) (fv t) (fv h) (rv u) (rv v) (rv p.P) yss with
   | .inl f=>r.1=noMv∧r.2.1=f∧f.Aq≠0
   | .inr z=>r.1=⟨toR z.1,toR z.2,⟨toRR yss,ks0,nx,er⟩⟩∧r.2.1=⟨0,0,0,0⟩∧QR 129 z.1∧z.1.length=u.length:=by
 obtain⟨⟨d1,d2⟩,⟨d3,d4⟩,d5,d6⟩:=ok.tp.r.1;obtain⟨⟨g1,g2⟩,g3,g4,g5,g6⟩:=ok.sr.2.1;have hyl:=ok.yl;rw[Q9j]
 have key:∀(bs:List Qa) (i:Nat) (g:Qh) (kss:List (List Rat)) (K:TiS->Option TiR),
  i+bs.length=p.An.B.length->kss.length=i->(∀ a∈kss,QR 129 a)->(∀ a∈kss,a.length=y.length)->g.limit=limQ p.Ap →
  match tstagesQ p.Tape (limQ p.Ap) (fv t) (fv h) (rv u) (rv v) (rv p.P) ((List.zip (pairQ p.An) yss).drop i) i kss with
  | .inl f=>∃ r,(rangeL (tiBody n) bs i (p,t,h,u,v,⟨toRR yss,ks0,nx,er⟩,toRR kss,g)).bind (lpK K)=some r∧r.1=noMv∧r.2.1=f∧f.Aq≠0
  | .inr z=>∃ g',g'.limit=limQ p.Ap∧(rangeL (tiBody n) bs i (p,t,h,u,v,⟨toRR yss,ks0,nx,er⟩,toRR kss,g)).bind (lpK K)=K (p,t,h,u,v,⟨toRR yss,ks0,nx,er⟩,toRR z,g')∧z.length=p.An.B.length∧(∀ a∈z,QR 129 a)∧∀ a∈z,a.length=y.length:=by
  intro bs
  induction bs with
  | nil=>
    intro i g kss K hi hk1 hq hl hg;simp only[List.length_nil,Nat.add_zero] at hi;have he:(List.zip (pairQ p.An) yss).drop i=[]:=by apply List.drop_eq_nil_of_le;rw[List.length_zip];omega
    rw[he];simp only[tstagesQ];exact⟨g,hg,rfl,by omega,hq,hl⟩
  | cons b bs ih=>
    intro i g kss K hi hk1 hq hl hg;rw[List.length_cons] at hi;have ha:p.An.A[i]?=some (p.An.A[i]'(by omega)):=List.getElem?_eq_getElem (by omega);have hc:p.An.C[i]?=some (p.An.C[i]'(by omega)):=List.getElem?_eq_getElem (by omega);have hyi:yss[i]?=some (yss[i]'(by omega)):=List.getElem?_eq_getElem (by omega);have hym:=hys (yss[i]'(by omega)) (List.getElem_mem _);generalize p.An.A[i]'(by omega)=a at ha;generalize p.An.C[i]'(by omega)=c at hc;generalize yss[i]'(by omega)=yi at hyi hym;rw[Q9i ha hc hyi];simp only[tstagesQ,rangeL];obtain⟨g',e1,r,e2,e3⟩:=Q5g (g:=g) (ks0:=ks0) (nx:=nx) (er:=er) hn h0 (by omega) ok hu hul hv hvl hg ha hc hyi hym.1 hym.2 hq hk1 hl
    have eb:tiBody n i b (p,t,h,u,v,⟨toRR yss,ks0,nx,er⟩,toRR kss,g)=(bif !(Qo r.1 (⟨0,0,0,0⟩:Qc)) then (
     some (Lp.out ((noMv,r.1,r.2.1,r.2.2.1,r.2.2.2.1,r.2.2.2.2.1,r.2.2.2.2.2.1,r.2.2.2.2.2.2.1,r.2.2.2.2.2.2.2.1,r.2.2.2.2.2.2.2.2))))
     else (
      some (Lp.go (r.2.1,r.2.2.1,r.2.2.2.1,r.2.2.2.2.1,r.2.2.2.2.2.1,r.2.2.2.2.2.2.1,r.2.2.2.2.2.2.2.1,r.2.2.2.2.2.2.2.2)))):=by
     unfold tiBody;rw[e2,sbind];rfl
    rw[eb];cases hs:tstageQ p.Tape (limQ p.Ap) (fv t) (fv h) (rv u) (rv v) (rv p.P) yi (rv a) (fv c) i kss with
    | inl f=>
      rw[hs] at e3;obtain⟨e4,e5⟩:=e3;obtain⟨⟨f1,f2,f3,f4⟩,r⟩:=r;simp only[] at e4;subst e4;simp only[];rw[Jw e5,Bool.not_false,bifT,sbind];exact⟨_,rfl,rfl,rfl,e5⟩
    | inr z=>
      rw[hs] at e3;obtain⟨e4,e5,e6⟩:=e3;subst e4;simp only[];rw[J2,Bool.not_true,bifF,sbind]
      exact ih (i+1) g' (kss++[z]) K (by omega) (by simp;omega) (λa ha=>by
       rcases List.mem_append.1 ha with ha | ha;exact hq a ha;rw[List.mem_singleton.1 ha];exact e5) (λa ha=>by
       rcases List.mem_append.1 ha with ha | ha;exact hl a ha
       rw[List.mem_singleton.1 ha];exact e6) (by omega)
 have h1:=key p.An.B 0 g [] (tiEnd n p ⟨toRR yss,ks0,nx,er⟩) (by omega) rfl (λ_ h=>by cases h) (λ_ h=>by cases h) hg;unfold tdoQ;rw[List.drop_zero] at h1;cases hs:tstagesQ p.Tape (limQ p.Ap) (fv t) (fv h) (rv u) (rv v) (rv p.P) (List.zip (pairQ p.An) yss) 0 [] with
 | inl f=>
   rw[hs] at h1;exact h1
 | inr kss=>
   rw[hs] at h1;obtain⟨g',q1,q2,q4,q5,q6⟩:=h1;simp only[];rw[show([]:List (List Qa))=toRR [] from rfl,q2];unfold tiEnd;simp only[];have q6':∀ a∈kss,a.length=u.length:=λa ha=>by rw[hul];exact q6 a ha
   have hbB:=Qr2 (QR_rv hu (by omega)) (qw_fv ok.hk (by omega)) (QR_rv ok.sw.b (by omega)) q5 (by omega) h0;have hlB:=Qex (H:=fv h) (Y:=rv u) (c:=rv p.An.B) (kss:=kss) (by rw[Q3];exact q6');rw[Q3] at hlB;have hgq:=Q9f (k:=k) (s:=p.An) (by omega) ok.sw;rw[Qyk hn h0 (by omega) ok.hk hu ok.sw.b q5 (by omega) (by omega) q6' (by omega),sbind];obtain⟨g2',e1,e2⟩:=Qr4 (p:=p) (t:=t) (h:=h) (u:=u) (v:=v) (g:=g') (md:=⟨toRR yss,ks0,nx,er⟩) (ks:=toRR kss) (x2:=(p.An.B.length:Int)) hn (Q8 hbB (show 22*k≤1099511627775 by omega)) (by omega);rw[e2,sbind,q1];unfold tendQ;cases hf:fitQ (limQ p.Ap) (fromQ (fv h) (rv u) (rv p.An.B) kss) 0 with
   | some j=>
     simp only[];rw[Jw (by decide),Bool.not_false,bifT];exact⟨_,rfl,rfl,rfl,by decide⟩
   | none=>
     simp only[];rw[J2,Bool.not_true,bifF,jn_eq,Qpn hn (by omega) (by omega) ok.sw ok.sr,sbind,Q2];have hE:((V6 n p t h u v ⟨toRR yss,ks0,nx,er⟩ (toRR kss) g2' (toR (gapQ p.An)))=some (toR (towQ (fv h) u.length (gapQ p.An) kss))∨gapQ p.An=[])∧QR (41*k+1000) (if gapQ p.An=[] then [] else towQ (fv h) u.length (gapQ p.An) kss)∧(if gapQ p.An=[] then [] else towQ (fv h) u.length (gapQ p.An) kss).length≤1000:=by
      by_cases he:gapQ p.An=[]
      rw[if_pos he];exact⟨.inr he,λ_ h=>(by cases h),by simp⟩;have hEl:p.An.E.length=p.An.B.length:=by rcases g5 with g5 | g5;exact g5;exact absurd (by unfold gapQ;rw[if_pos (List.eq_nil_of_length_eq_zero g5)]) he
      have hgl:(gapQ p.An).length=p.An.B.length:=by unfold gapQ;rw[if_neg (λh=>by rw[h] at hEl;simp at hEl;omega),Qeu,Zo,Q3,Q3];omega
      rw[if_neg he];have ht:=Q1c (k:=2*k+2) (p:=p) (t:=t) (h:=h) (u:=u) (v:=v) (g:=g2') (md:=⟨toRR yss,ks0,nx,er⟩) (c:=toR (gapQ p.An)) (kss:=kss) hn (by omega) (by omega) (Vq ok.hk (by omega)) (J6 hgq) q5 (by omega) (by rw[Q2];omega) q6' (by omega);rw[Kw] at ht;refine⟨.inl ht,Q8 (Qq5 (k:=2*k+2) (Nat.le_trans (qw_fv ok.hk (by omega)) (by omega)) hgq q5 (by omega) (by omega)) (by omega),?_⟩;rw[Ql6 q6'];omega
     obtain⟨hE1,hE2,hE3⟩:=hE;have hj:∀ {β:Type}(f:Ju->Option β),(bif decide ((0:Int)<((gapQ p.An).length:Int)) then (V6 n p t h u v ⟨toRR yss,ks0,nx,er⟩ (toRR kss) g2' (toR (gapQ p.An))).bind λr34=>f ⟨toR (fromQ (fv h) (rv u) (rv p.An.B) kss),r34,⟨toRR yss,ks0,nx,er⟩⟩ else f ⟨toR (fromQ (fv h) (rv u) (rv p.An.B) kss),[],⟨toRR yss,ks0,nx,er⟩⟩)=f ⟨toR (fromQ (fv h) (rv u) (rv p.An.B) kss),toR (if gapQ p.An=[] then [] else towQ (fv h) u.length (gapQ p.An) kss),⟨toRR yss,ks0,nx,er⟩⟩:=by
      intro β f;by_cases he:gapQ p.An=[]
      rw[if_pos he,he];rfl;have:(gapQ p.An).length≠0:=λh=>he (List.eq_nil_of_length_eq_zero h);rw[if_neg he,decide_eq_true (by omega),bifT,hE1.resolve_right he,sbind]
     rw[hj (tiFin n p (p,t,h,u,v,⟨toRR yss,ks0,nx,er⟩,toRR kss,g') g2')];unfold tiFin;rw[w1 (by omega),Q3];generalize (if gapQ p.An=[] then [] else towQ (fv h) u.length (gapQ p.An) kss)=er' at hE2 hE3 ⊢;simp only[];obtain⟨g3',e3,e4⟩:=Qr4 (p:=p) (t:=t) (h:=h) (u:=u) (v:=v) (g:=g2') (md:=⟨toRR yss,ks0,nx,er⟩) (ks:=toRR kss) (x2:=((p.An.B.length+1:Nat):Int)) hn (Q8 hE2 (show 41*k+1000≤1099511627775 by omega)) hE3;rw[e4,sbind,show g2'.limit=limQ p.Ap by omega];cases hf2:fitQ (limQ p.Ap) er' 0 with
     | some j=>
       simp only[];rw[Jw (by decide),Bool.not_false,bifT];exact⟨_,rfl,rfl,rfl,by show(6:Int)≠0;decide⟩
     | none=>
       simp only[];rw[J2,Bool.not_true,bifF];exact⟨_,rfl,rfl,rfl,Qj3 (by unfold limQ;omega) hf,hlB⟩
end
noncomputable def tiltQ(p:Qf)(T H:Rat)(Y U V:List Rat):Qc ⊕ (MadeQ×List Rat×List Rat):=
 match stepQ p T H Y with
 | .inl f=>if f.Aq=2∨U.length≠Y.length∨V.length≠p.P.length then .inl ⟨2,0,0,0⟩ else .inl f
 | .inr z=>if U.length≠Y.length∨V.length≠p.P.length then .inl ⟨2,0,0,0⟩ else match tdoQ p.Tape p.An (limQ p.Ap) T H U V (rv p.P) z.ys with
   | .inl f=>.inl f
   | .inr w=>.inr (z,w.1,w.2)
theorem Qe8{n k:Nat}{p:Qf}{t h:Qa}{y u v:List Qa}(hn:big≤n)(h0:129≤k)(hk:k<8000)(hw:PrbW k p)(ht:Fk k t)(hh:Fk k h)(hy:FR k y)(hu:FR k u)(hv:FR k v):
 Wt n p t h y u v=some (match tiltQ p (fv t) (fv h) (rv y) (rv u) (rv v) with | .inl f=>(noMv,f) | .inr z=>(⟨toR z.2.1,toR z.2.2,toM z.1⟩,⟨0,0,0,0⟩))∧(∀ f,tiltQ p (fv t) (fv h) (rv y) (rv u) (rv v)=.inl f->f.Aq≠0)∧∀ z,tiltQ p (fv t) (fv h) (rv y) (rv u) (rv v)=.inr z->stepQ p (fv t) (fv h) (rv y)=.inr z.1∧QR 129 z.2.1∧z.2.1.length=y.length∧u.length=y.length∧v.length=p.P.length:=by
 obtain⟨d1,d2⟩:=Qla hn h0 hk hw ht hh hy;unfold Wt tiltQ;simp only[jn_eq];rw[d1,sbind];cases hs:stepQ p (fv t) (fv h) (rv y) with
 | inl f=>
   have hf:=d2 f hs;obtain⟨f1,f2,f3,f4⟩:=f;simp only[];rw[Q3,Q3,Q3,bifd];by_cases c1:f1=2
   . rw[if_pos c1,if_pos (Or.inl c1)]
     exact⟨rfl,(λf h=>by cases h;show(2:Int)≠0;decide),λz h=>by cases h⟩
   rw[if_neg c1];by_cases c2:u.length=y.length
   case neg=>
    rw[decide_eq_false (show ¬(u.length:Int)=(y.length:Int) by omega),if_pos (.inr (.inl c2))];exact⟨rfl,(λf h=>by cases h;show(2:Int)≠0;decide),λz h=>by cases h⟩
   rw[decide_eq_true (show(u.length:Int)=(y.length:Int) by omega),Bool.not_true,bifF];by_cases c3:v.length=p.P.length
   case neg=>
    rw[decide_eq_false (show ¬(v.length:Int)=(p.P.length:Int) by omega),if_pos (.inr (.inr c3))];exact⟨rfl,(λf h=>by cases h;show(2:Int)≠0;decide),λz h=>by cases h⟩
   rw[decide_eq_true (show(v.length:Int)=(p.P.length:Int) by omega),Bool.not_true,bifF,Jw hf,Bool.not_false,bifT,if_neg (by rintro(g | g | g)<;>contradiction)];exact⟨rfl,(λf h=>by cases h;exact hf),λz h=>by cases h⟩
 | inr z=>
   obtain⟨r1,r2,r3,r4,r5⟩:=Qa0 hs;obtain⟨r6,r7⟩:=Qwu hs;rw[Q3] at r2;simp only[];rw[Q3,Q3,Q3,show decide ((0:Int)=2)=false from rfl,bifF];by_cases c2:u.length=y.length
   case neg=>
    rw[decide_eq_false (show ¬(u.length:Int)=(y.length:Int) by omega),if_pos (.inl c2)];exact⟨rfl,(λf h=>by cases h;show(2:Int)≠0;decide),λz h=>by cases h⟩
   rw[decide_eq_true (show(u.length:Int)=(y.length:Int) by omega),Bool.not_true,bifF];by_cases c3:v.length=p.P.length
   case neg=>
    rw[decide_eq_false (show ¬(v.length:Int)=(p.P.length:Int) by omega),if_pos (.inr c3)];exact⟨rfl,(λf h=>by cases h;show(2:Int)≠0;decide),λz h=>by cases h⟩
   rw[decide_eq_true (show(v.length:Int)=(p.P.length:Int) by omega),Bool.not_true,bifF,J2,Bool.not_true,bifF,if_neg (by rintro(g | g)<;>contradiction)];unfold Wf;rw[sbind];have ok:=hw.ok hn hk r1 ht hh hy r2;obtain⟨r,e1,e2⟩:=Q9k (g:=⟨⟨0,0⟩,min (max p.Ap 0) 4096⟩) (yss:=z.ys) (ks0:=toRR z.ks) (nx:=toR z.next) (er:=toR z.err) hn h0 hk ok hu c2 hv c3 rfl (λa ha=>by have:=r6 a ha;rwa [Q3] at this) r7;rw[show toM z=⟨toRR z.ys,toRR z.ks,toR z.next,toR z.err⟩ from rfl,e1,sbind];cases hd:tdoQ p.Tape p.An (limQ p.Ap) (fv t) (fv h) (rv u) (rv v) (rv p.P) z.ys with
   | inl f=>
     rw[hd] at e2;obtain⟨e3,e4,e5⟩:=e2;refine⟨by simp only[];rw[e3,e4],(λf h=>by cases h;exact e5),λz h=>by cases h⟩
   | inr w=>
     rw[hd] at e2;obtain⟨e3,e4,e5,e6⟩:=e2;refine⟨by simp only[];rw[e3,e4];rfl,(λf h=>by cases h),λz h=>by cases h;exact⟨rfl,e5,e6.trans c2,c2,c3⟩⟩
set_option maxRecDepth 100000
def linQ(c:Rat)(a b:List Rat):List Rat:=List.zipWith (λx y=>c*x+y) a b
theorem Qq9{c:Rat}{a b:List Rat}(h:b.length=a.length):(linQ c a b).length=a.length:=by unfold linQ;rw[List.length_zipWith,h,Nat.min_self]
theorem Qc4{c:Rat}{a b:List Rat}{i:Nat}(h:b.length=a.length):(linQ c a b).getD i 0=c*a.getD i 0+b.getD i 0:=by unfold linQ;rw[List.getD_eq_getElem?_getD,List.getD_eq_getElem?_getD,List.getD_eq_getElem?_getD,List.getElem?_zipWith];by_cases hi:i<a.length;rw[List.getElem?_eq_getElem hi,List.getElem?_eq_getElem (show i<b.length by omega)];rfl;rw[List.getElem?_eq_none (show a.length≤i by omega),List.getElem?_eq_none (show b.length≤i by omega)];show(0:Rat)=c*0+0;grind
theorem Qui{c:Rat}:∀ m:Nat,List.replicate m (0:Rat)=linQ c (List.replicate m 0) (List.replicate m 0)
 | 0=>rfl
 | m+1=>by have:=Qui (c:=c) m;unfold linQ at this ⊢;rw[List.replicate_succ,List.zipWith_cons_cons,←this];congr 1;grind
theorem Quj{s:Qv}{lim:Int}{H:Rat}{U:List Rat}{kss:List (List Rat)}{w}(h:tendQ s lim H U kss=.inr w):w.1=fromQ H U (rv s.B) kss:=by unfold tendQ at h;split at h;cases h;split at h;cases h;cases h;rfl
theorem Qnx{p:Qf}{T H:Rat}{Y U V:List Rat}{z}(h:tiltQ p T H Y U V=.inr z):stepQ p T H Y=.inr z.1∧U.length=Y.length∧V.length=p.P.length∧tdoQ p.Tape p.An (limQ p.Ap) T H U V (rv p.P) z.1.ys=.inr z.2:=by
 unfold tiltQ at h;cases hs:stepQ p T H Y with
 | inl f=>
   rw[hs] at h;simp only[] at h;split at h<;>cases h
 | inr w=>
   rw[hs] at h;simp only[] at h;split at h;cases h;rename_i hc;cases hd:tdoQ p.Tape p.An (limQ p.Ap) T H U V (rv p.P) w.ys with
   | inl f=>rw[hd] at h;cases h
   | inr x=>
     rw[hd] at h;cases h;refine⟨rfl,?_,?_,hd⟩;exact Decidable.not_not.1 λg=>hc (.inl g);exact Decidable.not_not.1 λg=>hc (.inr g)
set_option maxRecDepth 100000
theorem Fk_tF{k:Nat}{x:Qe}(hB:J8 x)(h:x.N.length≤k∧x.D.length≤k):Fk k (tF x):=⟨hB.2.1.2,h.1,hB.2.2.1.2,h.2⟩
theorem FR_tF{many k:Nat}{l:List Qe}(hB:Jf l)(h:FL many k l):FR k (l.map tF):=λx hx=>by obtain⟨y,hy,rfl⟩:=List.mem_map.1 hx;exact Fk_tF (hB.2 y hy) (h.2 y hy)
theorem Qra{a b k:Nat}{p:Qz}{bits:Int}(hB:Vr p)(hk:k≤129)
 (h:(p.Tape.Code.length≤a∧p.Tape.Ar.length≤a∧∀ c∈p.Tape.Code,c.N.N.length≤k∧c.N.D.length≤k)∧(p.An.Name.length≤50∧p.An.A.length≤b∧FL b 4 p.An.B∧FL b 4 p.An.C∧FL b 4 p.An.E∧∀ r∈p.An.A,FL b 4 r)∧FL 6 k p.P) :
 PrbW 129 ⟨tT p.Tape,tS p.An,p.P.map tF,bits⟩:=by
 obtain⟨bt,bs,bp,_⟩:=hB;obtain⟨⟨t1,t2,t3⟩,⟨s1,s2,s3,s4,s5,s6⟩,p1⟩:=h;refine⟨λc hc=>?_,bt.2.2.1,⟨λr hr=>?_,Js (FR_tF bs.2.2.2.1 s3) (by omega),Js (FR_tF bs.2.1 s4) (by omega),Js (FR_tF bs.2.2.2.2.1 s5) (by omega),by show p.An.Name.length≤_;omega⟩,Js (FR_tF bp p1) hk⟩;obtain⟨d,hd,rfl⟩:=List.mem_map.1 hc;exact Vq (Fk_tF (bt.1.2 d hd).2.2.2.1 (t3 d hd)) hk;obtain⟨d,hd,rfl⟩:=List.mem_map.1 hr;exact Js (FR_tF (bs.2.2.1.2 d hd) (s6 d hd)) (by omega)
theorem PrbW.mono{j k:Nat}{p:Qf}(h:PrbW j p)(hk:j≤k):PrbW k p:=
 ⟨λc hc=>Vq (h.t c hc) hk,h.d,⟨λr hr=>Js (h.s.a r hr) hk,Js h.s.b hk,Js h.s.c hk,Js h.s.e hk,h.s.n⟩,Js h.p hk⟩
set_option maxRecDepth 100000
theorem Qlb{n:Nat}{b:Kb}(hn:big≤n):∃ v,Xc n b=some v∧(v=false->FL 6 2 b.U∧FL 6 2 b.V):=by
 unfold Xc;simp only[jn_eq];obtain⟨v,e1,e2⟩:=K6 (l:=b.U) (many:=6) (k:=2) hn (by decide);obtain⟨w,e3,e4⟩:=K6 (l:=b.V) (many:=6) (k:=2) hn (by decide);rw[show((6:Nat):Int)=6 from rfl,show((2:Nat):Int)=2 from rfl] at e1 e3;rw[e1,sbind];cases v
 case true=>exact⟨true,rfl,λh=>by cases h⟩
 rw[bifF,e3,sbind];cases w
 case true=>exact⟨true,rfl,λh=>by cases h⟩
 exact⟨false,rfl,λ_=>⟨e2 rfl,e4 rfl⟩⟩
theorem Qj4{α:Type}{l:List α}{i:Nat}{x:α}(h:l[i]?=some x):l.take (i+1)=l.take i++[x]:=by rw[List.take_add_one,h];rfl
def fresh(out:List Qbe)(i:Nat)(s:List UInt8):Prop:=∀ w,out.getLast?=some w->w.At+w.Text.length≤i∧∀ c r,s=c::r->w.At+w.Text.length=(i:Int)->goC w.Aq c.toNat=false
def FKs(k:Nat)(l:List Qe):Prop:=∀ f∈l,Fk k (tF f)
structure SchWr(k:Nat)(s:Jn):Prop where
 a:∀ r∈s.A,FKs k r
 al:∀ r∈s.A,r.length≤1000000
 b:FKs k s.B
 bl:s.B.length≤1000000
 c:FKs k s.C
 cl:s.C.length≤1000000
 e:FKs k s.E
 el:s.E.length≤1000000
 nl:s.Name.length≤1000000
structure PrbWr(k:Nat)(p:Qz):Prop where
 t:∀ x∈p.Tape.Code,Fk k (tF x.N)
 o:p.Tape.Ar.length≤1000000
 s:SchWr k p.An
 pk:FKs k p.P
 pl:p.P.length≤1000000
set_option maxRecDepth 100000
theorem Q7h{t:Ql}{lim:Int}{T H:Rat}{Y P a:List Rat}{c:Rat}{i:Nat}{kss:List (List Rat)}{f}(h:stageQ t lim T H Y P a c i kss=.inl f):f.Aq≠0:=by
 unfold stageQ at h;split at h;cases h;show(6:Int)≠0;decide;cases hf:fieldQ t lim (T+H*c) (fromQ H Y a kss) P with
 | inl e=>rw[hf] at h;cases h;have:=Qv3 hf;show e.1≠0;omega
 | inr k=>rw[hf] at h;cases h
theorem Qv5{t:Ql}{lim:Int}{T H:Rat}{Y P:List Rat}:∀ {r:List (List Rat×Rat)}{i:Nat}{yss kss:List (List Rat)}{f},stagesQ t lim T H Y P r i yss kss=.inl f->f.Aq≠0
 | [],i,yss,kss,f,h=>by simp only[stagesQ] at h;cases h
 | x::r,i,yss,kss,f,h=>by
   simp only[stagesQ] at h;cases hs:stageQ t lim T H Y P x.1 x.2 i kss with
   | inl g=>rw[hs] at h;cases h;exact Q7h hs
   | inr w=>rw[hs] at h;exact Qv5 h
theorem Ja6{t:Ql}{s:Qv}{lim:Int}{T H:Rat}{Y P:List Rat}{f}(h:doQ t s lim T H Y P=.inl f):f.Aq≠0:=by
 unfold doQ at h;cases hst:stagesQ t lim T H Y P (List.zip (s.A.map rv) (rv s.C)) 0 [] [] with
 | inl g=>rw[hst] at h;cases h;exact Qv5 hst
 | inr z=>
   rw[hst] at h;simp only[] at h;unfold endQ at h;split at h;cases h;show(6:Int)≠0;decide;split at h;cases h;show(6:Int)≠0;decide;cases h
theorem PrbWr.mono{j k:Nat}{p:Qz}(h:PrbWr j p)(hk:j≤k):PrbWr k p:=
 ⟨λx hx=>Vq (h.t x hx) hk,h.o,⟨λr hr f hf=>Vq (h.s.a r hr f hf) hk,h.s.al,λf hf=>Vq (h.s.b f hf) hk,h.s.bl,λf hf=>Vq (h.s.c f hf) hk,h.s.cl,λf hf=>Vq (h.s.e f hf) hk,h.s.el,h.s.nl⟩,λf hf=>Vq (h.pk f hf) hk,h.pl⟩
set_option maxRecDepth 100000
def okT(l:List Qy):List Qy:=l.filter (·.Ok)
def nT(t:Qy):Qy:=⟨toF (fv t.T),toF (fv t.Av),toF (fv t.H),toF (fv t.A1),toR (rv t.Y),true⟩
def FT(k:Nat)(t:Qy):Prop:=FR k [t.T,t.Av,t.H,t.A1]∧FR k t.Y∧t.Y.length≤1000000
theorem Qjs{n k:Nat}{l:List Qa}(hn:big≤n)(h1:1≤k)(hk:k<1099511627776)(h:FR k l)(hl:l.length≤1000000):Qbx n l=some (toR (rv l)):=by unfold Qbx;rw[Qb2 hn,sbind,Xx (k:=k) hn h1 hk (Q6 (by rw[Qq7];exact h1)) h hl,sbind,Q1,Qq6]
theorem Qlc(l:List Qy):(okT l).length≤l.length:=List.length_filter_le _ _
theorem Qh3{n k:Nat}{h:Qs}(hn:big≤n)(h1:1≤k)(hk:k<1099511627776)(hl:h.Ao.length≤1000000)(ht:∀ t∈h.Ao,FT k t):Qaq n h=some ((okT h.Ao).map nT):=by unfold Qaq;rw[X2 (λi=>(okT (h.Ao.take i)).map nT) h.Ao];rw[List.take_length];rfl;intro i x hx;obtain⟨g1,g2,g3⟩:=ht x (Jm hx);have hi:=Kh hx;have hle:=Qlc (h.Ao.take i);rw[List.length_take] at hle;rw[Qj4 hx];have ea:okT (h.Ao.take i++[x])=okT (h.Ao.take i)++okT [x]:=List.filter_append _ _;rw[ea,List.map_append];cases ho:x.Ok;rw[bifF,show okT [x]=[] from by unfold okT;simp[ho],List.map_nil,List.append_nil];rw[bifT,show okT [x]=[x] from by unfold okT;simp[ho]];unfold Zl;rw[sbind,Qjs hn h1 hk g1 (by simp),sbind,show getI (toR (rv [x.T,x.Av,x.H,x.A1])) 0=some (toF (fv x.T)) from rfl,sbind,show getI (toR (rv [x.T,x.Av,x.H,x.A1])) 1=some (toF (fv x.Av)) from rfl,sbind,show getI (toR (rv [x.T,x.Av,x.H,x.A1])) 2=some (toF (fv x.H)) from rfl,sbind,show getI (toR (rv [x.T,x.Av,x.H,x.A1])) 3=some (toF (fv x.A1)) from rfl,sbind,Qjs hn h1 hk g2 g3,sbind,Km (by simp;omega) (by simp;omega),sbind];rfl;rfl
set_option maxRecDepth 100000
def RulW(k:Nat)(r:Qtc):Prop:=FR k [r.Tol,r.Safe,r.Low,r.High,r.Least]
theorem RulW.all{k:Nat}{r:Qtc}(h:RulW k r):Fk k r.Tol∧Fk k r.Safe∧Fk k r.Low∧Fk k r.High∧Fk k r.Least:=
 ⟨h _ (by simp),h _ (by simp),h _ (by simp),h _ (by simp),h _ (by simp)⟩
set_option maxRecDepth 100000
theorem sg_lt{a b:Rat}:(a - b).num.sign<0↔a<b:=by rw[Int.sign_neg_iff,←Int.not_le,Rat.num_nonneg,←Rat.le_iff_sub_nonneg,Rat.not_le]
theorem sg_gt{a b:Rat}:0<(a - b).num.sign↔b<a:=by
 have e:(a - b).num=-(b - a).num:=by rw[←Quy,Rat.neg_sub]
 rw[Int.sign_pos_iff,e,←sg_lt,Int.sign_neg_iff];omega
theorem sg_le{a b:Rat}:(a - b).num.sign≤0↔a≤b:=by rw[←Int.not_lt,sg_gt,Rat.not_lt]
theorem sg_ge{a b:Rat}:0≤(a - b).num.sign↔b≤a:=by rw[←Int.not_lt,sg_lt,Rat.not_lt]
theorem Qyl{a:Rat}:0<a.num.sign↔0<a:=by have:=@sg_gt a 0;rwa [show a - 0=a by grind] at this
theorem Q1d{a:Rat}:0≤a.num.sign↔0≤a:=by have:=@sg_ge a 0;rwa [show a - 0=a by grind] at this
set_option maxRecDepth 100000
theorem Qym{p:Qf}{T H:Rat}{Y:List Rat}{f}(h:stepQ p T H Y=.inl f):f.Aq≠0:=by unfold stepQ at h;split at h;exact Ja6 h;cases h;show(2:Int)≠0;decide
set_option maxRecDepth 100000
def canF(x:Qa):Prop:=x=toF (fv x)
theorem Qoq{n k:Nat}{l:List (List Qa)}(hn:big≤n)(hk:k<1099511627776)(h:∀ r∈l,FR k r):Qbw n l=some (dP (∀ r∈l,∀ x∈r,canF x)):=by
 classical
 unfold Qbw;rw[Yx (λ_ (r:List Qa)=>∀ x∈r,canF x) (r:=false),Qev];by_cases g:∀ r∈l,∀ x∈r,canF x;rw[if_pos g,dP_t g];rw[if_neg g,dP_f g];intro i r hr;have hrk:=h r (Jm hr)
 have key:((rangeL (λ(_:Nat) (x33:Qa) (_:Unit)=>
  (Xq n x33).bind λr35=>
  bif !r35 then (
   some (Lp.out (Lp.out (false))))
  else (
   some (Lp.go ()))) r 0 ()).bind (lpK λ(_:Unit)=>
 some (Lp.go ())))=if (∀(i:Nat) x,r[i]?=some x->canF x) then (some (Lp.go ()):Option (Lp Unit Bool)) else some (Lp.out false):=by refine Yx (λ_ (x:Qa)=>canF x) r (λi x hx=>?_);rw[Qk9 hn (Fk_Fw (hrk x (Jm hx)) (by omega)),sbind];exact⟨λhc=>by rw[decide_eq_true (show x=toF (fv x) from hc)];rfl,λhc=>by rw[decide_eq_false (show ¬ x=toF (fv x) from hc)];rfl⟩
 rw[Qev] at key;exact⟨λg=>by rw[key,if_pos g],λg=>by rw[key,if_neg g]⟩
def nextT(h:Qs)(i:Nat):Qa:=match h.Ao[i+1]? with | some u=>u.T | none=>h.T
def nextY(h:Qs)(i:Nat):List Qa:=match h.Ao[i+1]? with | some u=>u.Y | none=>h.Y
structure Qld(h:Qs):Prop where
 c:(∀ t∈h.Ao,∀ r∈[[t.T,t.Av,t.H,t.A1],t.Y],∀ x∈r,canF x)∧∀ r∈[[h.T],h.Y],∀ x∈r,canF x
 l:(∀ t∈h.Ao,t.Y.length=h.Y.length)∧1≤h.Y.length∧h.Y.length≤6
 m:h.Ao.length≤200
 s:∀ t∈h.Ao,0<fv t.Av∧0<fv t.H∧fv t.H≤fv t.Av∧0≤fv t.A1
 n:∀(i:Nat) t,h.Ao[i]?=some t->(t.Ok=true->fv (nextT h i)=fv t.T+fv t.H)∧(t.Ok=false->fv (nextT h i)=fv t.T∧rv (nextY h i)=rv t.Y)
theorem Qle{n k:Nat}{h:Qs}(hn:big≤n)(h1:1≤k)(hk:k<100000000)(hl:h.Ao.length≤1000000)(ht:∀ t∈h.Ao,FT k t)(hT:Fk k h.T)(hY:FR k h.Y)(hYl:h.Y.length≤1000000):
 Qfj n h=some (dP (Qld h)):=by
 classical
 have pk:∀ t∈h.Ao,Fk k t.T∧Fk k t.Av∧Fk k t.H∧Fk k t.A1:=λt hm=>by have g:=(ht t hm).1;exact⟨g _ (by simp),g _ (by simp),g _ (by simp),g _ (by simp)⟩
 unfold Qfj Qkm;have eP:Qhm n h=some (dP ((∀ t∈h.Ao,∀ r∈[[t.T,t.Av,t.H,t.A1],t.Y],∀ x∈r,canF x)∧∀ r∈[[h.T],h.Y],∀ x∈r,canF x)):=by
  unfold Qhm
  rw[Yx (λ_ (t:Qy)=>∀ r∈[[t.T,t.Av,t.H,t.A1],t.Y],∀ x∈r,canF x) (r:=false),Qev,Qoq (k:=k) hn (by omega) (λr hr=>by
   rcases List.mem_cons.1 hr with rfl | hr
   . intro x hx;rw[List.mem_singleton.1 hx];exact hT
   . rw[List.mem_singleton.1 hr];exact hY),sbind]
  . by_cases g:∀ t∈h.Ao,∀ r∈[[t.T,t.Av,t.H,t.A1],t.Y],∀ x∈r,canF x
    . rw[if_pos g];exact Qz6 ⟨λa=>⟨g,a⟩,λa=>a.2⟩
    . rw[if_neg g,dP_f λa=>g a.1]
  . intro i t hi
    have hm:=Jm hi
    have e:Qbw n [[t.T,t.Av,t.H,t.A1],t.Y]=some (dP (∀ r∈[[t.T,t.Av,t.H,t.A1],t.Y],∀ x∈r,canF x)):=Qoq (k:=k) hn (by omega) (λr hr=>by
     rcases List.mem_cons.1 hr with rfl | hr
     . exact(ht t hm).1
     . rw[List.mem_singleton.1 hr];exact(ht t hm).2.1)
    unfold Zl;rw[sbind,e,sbind];exact⟨λg=>by rw[dP_t g];rfl,λg=>by rw[dP_f g];rfl⟩
 have eL:Qfi h=some (dP ((∀ t∈h.Ao,t.Y.length=h.Y.length)∧1≤h.Y.length∧h.Y.length≤6)):=by
  unfold Qfi;simp only[jn_eq];rw[Yx (λ_ (t:Qy)=>t.Y.length=h.Y.length) (r:=false),Qev]
  . by_cases g:∀ t∈h.Ao,t.Y.length=h.Y.length
    . rw[if_pos g]
      by_cases g1:(1:Int)≤(h.Y.length:Int)
      . rw[decide_eq_true g1,bifT];exact Qb5 ⟨λa=>⟨g,by omega,by omega⟩,λa=>by have:=a.2.2;omega⟩
      . rw[decide_eq_false g1,bifF,dP_f λa=>g1 (by have:=a.2.1;omega)]
    . rw[if_neg g,dP_f λa=>g a.1]
  . intro i t hi
    exact⟨λg=>by rw[decide_eq_true (by omega)];rfl,λg=>by rw[decide_eq_false (by omega)];rfl⟩
 have eS:Qhn n h=some (dP (∀ t∈h.Ao,0<fv t.Av∧0<fv t.H∧fv t.H≤fv t.Av∧0≤fv t.A1)):=by
  unfold Qhn;simp only[jn_eq];rw[Yx (λ_ (t:Qy)=>0<fv t.Av∧0<fv t.H∧fv t.H≤fv t.Av∧0≤fv t.A1) (r:=false),Qev]
  . by_cases g:∀ t∈h.Ao,0<fv t.Av∧0<fv t.H∧fv t.H≤fv t.Av∧0≤fv t.A1
    . rw[if_pos g,dP_t g]
    . rw[if_neg g,dP_f g]
  . intro i t hi
    obtain⟨p1,p2,p3,p4⟩:=pk t (Jm hi);rw[Qan (k:=k) hn h1 (by omega) p2,sbind,Qan (k:=k) hn h1 (by omega) p3,sbind,Qm9 (k:=k) hn h1 (by omega) p3 p2,sbind,Qan (k:=k) hn h1 (by omega) p4,sbind];by_cases c1:(fv t.Av).num.sign≤0
    . rw[decide_eq_true c1];exact⟨λg=>absurd (Qyl.2 g.1) (by omega),λ_=>rfl⟩
    rw[decide_eq_false c1];by_cases c2:(fv t.H).num.sign≤0
    . rw[decide_eq_true c2];exact⟨λg=>absurd (Qyl.2 g.2.1) (by omega),λ_=>rfl⟩
    rw[decide_eq_false c2];by_cases c3:0<(fv t.H - fv t.Av).num.sign
    . rw[decide_eq_true c3];exact⟨λg=>absurd (sg_le.2 g.2.2.1) (by omega),λ_=>rfl⟩
    rw[decide_eq_false c3];by_cases c4:(fv t.A1).num.sign<0
    . rw[decide_eq_true c4];exact⟨λg=>absurd (Q1d.2 g.2.2.2) (by omega),λ_=>rfl⟩
    rw[decide_eq_false c4];exact⟨λ_=>rfl,λg=>absurd ⟨Qyl.1 (by omega),Qyl.1 (by omega),sg_le.1 (by omega),Q1d.1 (by omega)⟩ g⟩
 have eC:Qho n h=some (dP (∀(i:Nat) t,h.Ao[i]?=some t->(t.Ok=true->fv (nextT h i)=fv t.T+fv t.H)∧(t.Ok=false->fv (nextT h i)=fv t.T∧rv (nextY h i)=rv t.Y))):=by
  unfold Qho Qh9;simp only[jn_eq];rw[Yx (λi (t:Qy)=>(t.Ok=true->fv (nextT h i)=fv t.T+fv t.H)∧(t.Ok=false->fv (nextT h i)=fv t.T∧rv (nextY h i)=rv t.Y)) (r:=false)]
  . by_cases g:∀(i:Nat) t,h.Ao[i]?=some t->(t.Ok=true->fv (nextT h i)=fv t.T+fv t.H)∧(t.Ok=false->fv (nextT h i)=fv t.T∧rv (nextY h i)=rv t.Y)
    . rw[if_pos g,dP_t g]
    . rw[if_neg g,dP_f g]
  . intro i t hi
    have hlt:=Kh hi;obtain⟨p1,p2,p3,p4⟩:=pk t (Jm hi);have pY:=(ht t (Jm hi)).2.1;have hqa:=Yl (qw_fv p1 h1) (qw_fv p3 h1)
    have core:∀(a:Qa) (y:List Qa),Fk k a->FR k y->∀(K:Bool->Option (Lp Unit Bool)),
     ((bif t.Ok then (K1 n t.T t.H).bind λr1=>(Xz n a r1).bind λr3=>some r3 else (Xz n a t.T).bind λr12=>bif r12 then (Qap n y t.Y).bind λr14=>some r14 else some false).bind K)=K (dP ((t.Ok=true->fv a=fv t.T+fv t.H)∧(t.Ok=false->fv a=fv t.T∧rv y=rv t.Y))):=λa y ha hy K=>by
     cases ho:t.Ok with
     | true=>
       rw[bifT,Vd (k:=k) hn h1 (by omega) p1 p3,sbind,Qcv (k:=k+k+1) hn (by omega) (by omega) (Vq ha (by omega)) (Q6 hqa),sbind,sbind,Q1,decP];congr 1;exact dP_c ⟨λg=>⟨λ_=>g,(λg'=>by cases g')⟩,λg=>g.1 rfl⟩
     | false=>
       rw[bifF,Qcv (k:=k) hn h1 (by omega) ha p1,sbind];by_cases c:fv a=fv t.T
       . rw[decide_eq_true c,bifT,Qb4 (k:=k) hn h1 (by omega) hy pY,sbind,sbind,decP]
         congr 1;exact dP_c ⟨λg=>⟨(λg'=>by cases g'),λ_=>⟨c,g⟩⟩,λg=>(g.2 rfl).2⟩
       . rw[decide_eq_false c,bifF,sbind,dP_f λg=>c (g.2 rfl).1]
    have fin:∀ P:Prop,((P->(λs:Bool=>bif !s then some (Lp.out false) else some (Lp.go ()):Bool->Option (Lp Unit Bool)) (dP P)=some (.go ()))∧(¬ P->(λs:Bool=>bif !s then some (Lp.out false) else some (Lp.go ()):Bool->Option (Lp Unit Bool)) (dP P)=some (.out false))):=λP=>⟨λg=>by rw[dP_t g];rfl,λg=>by rw[dP_f g];rfl⟩
    rw[w1 (by omega)];by_cases c:i+1<h.Ao.length
    . have hp:h.Ao[i+1]?=some h.Ao[i+1]:=List.getElem?_eq_getElem c
      have hm:=List.getElem_mem c;generalize h.Ao[i+1]=u at hp hm;have eT:nextT h i=u.T:=by unfold nextT;rw[hp]
      have eY:nextY h i=u.Y:=by unfold nextY;rw[hp]
      rw[decide_eq_true (show((i+1:Nat):Int)<(h.Ao.length:Int) by omega),bifT,Ki hp,sbind,sbind,core u.T u.Y (pk u hm).1 (ht u hm).2.1,eT,eY];exact fin _
    . have hp:h.Ao[i+1]?=none:=List.getElem?_eq_none (by omega)
      have eT:nextT h i=h.T:=by unfold nextT;rw[hp]
      have eY:nextY h i=h.Y:=by unfold nextY;rw[hp]
      rw[decide_eq_false (show ¬((i+1:Nat):Int)<(h.Ao.length:Int) by omega),bifF,core h.T h.Y hT hY,eT,eY];exact fin _
 rw[eP,sbind,bifnP];by_cases g1:(∀ t∈h.Ao,∀ r∈[[t.T,t.Av,t.H,t.A1],t.Y],∀ x∈r,canF x)∧∀ r∈[[h.T],h.Y],∀ x∈r,canF x
 case neg=>rw[if_neg g1,sbind,dP_f λa=>g1 a.c];rfl
 rw[if_pos g1,eL,sbind,bifnP];by_cases g2:(∀ t∈h.Ao,t.Y.length=h.Y.length)∧1≤h.Y.length∧h.Y.length≤6
 case neg=>rw[if_neg g2,sbind,dP_f λa=>g2 a.l];rfl
 rw[if_pos g2];by_cases g3:(200:Int)<(h.Ao.length:Int)
 . rw[decide_eq_true g3,bifT,sbind,dP_f λa=>by have:=a.m;omega];rfl
 rw[decide_eq_false g3,bifF,eS,sbind,bifnP];by_cases g4:∀ t∈h.Ao,0<fv t.Av∧0<fv t.H∧fv t.H≤fv t.Av∧0≤fv t.A1
 case neg=>rw[if_neg g4,sbind,dP_f λa=>g4 a.s];rfl
 rw[if_pos g4,eC,sbind,bifnP];by_cases g5:∀(i:Nat) t,h.Ao[i]?=some t->(t.Ok=true->fv (nextT h i)=fv t.T+fv t.H)∧(t.Ok=false->fv (nextT h i)=fv t.T∧rv (nextY h i)=rv t.Y)
 . rw[if_pos g5,sbind,dP_t ⟨g1,g2,by omega,g4,g5⟩];rfl
 . rw[if_neg g5,sbind,dP_f λa=>g5 a.n];rfl
set_option maxRecDepth 100000
noncomputable def alongQ(p:Qf)(V:List Rat):List Qy->Nat->List Rat->Qc ⊕ List (List Rat)
 | [],_,_=>.inr []
 | t::l,i,U=>match tiltQ p (fv t.T) (fv t.H) (rv t.Y) U V with
   | .inl f=>.inl ⟨f.Aq,((i+1:Nat):Int),f.Ax,f.At⟩
   | .inr z=>match alongQ p V l (i+1) z.2.1 with
     | .inl f=>.inl f
     | .inr r=>.inr (z.2.1::r)
def AlR(p:Qf)(h:Qs):Prop:=prbR p∧Qld h∧(h.Y.length:Int)=p.Tape.Au
noncomputable def nodesQ(p:Qf)(h:Qs)(U V:List Rat):Qc ⊕ List (List Rat):=
 @ite _ (AlR p h∧U.length=h.Y.length∧V.length=p.P.length) (Classical.propDecidable _) (alongQ p V ((okT h.Ao).map nT) 0 U) (.inl ⟨2,0,0,0⟩)
theorem Qyn{p:Qf}{V:List Rat}(ht:∀(t:Qy) (U:List Rat) f,tiltQ p (fv t.T) (fv t.H) (rv t.Y) U V=.inl f->f.Aq≠0):∀ {l:List Qy}{i:Nat}{U:List Rat}{f},alongQ p V l i U=.inl f->f.Aq≠0
 | [],i,U,f,h=>by simp only[alongQ] at h;cases h
 | t::l,i,U,f,h=>by
   simp only[alongQ] at h;cases hs:tiltQ p (fv t.T) (fv t.H) (rv t.Y) U V with
   | inl g=>rw[hs] at h;cases h;exact ht t U g hs
   | inr z=>
     rw[hs] at h;simp only[] at h;cases hr:alongQ p V l (i+1) z.2.1 with
     | inl g=>rw[hr] at h;cases h;exact Qyn ht hr
     | inr r=>rw[hr] at h;cases h
theorem Q9l{p:Qf}{T H:Rat}{Y U V:List Rat}{f}(h:tiltQ p T H Y U V=.inl f):f.Aq≠0:=by
 unfold tiltQ at h;cases hs:stepQ p T H Y with
 | inl g=>
   rw[hs] at h;simp only[] at h;split at h;cases h;show(2:Int)≠0;decide;cases h;exact Qym hs
 | inr z=>
   rw[hs] at h;simp only[] at h;split at h;cases h;show(2:Int)≠0;decide;cases hd:tdoQ p.Tape p.An (limQ p.Ap) T H U V (rv p.P) z.ys with
   | inr w=>rw[hd] at h;cases h
   | inl g=>
     rw[hd] at h;cases h;unfold tdoQ at hd;have st:∀ {r:List ((List Rat×Rat)×List Rat)}{i:Nat}{k}{e:Qc},tstagesQ p.Tape (limQ p.Ap) T H U V (rv p.P) r i k=.inl e->e.Aq≠0:=by
      intro r
      induction r with
      | nil=>intro i k e h;simp only[tstagesQ] at h;cases h
      | cons x r ih=>
        intro i k e h;simp only[tstagesQ] at h;cases s:tstageQ p.Tape (limQ p.Ap) T H U V (rv p.P) x.2 x.1.1 x.1.2 i k with
        | inr w=>rw[s] at h;exact ih h
        | inl g=>
          rw[s] at h;cases h;unfold tstageQ at s;split at s;cases s;show(6:Int)≠0;decide;cases hp:pfieldQ p.Tape (limQ p.Ap) (T+H*x.1.2) x.2 (rv p.P) 0 (fromQ H U x.1.1 k) V with
          | inr q=>rw[hp] at s;cases s
          | inl q=>
            rw[hp] at s;cases s;have:=Quh hp;show q.1≠0;omega
     cases hz:tstagesQ p.Tape (limQ p.Ap) T H U V (rv p.P) (List.zip (pairQ p.An) z.ys) 0 [] with
     | inl e=>rw[hz] at hd;cases hd;exact st hz
     | inr k=>
       rw[hz] at hd;simp only[] at hd;unfold tendQ at hd;split at hd;cases hd;show(6:Int)≠0;decide;split at hd;cases hd;show(6:Int)≠0;decide;cases hd
theorem Ja7{k:Nat}{t:Qy}(h:FT k t):Fk k t.T∧Fk k t.H∧FR k t.Y:=⟨h.1 t.T (by simp),h.1 t.H (by simp),h.2.1⟩
theorem FT_nT{k:Nat}{t:Qy}(h1:1≤k)(h:FT k t):FT k (nT t):=by obtain⟨a,b,c⟩:=h;refine⟨λx hx=>?_,J6 (QR_rv b h1),by show(toR (rv t.Y)).length≤_;rw[Q2,Q3];exact c⟩;have g:∀ y∈[t.T,t.Av,t.H,t.A1],Fk k (toF (fv y)):=λy hy=>Q6 (qw_fv (a y hy) h1);rcases List.mem_cons.1 hx with rfl | hx;exact g t.T (by simp);rcases List.mem_cons.1 hx with rfl | hx;exact g t.Av (by simp);rcases List.mem_cons.1 hx with rfl | hx;exact g t.H (by simp);rw[List.mem_singleton.1 hx];exact g t.A1 (by simp)
theorem Qwv{n k:Nat}{p:Qf}{h:Qs}{u v:List Qa}(hn:big≤n)(h0:129≤k)(hk:k<8000)(hw:PrbW k p)(hl:h.Ao.length≤1000)(ht:∀ t∈h.Ao,FT k t)(hT:Fk k h.T)(hY:FR k h.Y)(hYl:h.Y.length≤1000)(hu:FR k u)(hul:u.length≤1000)(hv:FR k v):
 Qgh n p h u v=some (match nodesQ p h (rv u) (rv v) with | .inl f=>([],f) | .inr r=>(toRR (rv u::r),⟨0,0,0,0⟩))∧∀ r,nodesQ p h (rv u) (rv v)=.inr r->∀ a∈r,QR 129 a∧a.length≤6:=by
 have hle:=Qlc h.Ao;unfold Qgh Qby nodesQ;simp only[jn_eq];rw[Qif hn h0 hk hw,Qle hn (by omega) (by omega) (by omega) ht hT hY (by omega),Q3,Q3];have noR:¬(AlR p h∧u.length=h.Y.length∧v.length=p.P.length)->∀ r,@ite (Qc ⊕ List (List Rat)) (AlR p h∧u.length=h.Y.length∧v.length=p.P.length) (Classical.propDecidable _) (alongQ p (rv v) ((okT h.Ao).map nT) 0 (rv u)) (.inl ⟨2,0,0,0⟩)=.inr r->∀ a∈r,QR 129 a∧a.length≤6:=λg r hr=>by rw[if_neg g] at hr;cases hr
 by_cases c1:prbR p
 case neg=>
  have g:¬(AlR p h∧u.length=h.Y.length∧v.length=p.P.length):=λg=>c1 g.1.1;exact⟨by rw[if_neg g,sbind,dP_f c1];rfl,noR g⟩
 by_cases c2:Qld h
 case neg=>
  have g:¬(AlR p h∧u.length=h.Y.length∧v.length=p.P.length):=λg=>c2 g.1.2.1;exact⟨by rw[if_neg g,sbind,dP_t c1,bifT,sbind,dP_f c2];rfl,noR g⟩
 by_cases c3:(h.Y.length:Int)=p.Tape.Au
 case neg=>
  have g:¬(AlR p h∧u.length=h.Y.length∧v.length=p.P.length):=λg=>c3 g.1.2.2;exact⟨by rw[if_neg g,sbind,dP_t c1,bifT,sbind,dP_t c2,bifT,decide_eq_false c3];rfl,noR g⟩
 by_cases c4:u.length=h.Y.length
 case neg=>
  have g:¬(AlR p h∧u.length=h.Y.length∧v.length=p.P.length):=λg=>c4 g.2.1;exact⟨by rw[if_neg g,sbind,dP_t c1,bifT,sbind,dP_t c2,bifT,decide_eq_true c3,sbind,decide_eq_false (show ¬(u.length:Int)=(h.Y.length:Int) by omega)];rfl,noR g⟩
 by_cases c5:v.length=p.P.length
 case neg=>
  have g:¬(AlR p h∧u.length=h.Y.length∧v.length=p.P.length):=λg=>c5 g.2.2;exact⟨by rw[if_neg g,sbind,dP_t c1,bifT,sbind,dP_t c2,bifT,decide_eq_true c3,sbind,decide_eq_true (show(u.length:Int)=(h.Y.length:Int) by omega),decide_eq_false (show ¬(v.length:Int)=(p.P.length:Int) by omega)];rfl,noR g⟩
 rw[if_pos ⟨⟨c1,c2,c3⟩,c4,c5⟩,sbind,dP_t c1,bifT,sbind,dP_t c2,bifT,decide_eq_true c3,sbind,decide_eq_true (show(u.length:Int)=(h.Y.length:Int) by omega),decide_eq_true (show(v.length:Int)=(p.P.length:Int) by omega)];simp only[Bool.not_true,bifF];rw[Qb2 hn,sbind,Xx hn (by omega) (by omega) (Q6 (by rw[Qq7];omega)) hu (by omega),sbind,Q1,Qq6,Qh3 hn (by omega) (by omega) (by omega) ht,sbind]
 have hA:∀ t∈(okT h.Ao).map nT,FT k t∧t.Y.length≤6:=λt hm=>by obtain⟨x,hx,rfl⟩:=List.mem_map.1 hm;have hx':=(List.mem_filter.1 hx).1;refine⟨FT_nT (by omega) (ht x hx'),?_⟩;show(toR (rv x.Y)).length≤6;rw[Q2,Q3,c2.l.1 x hx'];exact c2.l.2.2
 have hAl:((okT h.Ao).map nT).length≤1000:=by rw[List.length_map];omega
 generalize (okT h.Ao).map nT=A at hA hAl
 have key:∀(l:List Qy) (i:Nat) (U:List Rat) (B:List (List Rat)) (K:(List Qa)×(List (List Qa))->Option ((List (List Qa))×Qc)),(∀ t∈l,FT k t∧t.Y.length≤6)->QR k U->i+l.length≤1000->B.length≤i+1 →
  ((rangeL (λ(i32:Nat) (x33:Qy) (s31:(List Qa)×(List (List Qa)))=>
    (Wt n p x33.T x33.H x33.Y s31.1 v).bind λr35=>
    bif !(Qo r35.2 (⟨0,0,0,0⟩:Qc)) then (
     some (Lp.out ((([]:List (List Qa)),(⟨r35.2.Aq,wrap64 ((i32:Int)+(1:Int)),r35.2.Ax,r35.2.At⟩:Qc)))))
    else (
     (appM 24 s31.2 ([r35.1.A0]:List (List Qa))).bind λy37=>
     some (Lp.go (r35.1.A0,y37)))) l i (toR U,toRR B)).bind (lpK K)=match alongQ p (rv v) l i U with | .inl f=>some ([],f) | .inr r=>K (toR (r.getLastD U),toRR (B++r)))∧∀ r,alongQ p (rv v) l i U=.inr r->∀ a∈r,QR 129 a∧a.length≤6:=by
  intro l
  induction l with
  | nil=>
    intro i U B K _ _ _ _;simp only[alongQ,rangeL];exact⟨by rw[List.append_nil];rfl,λr hr=>by cases hr;exact λ_ h=>by cases h⟩
  | cons t l ih=>
    intro i U B K hm hU hi hB;rw[List.length_cons] at hi;obtain⟨ft,fl⟩:=hm t (.head _);obtain⟨f1,f2,f3⟩:=Ja7 ft;obtain⟨d1,x1,z1⟩:=Qe8 (t:=t.T) (h:=t.H) (y:=t.Y) (u:=toR U) (v:=v) hn h0 hk hw f1 f2 f3 (J6 hU) hv;rw[Kw] at d1 x1 z1;simp only[alongQ,rangeL];rw[d1,sbind];cases hs:tiltQ p (fv t.T) (fv t.H) (rv t.Y) U (rv v) with
    | inl f=>
      have hf:=x1 f hs;obtain⟨a1,a2,a3,a4⟩:=f;simp only[];rw[Jw hf,Bool.not_false,bifT,sbind,w1 (by omega)];exact⟨rfl,λr hr=>by cases hr⟩
    | inr z=>
      obtain⟨_,b1,b2,_⟩:=z1 z hs;simp only[];rw[J2,Bool.not_true,bifF,Km (by rw[Vs];simp;omega) (by rw[Vs];simp;omega),sbind,sbind];have e7:toRR B++[toR z.2.1]=toRR (B++[z.2.1]):=by unfold toRR;rw[List.map_append];rfl
      simp only[];rw[e7];obtain⟨i1,i2⟩:=ih (i+1) z.2.1 (B++[z.2.1]) K (λx hx=>hm x (.tail _ hx)) (Q8 b1 h0) (by omega) (by simp;omega);cases hr:alongQ p (rv v) l (i+1) z.2.1 with
      | inl f=>
        rw[hr] at i1;exact⟨i1,λr h=>by cases h⟩
      | inr r=>
        rw[hr] at i1;refine⟨?_,λr' h'=>?_⟩
        . refine i1.trans ?_
          simp only[];rw[List.append_assoc,List.getLastD_cons];rfl
        . cases h'
          intro a ha;rcases List.mem_cons.1 ha with rfl | ha
          . exact⟨b1,by omega⟩
          . exact i2 r hr a ha
 obtain⟨k1,k2⟩:=key A 0 (rv u) [rv u] (λs39=>some (s39.2,(⟨0,0,0,0⟩:Qc))) hA (QR_rv hu (by omega)) (by omega) (by simp);refine⟨?_,k2⟩;refine k1.trans ?_;cases alongQ p (rv v) A 0 (rv u)<;>rfl
theorem Qww{α:Type}:∀(r:List α) (u:α),(u::r)[r.length]?=some (r.getLastD u)
 | [],u=>rfl
 | x::r,u=>by rw[List.getLastD_cons];exact Qww r x
theorem Qh4{n k:Nat}{p:Qf}{h:Qs}{u v:List Qa}(hn:big≤n)(h0:129≤k)(hk:k<8000)(hw:PrbW k p)(hl:h.Ao.length≤1000)(ht:∀ t∈h.Ao,FT k t)(hT:Fk k h.T)(hY:FR k h.Y)(hYl:h.Y.length≤1000)(hu:FR k u)(hul:u.length≤1000)(hv:FR k v):
 W8 n p h u v=some (match nodesQ p h (rv u) (rv v) with | .inl f=>([],f) | .inr r=>(toR (r.getLastD (rv u)),⟨0,0,0,0⟩))∧(∀ f,nodesQ p h (rv u) (rv v)=.inl f->f.Aq≠0)∧∀ r,nodesQ p h (rv u) (rv v)=.inr r->QR k (r.getLastD (rv u))∧r.length≤1000∧(r.getLastD (rv u)).length≤1000:=by
 obtain⟨e1,e2⟩:=Qwv hn h0 hk hw hl ht hT hY hYl hu hul hv;unfold W8;rw[e1,sbind]
 have hk2:∀ f,nodesQ p h (rv u) (rv v)=.inl f->f.Aq≠0:=λf hf=>by unfold nodesQ at hf;split at hf;exact Qyn (λt U f h=>Q9l h) hf;cases hf;show(2:Int)≠0;decide
 have hlen:∀ {l:List Qy}{i:Nat}{U:List Rat}{r},alongQ p (rv v) l i U=.inr r->r.length=l.length:=by
  intro l
  induction l with
  | nil=>intro i U r h;simp only[alongQ] at h;cases h;rfl
  | cons t l ih=>
    intro i U r h;simp only[alongQ] at h;cases hs:tiltQ p (fv t.T) (fv t.H) (rv t.Y) U (rv v) with
    | inl g=>rw[hs] at h;cases h
    | inr z=>
      rw[hs] at h;simp only[] at h;cases hr:alongQ p (rv v) l (i+1) z.2.1 with
      | inl g=>rw[hr] at h;cases h
      | inr r=>rw[hr] at h;cases h;simp[ih hr]
 cases hq:nodesQ p h (rv u) (rv v) with
 | inl f=>
   have hf:=hk2 f hq;refine⟨?_,λg hg=>by cases hg;exact hf,λr hr=>by cases hr⟩;obtain⟨a1,a2,a3,a4⟩:=f;simp only[];rw[Jw hf,Bool.not_false,bifT]
 | inr r=>
   have hm:=e2 r hq;have hr:r.length≤1000:=by unfold nodesQ at hq;split at hq;have:=hlen hq;rw[List.length_map] at this;have:=Qlc h.Ao;omega;cases hq
   have hlast:QR k (r.getLastD (rv u))∧(r.getLastD (rv u)).length≤1000:=by have hmem:=List.mem_of_getElem? (Qww r (rv u));rcases List.mem_cons.1 hmem with e | e;rw[e];exact⟨QR_rv hu (by omega),by rw[Q3];exact hul⟩;obtain⟨a1,a2⟩:=hm _ e;exact⟨Q8 a1 h0,by omega⟩
   refine⟨?_,(λg hg=>by cases hg),λr' hr'=>by cases hr';exact⟨hlast.1,hr,hlast.2⟩⟩;simp only[];rw[J2,Bool.not_true,bifF,Vs,List.length_cons,w64 (by omega) (by omega),show((r.length+1:Nat):Int) - 1=(r.length:Int) by omega,Ki (show(toRR (rv u::r))[r.length]?=some (toR (r.getLastD (rv u))) by unfold toRR;rw[List.getElem?_map,Qww];rfl),sbind]
set_option maxRecDepth 100000
def addAt(l:List Rat)(a:Int)(c:Rat):List Rat:=l.set a.toNat (l.getD a.toNat 0+c)
theorem Qj5{l:List Rat}{a:Int}{c:Rat}:(addAt l a c).length=l.length:=List.length_set
theorem Q9m{k:Nat}{l:List Rat}{i:Nat}{x:Rat}(h:QR k l)(hx:qw x≤k):QR k (l.set i x):=λy hy=>by rcases List.mem_or_eq_of_mem_set hy with hy | rfl;exact h y hy;exact hx
theorem Qfw{l:List Qa}{i:Nat}{x:Qa}(h:l[i]?=some x):(rv l).getD i 0=fv x:=by rw[List.getD_eq_getElem?_getD];unfold rv;rw[List.getElem?_map,h];rfl
structure BkS where
 co:List Rat
 T:Rat
 Y:List Rat
 P:List Rat
def Qcc(x:Qt)(c r:Rat)(vs:List Rat)(s:BkS):BkS:=
 if c=0 then s else
 if x.Op=2 then ⟨s.co,s.T+c,s.Y,s.P⟩ else
 if x.Op=3 then ⟨s.co,s.T,addAt s.Y x.A c,s.P⟩ else
 if x.Op=4 then ⟨s.co,s.T,s.Y,addAt s.P x.A c⟩ else
 if x.Op=6 then ⟨addAt s.co x.A (-c),s.T,s.Y,s.P⟩ else
 if x.Op=7 then ⟨addAt (addAt s.co x.A c) x.B c,s.T,s.Y,s.P⟩ else
 if x.Op=8 then ⟨addAt (addAt s.co x.A c) x.B (-c),s.T,s.Y,s.P⟩ else
 if x.Op=9 then ⟨addAt (addAt s.co x.A (c*vs.getD x.B.toNat 0)) x.B (c*vs.getD x.A.toNat 0),s.T,s.Y,s.P⟩ else
 if x.Op=10 then ⟨addAt (addAt s.co x.A (c / vs.getD x.B.toNat 0)) x.B (-(c / vs.getD x.B.toNat 0*r)),s.T,s.Y,s.P⟩ else
 if x.Op=11 then ⟨addAt s.co x.A (c*((x.B:Rat)*turnQ (vs.getD x.A.toNat 0) r x.B)),s.T,s.Y,s.P⟩ else s
theorem Qlf{x:Qt}{c r:Rat}{vs:List Rat}{s:BkS}:(Qcc x c r vs s).co.length=s.co.length∧(Qcc x c r vs s).Y.length=s.Y.length∧(Qcc x c r vs s).P.length=s.P.length:=by
 unfold Qcc
 repeat' split
 all_goals simp[Qj5]
structure BkW(b:Nat)(co:List Qa)(s:BkS):Prop where
 c:rv co=s.co
 k:FR b co
 t:qw s.T≤b
 y:QR b s.Y
 p:QR b s.P
theorem BkW.mono{b b':Nat}{co:List Qa}{s:BkS}(h:BkW b co s)(hb:b≤b'):BkW b' co s:=⟨h.c,Js h.k hb,Nat.le_trans h.t hb,Q8 h.y hb,Q8 h.p hb⟩
set_option maxRecDepth 100000
structure SameL(a b:BkS):Prop where
 c:b.co.length=a.co.length
 y:b.Y.length=a.Y.length
 p:b.P.length=a.P.length
theorem SameL.bk{x:Qt}{c1 c2 r:Rat}{vs:List Rat}{s1 s2:BkS}(h:SameL s1 s2):SameL (Qcc x c1 r vs s1) (Qcc x c2 r vs s2):=by obtain⟨a1,a2,a3⟩:=Qlf (x:=x) (c:=c1) (r:=r) (vs:=vs) (s:=s1);obtain⟨b1,b2,b3⟩:=Qlf (x:=x) (c:=c2) (r:=r) (vs:=vs) (s:=s2);exact⟨by rw[a1,b1,h.c],by rw[a2,b2,h.y],by rw[a3,b3,h.p]⟩
set_option maxRecDepth 100000
def sumN(f:Nat->Rat):Nat->Rat
 | 0=>0
 | i+1=>sumN f i+f i
theorem Qcj{f g:Nat->Rat}:∀ {i:Nat},(∀ j,j<i->f j=g j)->sumN f i=sumN g i
 | 0,_=>rfl
 | i+1,h=>by rw[sumN,sumN,Qcj λj hj=>h j (by omega),h i (by omega)]
def psum(a b:List Rat)(i:Nat):Rat:=sumN (λj=>a.getD j 0*b.getD j 0) i
theorem Qea{a b:List Rat}{i:Nat}:psum a b (i+1)=psum a b i+a.getD i 0*b.getD i 0:=rfl
section
variable {t:Ql}{lim:Int}{T':Rat}{Y' P' vs ds:List Rat}
end
set_option maxRecDepth 100000
theorem Qlg{n k:Nat}{a b:List Qa}(hn:big≤n)(h1:1≤k)(hk:k<1000000)(ha:FR k a)(hb:FR k b)(hl:a.length≤1000):
 Qfy n a b=some (if a.length=b.length then (toF (psum (rv a) (rv b) a.length),true) else (toF 0,false)):=by
 unfold Qfy;rw[Wu hn,sbind];by_cases h:a.length=b.length
 case neg=>rw[if_neg h,decide_eq_false (by omega),Bool.not_false,bifT]
 rw[if_pos h,decide_eq_true (by omega),Bool.not_true,bifF];have bnd:∀ i:Nat,qw (psum (rv a) (rv b) i)≤1+i*(k+k+1):=by
  intro i
  induction i with
  | zero=>show qw 0≤_;rw[Zn];omega
  | succ i ih=>
    have e:=Yl ih (X3 (Vy (i:=i) (QR_rv ha h1) h1) (Vy (i:=i) (QR_rv hb h1) h1));have:(i+1)*(k+k+1)=i*(k+k+1)+(k+k+1):=Nat.succ_mul _ _;rw[Qea];omega
 rw[X2 (λi=>toF (psum (rv a) (rv b) i)) a]
 . rfl
 . intro i x hx
   have hi:=Kh hx;obtain⟨y,hy⟩:∃ y,b[i]?=some y:=⟨b[i]'(by omega),List.getElem?_eq_getElem _⟩
   have xk:=ha x (Jm hx);have yk:=hb y (Jm hy);have hq:=X3 (qw_fv xk h1) (qw_fv yk h1);have hb:=bnd i;have hm:i*(k+k+1)≤1000*(k+k+1):=Nat.mul_le_mul_right _ (by omega);rw[Ki hy,sbind,V3 hn h1 (by omega) xk yk,sbind,Vd (k:=1+1000*(k+k+1)) hn (by omega) (by omega) (Q6 (by omega)) (Q6 (by omega)),sbind,Q1,Q1,Qea,Qfw hx,Qfw hy]
 . rfl
set_option maxRecDepth 100000
def prunP(T:Rat)(Y P:List Rat)(T':Rat)(Y' P':List Rat):List Qt->List Rat->List Rat->List Rat
 | [],_,ds=>ds
 | x::c,vs,ds=>match opQ x T Y P vs with
   | none=>ds
   | some q=>prunP T Y P T' Y' P' c (vs++[q]) (ds++[slopeQ x q T' Y' P' vs ds])
theorem Q1e{lim:Int}{T:Rat}{Y P:List Rat}{T':Rat}{Y' P':List Rat}:∀ {cd:List Qt}{i:Nat}{vs ds:List Rat}{l},prunQ lim T Y P T' Y' P' cd i vs ds=.inr l->l.2=prunP T Y P T' Y' P' cd vs ds
 | [],i,vs,ds,l,h=>by simp only[prunQ] at h;cases h;rfl
 | x::cd,i,vs,ds,l,h=>by
   simp only[prunQ] at h;simp only[prunP];cases hq:opQ x T Y P vs with
   | none=>rw[hq] at h;cases h
   | some q=>
     rw[hq] at h;simp only[] at h ⊢;split at h
     case isFalse=>cases h
     split at h
     case isFalse=>cases h
     exact Q1e h
def pfieldP(t:Ql)(T:Rat)(Y P:List Rat)(T':Rat)(Y' P':List Rat):List Rat:=t.Ar.map λo=>(prunP T Y P T' Y' P' t.Code [] []).getD o.toNat 0
theorem Q5h{t:Ql}{lim:Int}{T:Rat}{Y P:List Rat}{T':Rat}{Y' P':List Rat}{l}(h:pfieldQ t lim T Y P T' Y' P'=.inr l):l.2=pfieldP t T Y P T' Y' P':=by
 unfold pfieldQ at h;cases r:prunQ lim T Y P T' Y' P' t.Code 0 [] [] with
 | inl e=>rw[r] at h;cases h
 | inr w=>rw[r] at h;cases h;unfold pfieldP;rw[←Q1e r]
theorem Qp8{t:Ql}{T:Rat}{Y P:List Rat}{T':Rat}{Y' P':List Rat}:(pfieldP t T Y P T' Y' P').length=t.Ar.length:=by unfold pfieldP;rw[List.length_map]
def tstagesP(t:Ql)(T H:Rat)(U V P:List Rat):List ((List Rat×Rat)×List Rat)->List (List Rat)->List (List Rat)
 | [],kss=>kss
 | x::r,kss=>tstagesP t T H U V P r (kss++[pfieldP t (T+H*x.1.2) x.2 P 0 (fromQ H U x.1.1 kss) V])
theorem Quk{t:Ql}{lim:Int}{T H:Rat}{P U V:List Rat}:∀ {r:List ((List Rat×Rat)×List Rat)}{i:Nat}{k z},tstagesQ t lim T H U V P r i k=.inr z->z=tstagesP t T H U V P r k
 | [],i,k,z,h=>by simp only[tstagesQ] at h;cases h;rfl
 | x::r,i,k,z,h=>by
   simp only[tstagesQ] at h;cases s:tstageQ t lim T H U V P x.2 x.1.1 x.1.2 i k with
   | inl f=>rw[s] at h;cases h
   | inr w=>
     rw[s] at h;have hw:w=pfieldP t (T+H*x.1.2) x.2 P 0 (fromQ H U x.1.1 k) V:=by
      unfold tstageQ at s;cases hf:fitQ lim (fromQ H U x.1.1 k) 0 with
      | some j=>rw[hf] at s;cases s
      | none=>
        rw[hf] at s;simp only[] at s;cases hp:pfieldQ t lim (T+H*x.1.2) x.2 P 0 (fromQ H U x.1.1 k) V with
        | inl e=>rw[hp] at s;cases s
        | inr q=>rw[hp] at s;cases s;exact Q5h hp
     rw[hw] at h;simp only[tstagesP];exact Quk (show tstagesQ t lim T H U V P r (i+1) _=.inr z from h)
theorem Qlh{t:Ql}{T H:Rat}{P U V:List Rat}(hm:t.Ar.length=U.length):∀ {r:List ((List Rat×Rat)×List Rat)}{k:List (List Rat)},(∀ a∈k,a.length=U.length)->∀ a∈tstagesP t T H U V P r k,a.length=U.length
 | [],k,g=>g
 | x::r,k,g=>by simp only[tstagesP];refine Qlh hm λa ha=>?_;rcases List.mem_append.1 ha with ha | ha;exact g a ha;rw[List.mem_singleton.1 ha,Qp8];exact hm
def tnextP(t:Ql)(s:Qv)(T H:Rat)(U V P:List Rat)(yss:List (List Rat)):List Rat:=fromQ H U (rv s.B) (tstagesP t T H U V P (List.zip (pairQ s) yss) [])
theorem Ja8{t:Ql}{s:Qv}{lim:Int}{T H:Rat}{P U V:List Rat}{yss:List (List Rat)}{w}(h:tdoQ t s lim T H U V P yss=.inr w):w.1=tnextP t s T H U V P yss:=by
 unfold tdoQ at h;cases r:tstagesQ t lim T H U V P (List.zip (pairQ s) yss) 0 [] with
 | inl e=>rw[r] at h;cases h
 | inr z=>
   rw[r] at h;simp only[] at h;rw[Quj h,Quk r];rfl
theorem Q7i{t:Ql}{s:Qv}{T H:Rat}{P U V:List Rat}{yss:List (List Rat)}(hm:t.Ar.length=U.length):(tnextP t s T H U V P yss).length=U.length:=
 Qex (Qlh hm λ_ h=>by cases h)
noncomputable def movP(p:Qf)(T H:Rat)(Y U V:List Rat):List Rat:=match stepQ p T H Y with
 | .inl _=>U
 | .inr z=>tnextP p.Tape p.An T H U V (rv p.P) z.ys
theorem Qpo{p:Qf}{T H:Rat}{Y U V:List Rat}{z}(h:tiltQ p T H Y U V=.inr z):z.2.1=movP p T H Y U V:=by obtain⟨a1,a2,a3,a4⟩:=Qnx h;unfold movP;rw[a1];exact Ja8 a4
theorem Ql8{p:Qf}{T H:Rat}{Y U V:List Rat}(hm:p.Tape.Ar.length=U.length):(movP p T H Y U V).length=U.length:=by
 unfold movP;cases stepQ p T H Y with
 | inl f=>rfl
 | inr z=>exact Q7i hm
noncomputable def alongP(p:Qf)(V:List Rat):List Qy->List Rat->List Rat
 | [],U=>U
 | t::l,U=>alongP p V l (movP p (fv t.T) (fv t.H) (rv t.Y) U V)
theorem Qyo{p:Qf}{V:List Rat}:∀ {l:List Qy}{i:Nat}{U:List Rat}{r},alongQ p V l i U=.inr r->r.getLastD U=alongP p V l U
 | [],i,U,r,h=>by simp only[alongQ] at h;cases h;rfl
 | t::l,i,U,r,h=>by
   simp only[alongQ] at h;cases hs:tiltQ p (fv t.T) (fv t.H) (rv t.Y) U V with
   | inl g=>rw[hs] at h;cases h
   | inr z=>
     rw[hs] at h;simp only[] at h;cases hr:alongQ p V l (i+1) z.2.1 with
     | inl g=>rw[hr] at h;cases h
     | inr w=>
       rw[hr] at h;cases h;rw[List.getLastD_cons,Qyo hr,Qpo hs];rfl
theorem Qnp{p:Qf}{V:List Rat}:∀ {l:List Qy}{U:List Rat},p.Tape.Ar.length=U.length->(alongP p V l U).length=U.length
 | [],U,h=>rfl
 | t::l,U,h=>by have e:=Ql8 (T:=fv t.T) (H:=fv t.H) (Y:=rv t.Y) (V:=V) h;simp only[alongP];rw[Qnp (by rw[e];exact h),e]
structure LinF(F:List Rat->List Rat->List Rat)(n k m:Nat):Prop where
 len:∀ {U V},U.length=n->V.length=k->(F U V).length=m
 lin:∀ {c U1 U2 V1 V2},U1.length=n->U2.length=n->V1.length=k->V2.length=k->F (linQ c U1 U2) (linQ c V1 V2)=linQ c (F U1 V1) (F U2 V2)
def zerQ(n:Nat):List Rat:=List.replicate n 0
def uniQ(n i:Nat):List Rat:=(zerQ n).set i 1
def truQ(U:List Rat)(i:Nat):List Rat:=U.take i++zerQ (U.length - i)
theorem Yv{n:Nat}:(zerQ n).length=n:=by simp[zerQ]
theorem Qbd{n i:Nat}:(uniQ n i).length=n:=by simp[uniQ,Yv]
theorem Ql9{U:List Rat}{i:Nat}(h:i≤U.length):(truQ U i).length=U.length:=by simp[truQ,Yv];omega
theorem Qwx{n i:Nat}:(zerQ n).getD i 0=0:=by unfold zerQ;rw[List.getD_eq_getElem?_getD,List.getElem?_replicate];split<;>rfl
theorem Q31{n i j:Nat}(hi:i<n):(uniQ n i).getD j 0=if j=i then 1 else 0:=by unfold uniQ;rw[List.getD_eq_getElem?_getD,List.getElem?_set];by_cases h:i=j;subst h;rw[if_pos rfl,if_pos (by rw[Yv];exact hi),if_pos rfl];rfl;rw[if_neg h,if_neg (λe=>h e.symm),←List.getD_eq_getElem?_getD,Qwx]
theorem Qny{n i:Nat}(h:n≤i):uniQ n i=zerQ n:=by unfold uniQ;exact List.set_eq_of_length_le (by rw[Yv];exact h)
theorem Q32{U:List Rat}{i j:Nat}:(truQ U i).getD j 0=if j<i then U.getD j 0 else 0:=by unfold truQ;rw[List.getD_eq_getElem?_getD,List.getElem?_append,List.length_take];split;rename_i h;rw[if_pos (by omega),List.getElem?_take,if_pos (by omega),List.getD_eq_getElem?_getD];rename_i h;rw[←List.getD_eq_getElem?_getD,Qwx];split;rename_i h2;rw[List.getD_eq_getElem?_getD,List.getElem?_eq_none (by omega)];rfl;rfl
theorem Qwy{a b:List Rat}(h:a.length=b.length)(g:∀ i,i<a.length->a.getD i 0=b.getD i 0):a=b:=by apply List.ext_getElem h;intro i h1 h2;have:=g i h1;rw[List.getD_eq_getElem?_getD,List.getD_eq_getElem?_getD,List.getElem?_eq_getElem h1,List.getElem?_eq_getElem h2] at this;exact this
theorem Q33{U:List Rat}:truQ U 0=zerQ U.length:=rfl
theorem Q56{U:List Rat}:truQ U U.length=U:=by unfold truQ;rw[List.take_length,Nat.sub_self];exact List.append_nil _
theorem Q34{U:List Rat}{i:Nat}(h:i<U.length):truQ U (i+1)=linQ (U.getD i 0) (uniQ U.length i) (truQ U i):=by apply Qwy;rw[Qq9 (by rw[Qbd,Ql9 (by omega)]),Ql9 (by omega),Qbd];intro j hj;rw[Qc4 (by rw[Qbd,Ql9 (by omega)]),Q32,Q32,Q31 h];by_cases c1:j=i;subst c1;rw[if_pos (by omega),if_pos rfl,if_neg (by omega)];grind;rw[if_neg c1];by_cases c2:j<i;rw[if_pos (by omega),if_pos c2];grind;rw[if_neg (by omega),if_neg c2];grind
theorem Q0b{c:Rat}{n:Nat}:linQ c (zerQ n) (zerQ n)=zerQ n:=(Qui n).symm
theorem Ja9{c:Rat}{U:List Rat}:linQ c (zerQ U.length) U=U:=by apply Qwy;rw[Qq9 (by rw[Yv]),Yv];intro j hj;rw[Qc4 (by rw[Yv]),Qwx];grind
section
variable {F:List Rat->List Rat->List Rat}{n k m:Nat}
theorem LinF.zero(hF:LinF F n k m){r:Nat}:(F (zerQ n) (zerQ k)).getD r 0=0:=by have e:=hF.lin (c:=-1) (U1:=zerQ n) (U2:=zerQ n) (V1:=zerQ k) (V2:=zerQ k) Yv Yv Yv Yv;rw[Q0b,Q0b] at e;have g:(F (zerQ n) (zerQ k)).getD r 0=(linQ (-1) (F (zerQ n) (zerQ k)) (F (zerQ n) (zerQ k))).getD r 0:=congrArg (λl:List Rat=>l.getD r 0) e;rw[Qc4 rfl] at g;generalize (F (zerQ n) (zerQ k)).getD r 0=x at g;grind
theorem LinF.left(hF:LinF F n k m){U:List Rat}{r:Nat}(hU:U.length=n):∀ i:Nat,i≤n->(F (truQ U i) (zerQ k)).getD r 0=sumN (λj=>U.getD j 0*(F (uniQ n j) (zerQ k)).getD r 0) i
 | 0,_=>by rw[Q33,hU,hF.zero];rfl
 | i+1,h=>by have e:=hF.lin (c:=U.getD i 0) (U1:=uniQ n i) (U2:=truQ U i) (V1:=zerQ k) (V2:=zerQ k) Qbd (by rw[Ql9 (by omega),hU]) Yv Yv;rw[Q0b] at e;rw[Q34 (by omega),hU,e,Qc4 (by rw[hF.len Qbd Yv,hF.len (by rw[Ql9 (by omega),hU]) Yv]),hF.left hU i (by omega),sumN];grind
theorem LinF.right(hF:LinF F n k m){U V:List Rat}{r:Nat}(hU:U.length=n)(hV:V.length=k):∀ i:Nat,i≤k->(F U (truQ V i)).getD r 0=(F U (zerQ k)).getD r 0+sumN (λj=>V.getD j 0*(F (zerQ n) (uniQ k j)).getD r 0) i
 | 0,_=>by rw[Q33,hV];simp only[sumN];grind
 | i+1,h=>by have e:=hF.lin (c:=V.getD i 0) (U1:=zerQ n) (U2:=U) (V1:=uniQ k i) (V2:=truQ V i) Yv hU Qbd (by rw[Ql9 (by omega),hV]);rw[←hU,Ja9,hU] at e;rw[Q34 (by omega),hV,e,Qc4 (by rw[hF.len Yv Qbd,hF.len hU (by rw[Ql9 (by omega),hV])]),hF.right hU hV i (by omega),sumN];grind
theorem LinF.all(hF:LinF F n k m){U V:List Rat}{r:Nat}(hU:U.length=n)(hV:V.length=k):
 (F U V).getD r 0=sumN (λj=>U.getD j 0*(F (uniQ n j) (zerQ k)).getD r 0) n+sumN (λj=>V.getD j 0*(F (zerQ n) (uniQ k j)).getD r 0) k:=by
 have e1:=hF.right (r:=r) hU hV k (Nat.le_refl _);have e2:=hF.left (r:=r) hU n (Nat.le_refl _);rw[show truQ V k=V by rw[←hV,Q56]] at e1;rw[show truQ U n=U by rw[←hU,Q56]] at e2;rw[e1,e2]
end
theorem Qdj{n m:Nat}{x:Int}(hn:big≤n)(hm:m≤300):Ve n (m:Int) x=some (toR (if 0≤x then uniQ m x.toNat else zerQ m)):=by
 unfold Ve;rw[Qb3 hn hm,sbind];simp only[jn_eq,Q2,List.length_replicate];by_cases h:0≤x;rw[decide_eq_true h,bifT,if_pos h];by_cases h2:x<(m:Int);rw[decide_eq_true h2,bifT,Qb2 hn,sbind];have hg:getI (toR (List.replicate m 0)) x=some (toF 0):=by
  have:x=((x.toNat:Nat):Int):=by omega
  rw[this,Qhy];unfold toR;rw[List.getElem?_map,List.getElem?_replicate,if_pos (by omega)];rfl
 rw[hg,sbind];unfold toR uniQ zerQ;rw[List.map_set];rw[decide_eq_false h2,bifF,Qny (by omega)];rfl;rw[decide_eq_false h,bifF,bifF,if_neg h];rfl
set_option maxRecDepth 100000
def colQ(L:List (List Rat))(m:Nat):List (List Rat):=(List.range m).map λi=>L.map (·.getD i 0)
def colH(L:List (List Rat))(m i j:Nat):List (List Rat):=(List.range m).map λk=>(L.take (if k<j then i+1 else i)).map (·.getD k 0)
theorem Q35{L:List (List Rat)}{m i j:Nat}:(colH L m i j).length=m:=by simp[colH]
theorem Jba{L:List (List Rat)}{m i:Nat}:colH L m i m=colH L m (i+1) 0:=by unfold colH;apply List.map_congr_left;intro k hk;have:=List.mem_range.1 hk;rw[if_pos this,if_neg (Nat.not_lt_zero _)]
theorem Jbb{L:List (List Rat)}{m i j:Nat}(h:j<m):(colH L m i j)[j]?=some ((L.take i).map (·.getD j 0)):=by unfold colH;rw[List.getElem?_map,List.getElem?_range h];simp
theorem Q57{L:List (List Rat)}{m i j k:Nat}(h:k<(colH L m i j).length):(colH L m i j)[k]=(L.take (if k<j then i+1 else i)).map (·.getD k 0):=by simp[colH]
theorem Jbc{L:List (List Rat)}{m i j:Nat}{c:List Rat}(h:j<m)(hc:L[i]?=some c):(colH L m i j).set j ((L.take i).map (·.getD j 0)++[c.getD j 0])=colH L m i (j+1):=by apply List.ext_getElem;simp[colH];intro k h1 h2;rw[Q57 h2,List.getElem_set];by_cases e:j=k;subst e;rw[if_pos rfl,if_pos (Nat.lt_succ_self j),List.take_add_one,hc];simp;rw[if_neg e,Q57];by_cases c1:k<j;rw[if_pos c1,if_pos (by omega)];rw[if_neg c1,if_neg (by omega)]
theorem Q36{L:List (List Rat)}{m:Nat}(hL:∀ c∈L,c.length=m)(hm:m≤1000)(hl:L.length≤1000):Qaj (toRR L) (m:Int)=some (toRR (colQ L m)):=by
 unfold Qaj;rw[Qje (by omega) (by omega),sbind];rw[X2 (λi=>toRR (colH L m i 0)) (toRR L)];rw[Wr,Vs];have e:colH L m L.length 0=colQ L m:=by unfold colH colQ;apply List.map_congr_left;intro k _;rw[if_neg (Nat.not_lt_zero _),List.take_length]
 rw[e];intro i x hx;unfold toRR at hx;rw[List.getElem?_map] at hx;cases hc:L[i]? with
 | none=>rw[hc] at hx;cases hx
 | some c=>
   rw[hc] at hx;cases hx;have hcl:=hL c (Jm hc);have hi:=Kh hc;rw[X2 (λj=>toRR (colH L m i j)) (toRR (colH L m i 0))];rw[Wr,Vs,Q35,Jba];intro j y hy;have hj:j<m:=by have:=Kh hy;rw[Vs,Q35] at this;exact this
   have g1:(toRR (colH L m i j))[j]?=some (toR ((L.take i).map (·.getD j 0))):=by unfold toRR;rw[List.getElem?_map,Jbb hj];rfl
   have g2:(toR c)[j]?=some (toF (c.getD j 0)):=by unfold toR;rw[List.getElem?_map,List.getD_eq_getElem?_getD,List.getElem?_eq_getElem (by omega)];rfl
   have g3:(toR ((L.take i).map (·.getD j 0))).length≤1000:=by rw[Q2,List.length_map,List.length_take];omega
   rw[Ki g1,sbind,Ki g2,sbind,Km (by simp only[List.length_singleton];omega) (by simp only[List.length_singleton];omega),sbind,Int.toNat_natCast,←Jbc hj hc];unfold toRR;rw[List.map_set];unfold toR;rw[List.map_append];rfl;rfl
 show List.replicate m ([]:List Qa)=_;have e:colH L m 0 0=List.replicate m []:=by apply List.ext_getElem;simp[colH];intro k h1 h2;simp[colH]
 rw[e];unfold toRR;rw[List.map_replicate];rfl
theorem Q9n{x0:List (List Qa)}{x1:Int}:Qbp x0 x1=Qaj x0 x1:=Eq.symm (Eq.symm rfl)
theorem Qyp{L:List (List Rat)}{m:Nat}(hL:∀ c∈L,c.length=m)(hm:m≤1000)(hl:L.length≤1000):Qbp (toRR L) (m:Int)=some (toRR (colQ L m)):=by rw[Q9n];exact Q36 hL hm hl
set_option maxRecDepth 100000
theorem Qli{n i:Nat}:FR 129 (toR (uniQ n i)):=J6 (Q8 (Q9m (Que n) (by rw[Qq7];exact Nat.le_refl 1)) (by decide))
theorem Q37{n:Nat}:FR 129 (toR (zerQ n)):=J6 (Q8 (Que n) (by decide))
set_option maxRecDepth 100000
noncomputable def aF(p:Qf)(h:Qs)(U V:List Rat):List Rat:=alongP p V ((okT h.Ao).map nT) U
theorem Qnq{p:Qf}{h:Qs}{U V:List Rat}{r}(g:nodesQ p h U V=.inr r):(AlR p h∧U.length=h.Y.length∧V.length=p.P.length)∧r.getLastD U=aF p h U V:=by unfold nodesQ at g;split at g;rename_i hc;exact⟨hc,Qyo g⟩;cases g
def dirV(n k i:Nat):List Rat:=if n≤i then uniQ k (i - n) else zerQ k
theorem Jc1{n k i:Nat}:FR 129 (toR (dirV n k i)):=by unfold dirV;split;exact Qli;exact Q37
noncomputable def asM(p:Qf)(h:Qs)(n k i:Nat):List (List Rat):=(List.range i).map λj=>aF p h (uniQ n j) (dirV n k j)
theorem Jbd{p:Qf}{h:Qs}{n k i:Nat}:asM p h n k (i+1)=asM p h n k i++[aF p h (uniQ n i) (dirV n k i)]:=by unfold asM;rw[List.range_succ,List.map_append];rfl
theorem Q58{p:Qf}{h:Qs}{n k i:Nat}:(asM p h n k i).length=i:=by simp[asM]
theorem Jbe{p:Qf}{h:Qs}{n k:Nat}:(asM p h n k (n+k)).take n=(List.range n).map λj=>aF p h (uniQ n j) (zerQ k):=by
 apply List.ext_getElem;simp[asM];intro i h1 h2;have hi:i<n:=by simpa using h2
 simp only[asM,List.getElem_take,List.getElem_map,List.getElem_range];unfold dirV;rw[if_neg (by omega)]
theorem Jbf{p:Qf}{h:Qs}{n k:Nat}:(asM p h n k (n+k)).drop n=(List.range k).map λj=>aF p h (zerQ n) (uniQ k j):=by apply List.ext_getElem;simp[asM];intro i h1 h2;simp only[asM,List.getElem_drop,List.getElem_map,List.getElem_range];unfold dirV;rw[if_pos (by omega),Qny (by omega),show n+i - n=i by omega]
def okA(p:Qf)(h:Qs)(k N K i:Nat):Prop:=QR k (aF p h (uniQ N i) (dirV N K i))∧∃ r,nodesQ p h (uniQ N i) (dirV N K i)=.inr r
theorem Qio{n k:Nat}{p:Qf}{h:Qs}(hn:big≤n)(h0:129≤k)(hk:k<8000)(hw:PrbW k p)(hl:h.Ao.length≤1000)(ht:∀ t∈h.Ao,FT k t)(hT:Fk k h.T)(hY:FR k h.Y)(hyl:h.Y.length≤200)(hpl:p.P.length≤200):
 ∃ r,Qcu n p h=some r∧((r.2.2.Aq≠0∧r.1=[]∧r.2.1=[]) ∨
   (r.2.2=⟨0,0,0,0⟩∧AlR p h∧(∀ i,i<h.Y.length+p.P.length->okA p h k h.Y.length p.P.length i) ∧
     r.1=toRR (colQ ((List.range h.Y.length).map λj=>aF p h (uniQ h.Y.length j) (zerQ p.P.length)) h.Y.length)∧r.2.1=toRR (colQ ((List.range p.P.length).map λj=>aF p h (zerQ h.Y.length) (uniQ p.P.length j)) h.Y.length))):=by
 unfold Qcu;have hr:Qby n p h=some (dP (AlR p h)):=by
  have hle:=Qlc h.Ao;unfold Qby
  simp only[jn_eq];rw[Qif hn h0 hk hw,Qle hn (by omega) (by omega) (by omega) ht hT hY (by omega)];by_cases c1:prbR p
  case neg=>rw[sbind,dP_f c1,dP_f (λg:AlR p h=>c1 g.1)];rfl
  by_cases c2:Qld h
  case neg=>rw[sbind,dP_t c1,bifT,sbind,dP_f c2,dP_f (λg:AlR p h=>c2 g.2.1)];rfl
  by_cases c3:(h.Y.length:Int)=p.Tape.Au
  case neg=>rw[sbind,dP_t c1,bifT,sbind,dP_t c2,bifT,decide_eq_false c3,dP_f (λg:AlR p h=>c3 g.2.2)]
  rw[sbind,dP_t c1,bifT,sbind,dP_t c2,bifT,decide_eq_true c3,dP_t (show AlR p h from⟨c1,c2,c3⟩)]
 rw[hr,sbind];by_cases hA:AlR p h
 case neg=>
  rw[dP_f hA,Bool.not_false,bifT];exact⟨_,rfl,.inl ⟨by show(2:Int)≠0;decide,rfl,rfl⟩⟩
 rw[dP_t hA,Bool.not_true,bifF,w64 (x:=(h.Y.length:Int)+(p.P.length:Int)) (by omega) (by omega)]
 have one:∀ i:Nat,i<h.Y.length+p.P.length->∃ r,((Ve n (h.Y.length:Int) (i:Int)).bind λr25=>(Ve n (p.P.length:Int) (wrap64 ((i:Int) - (h.Y.length:Int)))).bind λr27=>W8 n p h r25 r27)=some r ∧
  (r.2.Aq≠0∨(r.2=⟨0,0,0,0⟩∧r.1=toR (aF p h (uniQ h.Y.length i) (dirV h.Y.length p.P.length i))∧okA p h k h.Y.length p.P.length i)):=by
  intro i hi;rw[Qdj hn (by omega),sbind,if_pos (by omega),Int.toNat_natCast,w64 (by omega) (by omega),Qdj hn (by omega),sbind];have e:(if 0≤(i:Int) - (h.Y.length:Int) then uniQ p.P.length ((i:Int) - (h.Y.length:Int)).toNat else zerQ p.P.length)=dirV h.Y.length p.P.length i:=by
   unfold dirV;by_cases c:h.Y.length≤i
   . rw[if_pos (by omega),if_pos c];congr 1;omega
   . rw[if_neg (by omega),if_neg c]
  rw[e];obtain⟨d1,x1,z1⟩:=Qh4 (n:=n) (p:=p) (h:=h) (u:=toR (uniQ h.Y.length i)) (v:=toR (dirV h.Y.length p.P.length i)) hn h0 hk hw hl ht hT hY (by omega) (Js Qli h0) (by rw[Q2,Qbd];omega) (Js Jc1 h0);refine⟨_,d1,?_⟩;rw[Kw,Kw] at x1 z1 ⊢;cases hs:nodesQ p h (uniQ h.Y.length i) (dirV h.Y.length p.P.length i) with
  | inl f=>exact .inl (x1 f hs)
  | inr w=>
    obtain⟨_,g⟩:=Qnq hs;obtain⟨q1,_⟩:=z1 w hs;rw[g] at q1;exact .inr ⟨rfl,by show toR (w.getLastD _)=_;rw[g],q1,w,hs⟩
 generalize hN:h.Y.length=N at *;generalize hK:p.P.length=K at *
 let body:(List (List Qa))×Int->Option (Lp ((List (List Qa))×Int) (Lp (List (List Qa)) ((List (List Qa))×(List (List Qa))×Qc))):=λs24=>
  bif decide (s24.2<((N:Int)+(K:Int))) then
   (Ve n (N:Int) s24.2).bind λr25=>
    (Ve n (K:Int) (wrap64 (s24.2 - (N:Int)))).bind λr27=>
    (W8 n p h r25 r27).bind λr29=>
    bif !(Qo r29.2 (⟨0,0,0,0⟩:Qc)) then (
     some (Lp.out (Lp.out ((([]:List (List Qa)),([]:List (List Qa)),r29.2)))))
    else (
     (appM 24 s24.1 ([r29.1]:List (List Qa))).bind λy31=>
     some (Lp.go (y31,wrap64 (s24.2+(1:Int)))))
  else some (Lp.out (Lp.go s24.1))
 have hbody:∀ i:Nat,i<N+K->(∃ f:Qc,f.Aq≠0∧body (toRR (asM p h N K i),(i:Int))=some (.out (.out ([],[],f)))) ∨
  (okA p h k N K i∧body (toRR (asM p h N K i),(i:Int))=some (.go (toRR (asM p h N K (i+1)),((i+1:Nat):Int)))):=by
  intro i hi;obtain⟨r,e1,e2⟩:=one i hi
  have e3:body (toRR (asM p h N K i),(i:Int))=(((Ve n (N:Int) (i:Int)).bind λr25=>(Ve n (K:Int) (wrap64 ((i:Int) - (N:Int)))).bind λr27=>W8 n p h r25 r27).bind λr29=>
   bif !(Qo r29.2 (⟨0,0,0,0⟩:Qc)) then (
    some (Lp.out (Lp.out ((([]:List (List Qa)),([]:List (List Qa)),r29.2)))))
   else (
    (appM 24 (toRR (asM p h N K i)) ([r29.1]:List (List Qa))).bind λy31=>
    some (Lp.go (y31,wrap64 ((i:Int)+(1:Int)))))):=by
   show(bif decide ((i:Int)<((N:Int)+(K:Int))) then _ else _)=_;rw[decide_eq_true (by omega),bifT];rw[Option.bind_assoc];congr 1;funext r25;rw[Option.bind_assoc]
  rw[e3,e1,sbind];rcases e2 with hk0 | ⟨hf,hx,hq⟩
  . left
    obtain⟨r1,k1,a,b,c⟩:=r;refine⟨⟨k1,a,b,c⟩,hk0,?_⟩;simp only[];rw[Jw hk0,Bool.not_false,bifT]
  . right
    refine⟨hq,?_⟩;have hl1:(toRR (asM p h N K i)).length=i:=by rw[Vs,Q58]
    rw[hf,J2,Bool.not_true,bifF,hx,w1 (by omega),Km (by simp only[hl1,List.length_singleton];omega) (by simp only[hl1,List.length_singleton];omega),sbind,Jbd];unfold toRR;rw[List.map_append];rfl
 have loop:∀(d i m:Nat),i+d=N+K->d<m->(∀ j,j<i->okA p h k N K j) →
  (∃ f:Qc,f.Aq≠0∧loopM body m (toRR (asM p h N K i),(i:Int))=some (.out ([],[],f))) ∨
  ((∀ j,j<N+K->okA p h k N K j)∧loopM body m (toRR (asM p h N K i),(i:Int))=some (.go (toRR (asM p h N K (N+K))))):=by
  intro d
  induction d with
  | zero=>
    intro i m hi hm hj;right;have:i=N+K:=by omega
    subst this;refine⟨hj,?_⟩;refine Yh ?_ hm;show(bif decide (((N+K:Nat):Int)<((N:Int)+(K:Int))) then _ else _)=_;rw[decide_eq_false (by omega),bifF]
  | succ d ih=>
    intro i m hi hm hj;cases m with
    | zero=>omega
    | succ m=>
      rcases hbody i (by omega) with ⟨f,hf,e⟩ | ⟨hz,e⟩
      . exact .inl ⟨f,hf,Yh e (by omega)⟩
      . rw[Qfu e]
        exact ih (i+1) m (by omega) (by omega) λj hj2=>by
         by_cases c:j<i
         . exact hj j c
         . have:j=i:=by omega
           subst this;exact hz
 have hlp:=loop (N+K) 0 n (by omega) (by unfold big at hn;omega) (λj hj=>absurd hj (Nat.not_lt_zero _));rw[show toRR (asM p h N K 0)=[] by simp[asM,toRR],show(((0:Nat)):Int)=(0:Int) from rfl] at hlp;change ∃ r,((loopM body n ([],(0:Int))).bind _)=some r∧_;rcases hlp with ⟨f,hf,e⟩ | ⟨hz,e⟩
 . rw[e,sbind,Qft]
   exact⟨_,rfl,.inl ⟨hf,rfl,rfl⟩⟩
 . rw[e,sbind,Wr]
   have hl0:(toRR (asM p h N K (N+K))).length=N+K:=by rw[Vs,Q58]
   have hm:p.Tape.Ar.length=N:=by have h1:=hA.1.1.1;have:=h1.2.2.1;have:=hA.2.2;omega
   have t1:(toRR (asM p h N K (N+K))).take N=toRR ((List.range N).map λj=>aF p h (uniQ N j) (zerQ K)):=by rw[←Jbe];unfold toRR;rw[List.map_take]
   have t2:(toRR (asM p h N K (N+K))).drop N=toRR ((List.range K).map λj=>aF p h (zerQ N) (uniQ K j)):=by rw[←Jbf];unfold toRR;rw[List.map_drop]
   have l1:∀ c∈(List.range N).map λj=>aF p h (uniQ N j) (zerQ K),c.length=N:=λc hc=>by obtain⟨j,_,rfl⟩:=List.mem_map.1 hc;unfold aF;rw[Qnp (by rw[Qbd];exact hm),Qbd]
   have l2:∀ c∈(List.range K).map λj=>aF p h (zerQ N) (uniQ K j),c.length=N:=λc hc=>by obtain⟨j,_,rfl⟩:=List.mem_map.1 hc;unfold aF;rw[Qnp (by rw[Yv];exact hm),Yv]
   rw[Qwl (by omega),sbind,t1,Qyp l1 (by omega) (by simp;omega),sbind,hl0,show((N+K:Nat):Int)=((N+K:Nat):Int) from rfl,Qzr (by omega) (by omega),sbind,List.take_of_length_le (by omega),t2,Qyp l2 (by omega) (by simp;omega),sbind];exact⟨_,rfl,.inr ⟨rfl,hA,hz,rfl,rfl⟩⟩
end Go.Proofs.YtkkfedionkhgnaaGreatDoor
