import Derived.KernelRfl
import Derived.Test.YtlfphifbmoccgaaGreatDoorMod
import Derived.Test.YtlfphifbmoccgaaGreatDoorP1
namespace Go.Proofs.YtlfphifbmoccgaaGreatDoor
open Go Go.RowKit
theorem Qvn{lim:Int}:∀ {l:List Rat}{i j:Nat},fitQ lim l i=some j->j<i+l.length
 | [],i,j,h=>by simp[fitQ] at h
 | q::l,i,j,h=>by simp only[fitQ] at h;split at h;have:=Qvn h;simp;omega;cases h;simp
structure MadeQ where
 ys:List (List Rat)
 ks:List (List Rat)
 next:List Rat
 err:List Rat
def towQ(H:Rat)(m:Nat)(c:List Rat)(kss:List (List Rat)):List Rat:=scaleQ H (mixQ c kss (List.replicate m 0))
def fromQ(H:Rat)(Y c:List Rat)(kss:List (List Rat)):List Rat:=addQ Y (towQ H Y.length c kss)
def stageQ(t:Qm)(lim:Int)(T H:Rat)(Y P:List Rat)(a:List Rat)(c:Rat)(i:Nat)(kss:List (List Rat)):Qd ⊕ (List Rat×List Rat):=
 match fitQ lim (fromQ H Y a kss) 0 with
 | some j=>.inl ⟨6,0,(i:Int),300+(j:Int)⟩
 | none=>match fieldQ t lim (T+H*c) (fromQ H Y a kss) P with
   | .inl e=>.inl ⟨e.1,0,(i:Int),(e.2:Int)⟩
   | .inr k=>.inr (fromQ H Y a kss,k)
def stagesQ(t:Qm)(lim:Int)(T H:Rat)(Y P:List Rat):List (List Rat×Rat)->Nat->List (List Rat)->List (List Rat)->Qd ⊕ (List (List Rat)×List (List Rat))
 | [],_,yss,kss=>.inr (yss,kss)
 | x::r,i,yss,kss=>match stageQ t lim T H Y P x.1 x.2 i kss with
   | .inl f=>.inl f
   | .inr z=>stagesQ t lim T H Y P r (i+1) (yss++[z.1]) (kss++[z.2])
def endQ(s:Qt)(lim:Int)(H:Rat)(Y:List Rat)(yss kss:List (List Rat)):Qd ⊕ MadeQ:=
 match fitQ lim (fromQ H Y (rv s.B) kss) 0 with
 | some j=>.inl ⟨6,0,(s.B.length:Int),300+(j:Int)⟩
 | none=>match fitQ lim (if gapQ s=[] then [] else towQ H Y.length (gapQ s) kss) 0 with
   | some j=>.inl ⟨6,0,(s.B.length:Int)+1,300+(j:Int)⟩
   | none=>.inr ⟨yss,kss,fromQ H Y (rv s.B) kss,if gapQ s=[] then [] else towQ H Y.length (gapQ s) kss⟩
def doQ(t:Qm)(s:Qt)(lim:Int)(T H:Rat)(Y P:List Rat):Qd ⊕ MadeQ:=
 match stagesQ t lim T H Y P (List.zip (s.A.map rv) (rv s.C)) 0 [] [] with
 | .inl f=>.inl f
 | .inr z=>endQ s lim H Y z.1 z.2
def toRR(l:List (List Rat)):List (List Qa):=l.map toR
theorem Qc0(l:List (List Rat)):(toRR l).length=l.length:=by unfold toRR;simp
theorem Q5z(l:List (List Rat)):(toRR l).map rv=l:=by
 unfold toRR;rw[List.map_map]
 conv=>rhs;rw[←List.map_id l]
 exact List.map_congr_left λq _=>Ky q
theorem Qsv{l:List (List Rat)}{P:List Qa->Prop}(h:∀ a∈l,P (toR a)):∀ a∈toRR l,P a:=λa ha=>by obtain⟨q,hq,rfl⟩:=List.mem_map.1 ha;exact h q hq
theorem Qry(m:Nat):QR 1 (List.replicate m 0):=λq hq=>by rw[(List.mem_replicate.1 hq).2,Z1];exact Nat.le_refl _
theorem Qrz{k m:Nat}{H:Rat}{c:List Rat}{kss:List (List Rat)}(hH:qw H≤k)(hc:QR k c)(hk:∀ a∈kss,QR 129 a)(hl:kss.length≤8)(h0:129≤k):QR (20*k) (towQ H m c kss):=by have h2:=Qrv (z:=List.replicate m 0) hc hk (Qry m);have h3:kss.length*(k+129+1)≤8*(k+129+1):=Nat.mul_le_mul_right _ hl;exact Jo (Qgy hH h2) (by omega)
theorem Qsw{k:Nat}{H:Rat}{Y c:List Rat}{kss:List (List Rat)}(hY:QR k Y)(hH:qw H≤k)(hc:QR k c)(hk:∀ a∈kss,QR 129 a)(hl:kss.length≤8)(h0:129≤k):QR (22*k) (fromQ H Y c kss):=
 Jo (Qjw hY (Qrz hH hc hk hl h0)) (by omega)
theorem Qmn{m:Nat}{H:Rat}{c:List Rat}{kss:List (List Rat)}(hk:∀ a∈kss,a.length=m):(towQ H m c kss).length=m:=by unfold towQ;rw[X6];exact Qfj hk (by simp)
theorem Qg0{H:Rat}{Y c:List Rat}{kss:List (List Rat)}(hk:∀ a∈kss,a.length=Y.length):(fromQ H Y c kss).length=Y.length:=by unfold fromQ;rw[Qcy,Qmn hk,Nat.min_self]
section
variable {n k:Nat}{p:Qh}{t h:Qa}{y:List Qa}{g:Qj}{ys ks:List (List Qa)}{nx er:List Qa}
theorem Qwm{c:List Qa}{kss:List (List Rat)}(hn:big≤n)(h0:129≤k)(hk:k<16384)(hh:Fk k h)(hc:FR k c)(hkq:∀ a∈kss,QR 129 a)(hl:kss.length≤8)(hcl:c.length=kss.length)(hkl:∀ a∈kss,a.length=y.length)(hy:y.length≤6):
 Wk n p t h y g ys (toRR kss) nx er c=some (toR (towQ (fv h) y.length (rv c) kss)):=by
 unfold Wk;rw[Qpe,Qux (j:=k) (k:=129) hn (by omega) (by omega) (by omega) (by omega) hc (Qsv λa ha=>Kl (hkq a ha)) (by omega) (by rw[Qc0];omega),sbind,if_pos ⟨by rw[Qc0,hcl],Qsv λa ha=>by rw[Q7];exact hkl a ha⟩];rw[Q5z];have hm:=Qrv (z:=List.replicate y.length 0) (QR_rv hc (by omega)) hkq (Qry y.length);have h3:kss.length*(k+129+1)≤8*(k+129+1):=Nat.mul_le_mul_right _ hl;have hml:=Qfj (cs:=rv c) hkl (show(List.replicate y.length (0:Rat)).length=y.length by simp);rw[Qao (k:=20*k) hn (by omega) (by omega) (Vg hh (by omega)) (Kl (Jo hm (by omega))) (by rw[Q7,hml];omega),sbind,Ky];rfl
theorem Q1d{c:List Qa}{kss:List (List Rat)}(hn:big≤n)(h0:129≤k)(hk:k<16384)(hh:Fk k h)(hyk:FR k y)(hc:FR k c)(hkq:∀ a∈kss,QR 129 a)(hl:kss.length≤8)(hcl:c.length=kss.length)(hkl:∀ a∈kss,a.length=y.length)(hy:y.length≤6):
 Y9 n p t h y g ys (toRR kss) nx er c=some (toR (fromQ (fv h) (rv y) (rv c) kss)):=by
 unfold Y9;have hb:=Qrz (m:=y.length) (qw_fv hh (by omega)) (QR_rv hc (by omega)) hkq hl h0;have htl:=Qmn (H:=fv h) (c:=rv c) hkl;rw[Qwm hn h0 hk hh hc hkq hl hcl hkl hy,sbind,Qcq (k:=20*k) hn (by omega) (by omega) (J6 hyk (by omega)) (Kl hb) (by omega),sbind,Q7,htl,if_pos rfl,Ky];unfold fromQ;rw[Jb]
theorem Qu0{l:List Rat}{x2:Int}(hn:big≤n)(hl:QR 1099511627775 l)(hll:l.length≤1000):
 ∃ g',g'.limit=g.limit∧W8 n p t h y g ys ks nx er (toR l) x2=some (match fitQ g.limit l 0 with | none=>(⟨0,0,0,0⟩,g') | some j=>(⟨6,0,x2,300+(j:Int)⟩,g')):=by
 obtain⟨g',h1,h2⟩:=Qsu (g:=g) hn hl;refine⟨g',h1,?_⟩;unfold W8;rw[h2,sbind];cases hf:fitQ g.limit l 0 with
 | none=>rfl
 | some j=>
   have:=Qvn hf;simp only[Bool.not_false,bifT];rw[w64 (by omega) (by omega)]
structure PrbOK(n k:Nat)(p:Qh)(t h:Qa)(y:List Qa):Prop where
 tp:Quz n k p.Tape
 sw:SchW k p.Scheme
 sr:schR p.Scheme
 pk:FR k p.P
 pl:(p.P.length:Int)=p.Tape.Par
 tk:Fk k t
 hk:Fk k h
 yk:FR k y
 yl:(y.length:Int)=p.Tape.Dim
def limQ(bits:Int):Int:=min (max bits 0) 4096
theorem Qq7{i:Nat}{c:Qa}(hn:big≤n)(h0:129≤k)(hk:k<16384)(ht:Fk k t)(hh:Fk k h)(hck:Fk k c)(hc:p.Scheme.C[i]?=some c):Qcu n p t h (i:Int)=some (toF (fv t+fv h*fv c)):=by have hi:=Ve hc;have hmul:=Yx (qw_fv hh (by omega)) (qw_fv hck (by omega));unfold Qcu;simp only[jn_eq];rw[decide_eq_false (show ¬(i:Int)<0 by omega),bifF,decide_eq_false (show ¬(p.Scheme.C.length:Int)≤(i:Int) by omega),bifF,Kq hc,sbind,Wj hn (by omega) (by omega) hh hck,sbind,Vw (k:=4*k) hn (by omega) (by omega) (Vg ht (by omega)) (Jp (by omega)),sbind,Q5]
theorem Q66{i:Nat}{a:List Qa}{c:Qa}{kss:List (List Rat)}(hn:big≤n)(h0:129≤k)(hk:k<16384)(ok:PrbOK n k p t h y)(hg:g.limit=limQ p.Bits)
 (ha:p.Scheme.A[i]?=some a) (hc:p.Scheme.C[i]?=some c) (hys:ys.length≤8) (hkq:∀ a∈kss,QR 129 a) (hki:kss.length=i) (hkl:∀ a∈kss,a.length=y.length) :
 ∃ g',g'.limit=g.limit∧∃ r,Yo n p t h y g ys (toRR kss) nx er (i:Int)=some r ∧
   match stageQ p.Tape (limQ p.Bits) (fv t) (fv h) (rv y) (rv p.P) (rv a) (fv c) i kss with
   | .inl f=>r.1=f∧f.Kind≠0
   | .inr z=>r=(⟨0,0,0,0⟩,p,t,h,y,nx,er,g',ys++[toR z.1],toRR (kss++[z.2]))∧QR 129 z.2∧z.2.length=y.length:=by
 obtain⟨⟨d1,d2⟩,⟨d3,d4⟩,d5,d6⟩:=ok.tp.r.1;obtain⟨⟨g1,g2⟩,g3,g4,g5,g6⟩:=ok.sr.2.1;have hi:=Ve ha;have hyl:=ok.yl;have hak:=ok.sw.a a (Jt ha);have hck:=ok.sw.c c (Jt hc);have hal:=g6 i a ha;have hb:=Qsw (QR_rv ok.yk (by omega)) (qw_fv ok.hk (by omega)) (QR_rv hak (by omega)) hkq (by omega) h0;have hfl:=Qg0 (H:=fv h) (Y:=rv y) (c:=rv a) (kss:=kss) (by rw[Jb];exact hkl);rw[Jb] at hfl;unfold Yo;rw[Kq ha,sbind,Q1d hn h0 hk ok.hk ok.yk hak hkq (by omega) (by omega) hkl (by omega),sbind];obtain⟨g',e1,e2⟩:=Qu0 (p:=p) (t:=t) (h:=h) (y:=y) (g:=g) (ys:=ys) (ks:=toRR kss) (nx:=nx) (er:=er) (x2:=(i:Int)) hn (Jo hb (show 22*k≤1099511627775 by omega)) (by omega);refine⟨g',e1,?_⟩;rw[e2,sbind,hg];unfold stageQ;cases hf:fitQ (limQ p.Bits) (fromQ (fv h) (rv y) (rv a) kss) 0 with
 | some j=>
   simp only[];rw[Kv (by decide),Bool.not_false,bifT];exact⟨_,rfl,rfl,by decide⟩
 | none=>
   simp only[];rw[Ku,Bool.not_true,bifF];unfold Qp6;have hmul:=Yx (qw_fv ok.hk (by omega)) (qw_fv hck (by omega));have hadd:=Qae (qw_fv ok.tk (by omega)) hmul;rw[Qq7 hn h0 hk ok.tk ok.hk hck hc,sbind,sbind];have hF:=Qz9 (k:=22*k) (t:=p.Tape) (p:=⟨toF (fv t+fv h*fv c),toR (fromQ (fv h) (rv y) (rv a) kss),p.P⟩) (bits:=p.Bits) hn (by omega) (by omega) ⟨ok.tp.r,ok.tp.h,λx hx=>Vg (ok.tp.w x hx) (by omega)⟩ (Jp (by omega)) (Kl hb) (J6 ok.pk (by omega)) (by simp only[Q7,hfl];exact hyl) ok.pl;rw[hF,sbind];simp only[];rw[Q5,Ky];have hlim:limQ p.Bits=min (max p.Bits 0) 4096:=rfl;rw[hlim];cases hq:fieldQ p.Tape (min (max p.Bits 0) 4096) (fv t+fv h*fv c) (fromQ (fv h) (rv y) (rv a) kss) (rv p.P) with
   | inl e=>
     have hkd:=Qwl hq;simp only[];rw[Kv (by omega),Bool.not_false,bifT];exact⟨_,rfl,rfl,by show e.1≠0;omega⟩
   | inr l=>
     obtain⟨q1,q2⟩:=Q1b (by omega) hq;simp only[];rw[Ku,Bool.not_true,bifF,Wr (by simp;omega) (by simp;omega),sbind,Wr (by rw[Qc0];simp;omega) (by rw[Qc0];simp;omega),sbind];refine⟨_,rfl,?_,q2,by omega⟩;unfold toRR;rw[List.map_append];rfl
end
section
variable {n k:Nat}{p:Qh}{t h:Qa}{y:List Qa}
def pairQ(s:Qt):List (List Rat×Rat):=List.zip (s.A.map rv) (rv s.C)
theorem Q80{s:Qt}{i:Nat}{a:List Qa}{c:Qa}(ha:s.A[i]?=some a)(hc:s.C[i]?=some c):(pairQ s).drop i=(rv a,fv c)::(pairQ s).drop (i+1):=by
 have h1:(pairQ s)[i]?=some (rv a,fv c):=by unfold pairQ rv;rw[List.getElem?_zip_eq_some];simp only[List.getElem?_map];exact⟨by rw[ha];rfl,by rw[hc];rfl⟩
 have hi:=Ve h1;rw[List.drop_eq_getElem_cons hi];congr 1;rw[List.getElem?_eq_getElem hi] at h1;exact Option.some.inj h1
theorem Jai{g:Qj}(hn:big≤n)(h0:129≤k)(hk:k<8000)(ok:PrbOK n k p t h y)(hg:g.limit=limQ p.Bits):
 ∃ r,Qb7 n p t h y g [] [] [] []=some r ∧
   match doQ p.Tape p.Scheme (limQ p.Bits) (fv t) (fv h) (rv y) (rv p.P) with
   | .inl f=>r.1=f∧f.Kind≠0
   | .inr z=>∃ g',r=(⟨0,0,0,0⟩,p,t,h,y,toR z.next,toR z.err,g',toRR z.ys,toRR z.ks)∧z.ys.length=p.Scheme.B.length∧z.ks.length=p.Scheme.B.length:=by
 obtain⟨⟨d1,d2⟩,⟨d3,d4⟩,d5,d6⟩:=ok.tp.r.1;obtain⟨⟨g1,g2⟩,g3,g4,g5,g6⟩:=ok.sr.2.1;have hyl:=ok.yl;unfold Qb7
 have key:∀(bs:List Qa) (i:Nat) (g:Qj) (yss kss:List (List Rat)) (K:(Qh×Qa×Qa×(List Qa)×Qj×(List (List Qa))×(List (List Qa))×(List Qa)×(List Qa))->Option (Qd×Qh×Qa×Qa×(List Qa)×(List Qa)×(List Qa)×Qj×(List (List Qa))×(List (List Qa)))),
  i+bs.length=p.Scheme.B.length->yss.length=i->kss.length=i->(∀ a∈kss,QR 129 a)->(∀ a∈kss,a.length=y.length)->g.limit=limQ p.Bits →
  match stagesQ p.Tape (limQ p.Bits) (fv t) (fv h) (rv y) (rv p.P) ((pairQ p.Scheme).drop i) i yss kss with
  | .inl f=>∃ r,(rangeL (λ(i15:Nat) (_:Qa) (s14:Qh×Qa×Qa×(List Qa)×Qj×(List (List Qa))×(List (List Qa))×(List Qa)×(List Qa))=>
  (Yo n s14.1 s14.2.1 s14.2.2.1 s14.2.2.2.1 s14.2.2.2.2.1 s14.2.2.2.2.2.1 s14.2.2.2.2.2.2.1 s14.2.2.2.2.2.2.2.1 s14.2.2.2.2.2.2.2.2 (i15:Int)).bind λr18=>
  bif !(Qo r18.1 (⟨0,0,0,0⟩:Qd)) then (
   some (Lp.out ((r18.1,r18.2.1,r18.2.2.1,r18.2.2.2.1,r18.2.2.2.2.1,r18.2.2.2.2.2.1,r18.2.2.2.2.2.2.1,r18.2.2.2.2.2.2.2.1,r18.2.2.2.2.2.2.2.2.1,r18.2.2.2.2.2.2.2.2.2))))
  else (
   some (Lp.go (r18.2.1,r18.2.2.1,r18.2.2.2.1,r18.2.2.2.2.1,r18.2.2.2.2.2.2.2.1,r18.2.2.2.2.2.2.2.2.1,r18.2.2.2.2.2.2.2.2.2,r18.2.2.2.2.2.1,r18.2.2.2.2.2.2.1)))) bs i (p,t,h,y,g,toRR yss,toRR kss,[],[])).bind (lpK K)=some r∧r.1=f∧f.Kind≠0
   | .inr z=>∃ g',g'.limit=limQ p.Bits∧(rangeL (λ(i15:Nat) (_:Qa) (s14:Qh×Qa×Qa×(List Qa)×Qj×(List (List Qa))×(List (List Qa))×(List Qa)×(List Qa))=>
  (Yo n s14.1 s14.2.1 s14.2.2.1 s14.2.2.2.1 s14.2.2.2.2.1 s14.2.2.2.2.2.1 s14.2.2.2.2.2.2.1 s14.2.2.2.2.2.2.2.1 s14.2.2.2.2.2.2.2.2 (i15:Int)).bind λr18=>
  bif !(Qo r18.1 (⟨0,0,0,0⟩:Qd)) then (
   some (Lp.out ((r18.1,r18.2.1,r18.2.2.1,r18.2.2.2.1,r18.2.2.2.2.1,r18.2.2.2.2.2.1,r18.2.2.2.2.2.2.1,r18.2.2.2.2.2.2.2.1,r18.2.2.2.2.2.2.2.2.1,r18.2.2.2.2.2.2.2.2.2))))
  else (
   some (Lp.go (r18.2.1,r18.2.2.1,r18.2.2.2.1,r18.2.2.2.2.1,r18.2.2.2.2.2.2.2.1,r18.2.2.2.2.2.2.2.2.1,r18.2.2.2.2.2.2.2.2.2,r18.2.2.2.2.2.1,r18.2.2.2.2.2.2.1)))) bs i (p,t,h,y,g,toRR yss,toRR kss,[],[])).bind (lpK K)=K (p,t,h,y,g',toRR z.1,toRR z.2,[],[])∧z.1.length=p.Scheme.B.length∧z.2.length=p.Scheme.B.length∧(∀ a∈z.2,QR 129 a)∧∀ a∈z.2,a.length=y.length:=by
  intro bs
  induction bs with
  | nil=>
    intro i g yss kss K hi hy1 hk1 hq hl hg;have he:(pairQ p.Scheme).drop i=[]:=by apply List.drop_eq_nil_of_le;unfold pairQ;simp only[List.length_nil,Nat.add_zero] at hi;rw[List.length_zip,Jb,List.length_map];omega
    rw[he];simp only[stagesQ];simp only[List.length_nil,Nat.add_zero] at hi;exact⟨g,hg,rfl,by omega,by omega,hq,hl⟩
  | cons b bs ih=>
    intro i g yss kss K hi hy1 hk1 hq hl hg;rw[List.length_cons] at hi;have ha:p.Scheme.A[i]?=some (p.Scheme.A[i]'(by omega)):=List.getElem?_eq_getElem (by omega);have hc:p.Scheme.C[i]?=some (p.Scheme.C[i]'(by omega)):=List.getElem?_eq_getElem (by omega);rw[Q80 ha hc];generalize p.Scheme.A[i]'(by omega)=a at ha;generalize p.Scheme.C[i]'(by omega)=c at hc;simp only[stagesQ,rangeL];obtain⟨g',e1,r,e2,e3⟩:=Q66 (g:=g) (ys:=toRR yss) (nx:=[]) (er:=[]) hn h0 (by omega) ok hg ha hc (by rw[Qc0];omega) hq hk1 hl;rw[e2,sbind];cases hs:stageQ p.Tape (limQ p.Bits) (fv t) (fv h) (rv y) (rv p.P) (rv a) (fv c) i kss with
    | inl f=>
      rw[hs] at e3;obtain⟨e4,e5⟩:=e3;obtain⟨⟨f1,f2,f3,f4⟩,r⟩:=r;simp only[] at e4;subst e4;simp only[];rw[Kv e5,Bool.not_false,bifT,sbind];exact⟨_,rfl,rfl,e5⟩
    | inr z=>
      rw[hs] at e3;obtain⟨e4,e5,e6⟩:=e3;subst e4;simp only[];rw[Ku,Bool.not_true,bifF,sbind]
      have:=ih (i+1) g' (yss++[z.1]) (kss++[z.2]) K (by omega) (by simp;omega) (by simp;omega) (λa ha=>by
       rcases List.mem_append.1 ha with ha | ha
       . exact hq a ha
       . rw[List.mem_singleton.1 ha];exact e5) (λa ha=>by
       rcases List.mem_append.1 ha with ha | ha
       . exact hl a ha
       . rw[List.mem_singleton.1 ha];exact e6) (by omega)
      have e7:toRR yss++[toR z.1]=toRR (yss++[z.1]):=by unfold toRR;rw[List.map_append];rfl
      rw[e7];exact this
 generalize hK:(λ(s20:Qh×Qa×Qa×(List Qa)×Qj×(List (List Qa))×(List (List Qa))×(List Qa)×(List Qa))=>
  (Y9 n s20.1 s20.2.1 s20.2.2.1 s20.2.2.2.1 s20.2.2.2.2.1 s20.2.2.2.2.2.1 s20.2.2.2.2.2.2.1 s20.2.2.2.2.2.2.2.1 s20.2.2.2.2.2.2.2.2 p.Scheme.B).bind λr21=>
 (W8 n s20.1 s20.2.1 s20.2.2.1 s20.2.2.2.1 s20.2.2.2.2.1 s20.2.2.2.2.2.1 s20.2.2.2.2.2.2.1 r21 s20.2.2.2.2.2.2.2.2 r21 (p.Scheme.B.length:Int)).bind λr23=>
 bif !(Qo r23.1 (⟨0,0,0,0⟩:Qd)) then (
  some (r23.1,s20.1,s20.2.1,s20.2.2.1,s20.2.2.2.1,r21,s20.2.2.2.2.2.2.2.2,r23.2,s20.2.2.2.2.2.1,s20.2.2.2.2.2.2.1))
 else (
  jn (λ(j29:((List Qa))->Option _)=>
   (Qcp n p.Scheme).bind λr32=>
   bif decide ((0:Int)<(r32.length:Int)) then (
    (Wk n s20.1 s20.2.1 s20.2.2.1 s20.2.2.2.1 r23.2 s20.2.2.2.2.2.1 s20.2.2.2.2.2.2.1 r21 s20.2.2.2.2.2.2.2.2 r32).bind λr34=>
    j29 r34)
   else (
    j29 s20.2.2.2.2.2.2.2.2)) (λ(s31:(List Qa))=>
   (W8 n s20.1 s20.2.1 s20.2.2.1 s20.2.2.2.1 r23.2 s20.2.2.2.2.2.1 s20.2.2.2.2.2.2.1 r21 s31 s31 (wrap64 ((p.Scheme.B.length:Int)+(1:Int)))).bind λr36=>
   some (r36.1,s20.1,s20.2.1,s20.2.2.1,s20.2.2.2.1,r21,s31,r36.2,s20.2.2.2.2.2.1,s20.2.2.2.2.2.2.1))))=K
 have h1:=key p.Scheme.B 0 g [] [] K (by omega) rfl rfl (λ_ h=>by cases h) (λ_ h=>by cases h) hg;unfold doQ;rw[List.drop_zero] at h1;unfold pairQ at h1;cases hs:stagesQ p.Tape (limQ p.Bits) (fv t) (fv h) (rv y) (rv p.P) (List.zip (p.Scheme.A.map rv) (rv p.Scheme.C)) 0 [] [] with
 | inl f=>
   rw[hs] at h1;exact h1
 | inr z=>
   rw[hs] at h1;obtain⟨g',q1,q2,q3,q4,q5,q6⟩:=h1;obtain⟨yss,kss⟩:=z;simp only[] at q2 q3 q4 q5 q6 ⊢;have e0:toRR []=[]:=rfl;rw[e0] at q2;rw[q2,←hK];simp only[];have hbB:=Qsw (QR_rv ok.yk (by omega)) (qw_fv ok.hk (by omega)) (QR_rv ok.sw.b (by omega)) q5 (by omega) h0;have hlB:=Qg0 (H:=fv h) (Y:=rv y) (c:=rv p.Scheme.B) (kss:=kss) (by rw[Jb];exact q6);rw[Jb] at hlB;have hgq:=Q8z (k:=k) (s:=p.Scheme) (by omega) ok.sw;rw[Q1d hn h0 (by omega) ok.hk ok.yk ok.sw.b q5 (by omega) (by omega) q6 (by omega),sbind];obtain⟨g2',e1,e2⟩:=Qu0 (p:=p) (t:=t) (h:=h) (y:=y) (g:=g') (ys:=toRR yss) (ks:=toRR kss) (nx:=toR (fromQ (fv h) (rv y) (rv p.Scheme.B) kss)) (er:=[]) (x2:=(p.Scheme.B.length:Int)) hn (Jo hbB (show 22*k≤1099511627775 by omega)) (by omega);rw[e2,sbind,q1];unfold endQ;cases hf:fitQ (limQ p.Bits) (fromQ (fv h) (rv y) (rv p.Scheme.B) kss) 0 with
   | some j=>
     simp only[];rw[Kv (by decide),Bool.not_false,bifT];exact⟨_,rfl,rfl,by decide⟩
   | none=>
     simp only[];rw[Ku,Bool.not_true,bifF,jn_eq,Qqk hn (by omega) (by omega) ok.sw ok.sr,sbind,Q7];have hE:((Wk n p t h y g2' (toRR yss) (toRR kss) (toR (fromQ (fv h) (rv y) (rv p.Scheme.B) kss)) [] (toR (gapQ p.Scheme)))=some (toR (towQ (fv h) y.length (gapQ p.Scheme) kss))∨gapQ p.Scheme=[])∧QR (41*k+1000) (if gapQ p.Scheme=[] then [] else towQ (fv h) y.length (gapQ p.Scheme) kss)∧(if gapQ p.Scheme=[] then [] else towQ (fv h) y.length (gapQ p.Scheme) kss).length≤1000:=by
      by_cases he:gapQ p.Scheme=[]
      . rw[if_pos he];exact⟨.inr he,λ_ h=>(by cases h),by simp⟩
      . have hEl:p.Scheme.E.length=p.Scheme.B.length:=by
         rcases g5 with g5 | g5
         . exact g5
         . exact absurd (by unfold gapQ;rw[if_pos (List.eq_nil_of_length_eq_zero g5)]) he
        have hgl:(gapQ p.Scheme).length=p.Scheme.B.length:=by unfold gapQ;rw[if_neg (λh=>by rw[h] at hEl;simp at hEl;omega),Qcy,X6,Jb,Jb];omega
        rw[if_neg he];have ht:=Qwm (k:=2*k+2) (p:=p) (t:=t) (h:=h) (y:=y) (g:=g2') (ys:=toRR yss) (nx:=toR (fromQ (fv h) (rv y) (rv p.Scheme.B) kss)) (er:=[]) (c:=toR (gapQ p.Scheme)) (kss:=kss) hn (by omega) (by omega) (Vg ok.hk (by omega)) (Kl hgq) q5 (by omega) (by rw[Q7];omega) q6 (by omega);rw[Ky] at ht;refine⟨.inl ht,Jo (Qrz (k:=2*k+2) (Nat.le_trans (qw_fv ok.hk (by omega)) (by omega)) hgq q5 (by omega) (by omega)) (by omega),?_⟩;rw[Qmn q6];omega
     obtain⟨hE1,hE2,hE3⟩:=hE;have hj:∀ {β:Type}(f:List Qa->Option β),(bif decide ((0:Int)<((gapQ p.Scheme).length:Int)) then (Wk n p t h y g2' (toRR yss) (toRR kss) (toR (fromQ (fv h) (rv y) (rv p.Scheme.B) kss)) [] (toR (gapQ p.Scheme))).bind λr34=>f r34 else f [])=f (toR (if gapQ p.Scheme=[] then [] else towQ (fv h) y.length (gapQ p.Scheme) kss)):=by
      intro β f;by_cases he:gapQ p.Scheme=[]
      . rw[if_pos he,he];rfl
      . have:(gapQ p.Scheme).length≠0:=λh=>he (List.eq_nil_of_length_eq_zero h)
        rw[if_neg he,decide_eq_true (by omega),bifT,hE1.resolve_right he,sbind]
     rw[hj,w1 (by omega),Jb];generalize (if gapQ p.Scheme=[] then [] else towQ (fv h) y.length (gapQ p.Scheme) kss)=er at hE2 hE3 ⊢;obtain⟨g3',e3,e4⟩:=Qu0 (p:=p) (t:=t) (h:=h) (y:=y) (g:=g2') (ys:=toRR yss) (ks:=toRR kss) (nx:=toR (fromQ (fv h) (rv y) (rv p.Scheme.B) kss)) (er:=toR er) (x2:=((p.Scheme.B.length+1:Nat):Int)) hn (Jo hE2 (show 41*k+1000≤1099511627775 by omega)) hE3;rw[e4,sbind,show g2'.limit=limQ p.Bits by omega];cases hf2:fitQ (limQ p.Bits) er 0 with
     | some j=>exact⟨_,rfl,rfl,by show(6:Int)≠0;decide⟩
     | none=>exact⟨_,rfl,g3',rfl,q3,q4⟩
theorem Qyn(hn:big≤n)(h1:1≤k)(hk:k<1048576)(ht:TW p.Tape)(hd:-9223372036854775808≤p.Tape.Dim∧p.Tape.Dim≤9223372036854775807)(hs:SchW k p.Scheme):
 Qcn n p=some (dP (tapeR p.Tape∧schR p.Scheme∧(p.P.length:Int)=p.Tape.Par)):=by
 unfold Qcn;simp only[jn_eq];rw[Qqg hn ht hd,sbind,bifP];by_cases c1:tapeR p.Tape;rw[if_pos c1,Qny hn h1 hk hs,sbind,bifP];by_cases c2:schR p.Scheme;rw[if_pos c2];exact Qdv ⟨λh=>⟨c1,c2,h⟩,λh=>h.2.2⟩;rw[if_neg c2,dP_f λh=>c2 h.2.1];rw[if_neg c1,dP_f λh=>c1 h.1]
end
def tI(x:Jk):Qs:=⟨x.Op,x.A,x.B,⟨⟨x.N.Neg,x.N.N⟩,x.N.D⟩⟩
theorem Qb0(f:Qc)(k:Nat):K1 f (k:Int)=some (!decide (f.N.length≤k∧f.D.length≤k)):=by unfold K1;simp only[jn_eq,bifd];by_cases h:(k:Int)<(f.N.length:Int);rw[if_pos h,decide_eq_false (by omega)];rfl;rw[if_neg h];by_cases g:(k:Int)<(f.D.length:Int);rw[decide_eq_true g,decide_eq_false (by omega)];rfl;rw[decide_eq_false g,decide_eq_true (by omega)];rfl
theorem Qyo{n:Nat}{t:Jl}{many k:Nat}(hn:big≤n)(hm:many≤1000000):∃ v,Qa0 n t (many:Int) (k:Int)=some v∧(v=false->t.Code.length≤many∧t.Outs.length≤many∧∀ c∈t.Code,c.N.N.length≤k∧c.N.D.length≤k):=by unfold Qa0;rw[Qmm (λi=>∀ c,t.Code[i]?=some c->c.N.N.length≤k∧c.N.D.length≤k) (min t.Code.length many) (r:=true)];by_cases h:∀ i,i<min t.Code.length many->∀ c,t.Code[i]?=some c->c.N.N.length≤k∧c.N.D.length≤k;rw[if_pos h];simp only[jn_eq,bifd];by_cases h1:(many:Int)<(t.Code.length:Int);rw[if_pos h1];exact⟨true,rfl,λh=>by cases h⟩;rw[if_neg h1];refine⟨_,rfl,λhv=>⟨by omega,by have:=of_decide_eq_false hv;omega,λc hc=>?_⟩⟩;obtain⟨i,hi⟩:=List.getElem?_of_mem hc;exact h i (by have:=Ve hi;omega) c hi;rw[if_neg h];exact⟨true,rfl,λh=>by cases h⟩;intro i hi;have hp:t.Code[i]?=some t.Code[i]:=List.getElem?_eq_getElem (by omega);generalize t.Code[i]=c at hp;simp only[jn_eq,bifd];rw[if_pos (by omega),if_pos (by omega),Kq hp,sbind,Qb0,sbind];by_cases h:c.N.N.length≤k∧c.N.D.length≤k;rw[decide_eq_true h,Bool.not_true,bifF,w1 (by omega)];exact⟨λ_=>rfl,λg=>absurd (λd hd=>by rw[hp] at hd;cases hd;exact h) g⟩;rw[decide_eq_false h,Bool.not_false,bifT];exact⟨λg=>absurd (g c hp) h,λ_=>rfl⟩;simp only[jn_eq,bifd];by_cases h:min t.Code.length many<t.Code.length;rw[if_pos (by omega),if_neg (by omega)];rw[if_neg (by omega),bifF];unfold big at hn;omega
theorem Q19{n:Nat}{t:Jl}(hn:big≤n)(h1:t.Code.length≤1000000)(h2:t.Outs.length≤1000000):Qbs n t=some ⟨t.Code.map tI,t.Outs,t.Dim,t.Par⟩:=by unfold Qbs;rw[Wr (by simp;omega) (by simp;omega),sbind];rw[Qbz (λi=>((t.Code.take i).map tI,(i:Int))) t.Code.length (t.Code.map tI)];rfl;intro i hi;have hp:t.Code[i]?=some t.Code[i]:=List.getElem?_eq_getElem hi;generalize t.Code[i]=p at hp;simp only[bifd,Jf,sbind];rw[if_pos (by omega),Kq hp,sbind,Wr (by simp;omega) (by simp;omega),sbind,w1 (by omega),Qd7 tI hp];rfl;simp only[bifd];rw[if_neg (by omega),List.take_length];unfold big at hn;omega;rfl
def tF(x:Qc):Qa:=⟨⟨x.Neg,x.N⟩,x.D⟩
theorem Kd{n:Nat}{l:List Qc}(hn:big≤n)(h1:l.length≤1000000):Qw n l=some (l.map tF):=by unfold Qw;rw[Qbz (λi=>((l.take i).map tF,(i:Int))) l.length (l.map tF)];intro i hi;have hp:l[i]?=some l[i]:=List.getElem?_eq_getElem hi;generalize l[i]=p at hp;simp only[bifd,Jf,sbind];rw[if_pos (by omega),Kq hp,sbind,Wr (by simp;omega) (by simp;omega),sbind,w1 (by omega),Qd7 tF hp];rfl;simp only[bifd];rw[if_neg (by omega),List.take_length];unfold big at hn;omega;rfl
theorem Q2a{n:Nat}{l:List (List Qc)}(hn:big≤n)(h1:l.length≤1000000)(h2:∀ r∈l,r.length≤1000000):Qbr n l=some (l.map (·.map tF)):=by unfold Qbr;rw[Qbz (λi=>((l.take i).map (·.map tF),(i:Int))) l.length (l.map (·.map tF))];intro i hi;have hp:l[i]?=some l[i]:=List.getElem?_eq_getElem hi;generalize l[i]=p at hp;simp only[bifd];rw[if_pos (by omega),Kq hp,sbind,Kd hn (h2 p (Jt hp)),sbind,Wr (by simp;omega) (by simp;omega),sbind,w1 (by omega),Qd7 (·.map tF) hp];simp only[bifd];rw[if_neg (by omega),List.take_length];unfold big at hn;omega;rfl
def FL(many k:Nat)(l:List Qc):Prop:=l.length≤many∧∀ x∈l,x.N.length≤k∧x.D.length≤k
theorem Vp{n:Nat}{l:List Qc}{many k:Nat}(hn:big≤n)(hm:many≤1000000):∃ v,Qu n l (many:Int) (k:Int)=some v∧(v=false->FL many k l):=by unfold Qu;rw[Qmm (λi=>∀ c,l[i]?=some c->c.N.length≤k∧c.D.length≤k) (min l.length many) (r:=true)];by_cases h:∀ i,i<min l.length many->∀ c,l[i]?=some c->c.N.length≤k∧c.D.length≤k;rw[if_pos h];refine⟨_,rfl,λhv=>⟨by have:=of_decide_eq_false hv;omega,λc hc=>?_⟩⟩;have:=of_decide_eq_false hv;obtain⟨i,hi⟩:=List.getElem?_of_mem hc;exact h i (by have:=Ve hi;omega) c hi;rw[if_neg h];exact⟨true,rfl,λh=>by cases h⟩;intro i hi;have hp:l[i]?=some l[i]:=List.getElem?_eq_getElem (by omega);generalize l[i]=c at hp;simp only[jn_eq,bifd];rw[if_pos (by omega),if_pos (by omega),Kq hp,sbind,Qb0,sbind];by_cases h:c.N.length≤k∧c.D.length≤k;rw[decide_eq_true h,Bool.not_true,bifF,w1 (by omega)];exact⟨λ_=>rfl,λg=>absurd (λd hd=>by rw[hp] at hd;cases hd;exact h) g⟩;rw[decide_eq_false h,Bool.not_false,bifT];exact⟨λg=>absurd (g c hp) h,λ_=>rfl⟩;simp only[jn_eq,bifd];by_cases h:min l.length many<l.length;rw[if_pos (by omega),if_neg (by omega)];rw[if_neg (by omega),bifF];unfold big at hn;omega
theorem Qyp{n:Nat}{s:Jd}{many k:Nat}(hn:big≤n)(hm:many≤1000000):∃ v,Qa1 n s (many:Int) (k:Int)=some v ∧
 (v=false->s.Name.length≤50∧s.A.length≤many∧FL many k s.B∧FL many k s.C∧FL many k s.E∧∀ r∈s.A,FL many k r):=by
 unfold Qa1;simp only[jn_eq,bifd];by_cases h1:(50:Int)<(s.Name.length:Int)
 . rw[if_pos h1];exact⟨true,rfl,λh=>by cases h⟩
 rw[if_neg h1];by_cases h2:(many:Int)<(s.A.length:Int)
 . rw[if_pos h2];exact⟨true,rfl,λh=>by cases h⟩
 rw[if_neg h2];obtain⟨b,e1,e2⟩:=Vp (l:=s.B) (k:=k) hn hm;rw[e1,sbind];cases b
 case true=>exact⟨true,rfl,λh=>by cases h⟩
 rw[bifF];obtain⟨c,e3,e4⟩:=Vp (l:=s.C) (k:=k) hn hm;rw[e3,sbind];cases c
 case true=>exact⟨true,rfl,λh=>by cases h⟩
 rw[bifF];obtain⟨e,e5,e6⟩:=Vp (l:=s.E) (k:=k) hn hm;rw[e5,sbind];cases e
 case true=>exact⟨true,rfl,λh=>by cases h⟩
 rw[bifF];have hb:∀ r,∃ v,Qu n r (many:Int) (k:Int)=some v∧(v=false->FL many k r):=λr=>Vp hn hm
 have hl:=Qmm (f:=λ(s28:Int)=>
  if s28<(s.A.length:Int) then (
   (getI s.A s28).bind λy29=>
   (Qu n y29 (many:Int) (k:Int)).bind λr31=>
   bif r31 then (
    some (Lp.out (Lp.out (true))))
   else (
    some (Lp.go (wrap64 (s28+(1:Int))))))
  else (
   some (Lp.out (Lp.go ())))) (n:=n) (K:=λ(_:Unit)=>some false) (r:=true) (λi=>∀ r,s.A[i]?=some r->Qu n r (many:Int) (k:Int)=some false) s.A.length (λi hi=>by
  have hp:s.A[i]?=some s.A[i]:=List.getElem?_eq_getElem hi;generalize s.A[i]=r at hp;obtain⟨v,g1,g2⟩:=hb r;rw[if_pos (by omega),Kq hp,sbind,g1,sbind];cases v
  . rw[bifF,w1 (by omega)]
    exact⟨λ_=>rfl,λg=>absurd (λd hd=>by rw[hp] at hd;cases hd;exact g1) g⟩
  . rw[bifT]
    exact⟨λg=>(by have:=g r hp;rw[g1] at this;cases this),λ_=>rfl⟩) (by rw[if_neg (by omega)]) (by unfold big at hn;omega)
 rw[hl];by_cases h:∀ i,i<s.A.length->∀ r,s.A[i]?=some r->Qu n r (many:Int) (k:Int)=some false
 . rw[if_pos h]
   refine⟨false,rfl,λ_=>⟨by omega,by omega,e2 rfl,e4 rfl,e6 rfl,λr hr=>?_⟩⟩;obtain⟨i,hi⟩:=List.getElem?_of_mem hr;obtain⟨v,g1,g2⟩:=hb r;have:=h i (Ve hi) r hi;rw[g1] at this;exact g2 (Option.some.inj this)
 . rw[if_neg h];exact⟨true,rfl,λh=>by cases h⟩
theorem Qhs{n:Nat}{p:Qx}{a b k:Nat}(hn:big≤n)(ha:a≤1000000)(hb:b≤1000000):∃ v,Xd n p (a:Int) (b:Int) (k:Int)=some v ∧
 (v=false->(p.Tape.Code.length≤a∧p.Tape.Outs.length≤a∧∀ c∈p.Tape.Code,c.N.N.length≤k∧c.N.D.length≤k)∧(p.Scheme.Name.length≤50∧p.Scheme.A.length≤b∧FL b 4 p.Scheme.B∧FL b 4 p.Scheme.C∧FL b 4 p.Scheme.E∧∀ r∈p.Scheme.A,FL b 4 r)∧FL 6 k p.P):=by
 unfold Xd;simp only[jn_eq];obtain⟨u,e1,e2⟩:=Qyo (t:=p.Tape) (k:=k) hn ha;rw[e1,sbind];cases u
 case true=>exact⟨true,rfl,λh=>by cases h⟩
 rw[bifF];obtain⟨u,e3,e4⟩:=Qyp (s:=p.Scheme) (k:=4) hn hb;rw[show((4:Nat):Int)=4 from rfl] at e3;rw[e3,sbind];cases u
 case true=>exact⟨true,rfl,λh=>by cases h⟩
 rw[bifF];obtain⟨u,e5,e6⟩:=Vp (l:=p.P) (many:=6) (k:=k) hn (by decide);rw[show((6:Nat):Int)=6 from rfl] at e5;rw[e5,sbind];exact⟨u,rfl,λh=>⟨e2 rfl,e4 rfl,e6 h⟩⟩
theorem Ql0{n:Nat}{f:J9}(hn:big≤n):∃ v,X8 n f=some v∧(v=false->(f.T.N.length≤2∧f.T.D.length≤2)∧(f.H.N.length≤2∧f.H.D.length≤2)∧FL 4 2 f.Y):=by
 unfold X8;simp only[jn_eq];have e:∀ g:Qc,K1 g 2=some (!decide (g.N.length≤2∧g.D.length≤2)):=λg=>Qb0 g 2;rw[e,sbind];by_cases h1:f.T.N.length≤2∧f.T.D.length≤2
 case neg=>rw[decide_eq_false h1];exact⟨true,rfl,λh=>by cases h⟩
 rw[decide_eq_true h1,Bool.not_true,bifF,e,sbind];by_cases h2:f.H.N.length≤2∧f.H.D.length≤2
 case neg=>rw[decide_eq_false h2];exact⟨true,rfl,λh=>by cases h⟩
 rw[decide_eq_true h2,Bool.not_true,bifF];obtain⟨u,e5,e6⟩:=Vp (l:=f.Y) (many:=4) (k:=2) hn (by decide);rw[show((4:Nat):Int)=4 from rfl,show((2:Nat):Int)=2 from rfl] at e5;rw[e5,sbind];exact⟨u,rfl,λh=>⟨h1,h2,e6 h⟩⟩
def tS(s:Jd):Qt:=⟨s.Name,s.C.map tF,s.A.map (·.map tF),s.B.map tF,s.E.map tF⟩
def tT(t:Jl):Qm:=⟨t.Code.map tI,t.Outs,t.Dim,t.Par⟩
def tP(p:Qx):Qh:=⟨tT p.Tape,tS p.Scheme,p.P.map tF,p.Bits⟩
theorem Qj7{n:Nat}{p:Qx}(hn:big≤n)(h1:p.Tape.Code.length≤1000000)(h2:p.Tape.Outs.length≤1000000)(h3:p.Scheme.A.length≤1000000)(h4:p.Scheme.B.length≤1000000)(h5:p.Scheme.C.length≤1000000)(h6:p.Scheme.E.length≤1000000)
 (h7:∀ r∈p.Scheme.A,r.length≤1000000) (h8:p.P.length≤1000000):X0 n p=some (tP p):=by
 unfold X0 Qc8;rw[Q19 hn h1 h2,sbind,Kd hn h5,sbind,Q2a hn h3 h7,sbind,Kd hn h4,sbind,Kd hn h6,sbind,sbind,Kd hn h8,sbind];rfl
structure PrbW(k:Nat)(p:Qh):Prop where
 t:∀ c∈p.Tape.Code,Fk k c.N
 d:-9223372036854775808≤p.Tape.Dim∧p.Tape.Dim≤9223372036854775807
 s:SchW k p.Scheme
 p:FR k p.P
def prbR(p:Qh):Prop:=tapeR p.Tape∧schR p.Scheme∧(p.P.length:Int)=p.Tape.Par
theorem PrbW.tw{k:Nat}{p:Qh}(h:PrbW k p)(hk:k<1048576):TW p.Tape:=λc hc=>Fk_Fw (h.t c hc) (by omega)
theorem Qyq{n k:Nat}{p:Qh}(hn:big≤n)(h0:129≤k)(hk:k<8000)(hw:PrbW k p):Qcn n p=some (dP (prbR p)):=
 Qyn hn (by omega) (by omega) (hw.tw (by omega)) hw.d hw.s
theorem PrbW.ok{n k:Nat}{p:Qh}{t h:Qa}{y:List Qa}(hw:PrbW k p)(hn:big≤n)(hk:k<8000)(hr:prbR p)(ht:Fk k t)(hh:Fk k h)(hy:FR k y)(hl:(y.length:Int)=p.Tape.Dim):PrbOK n k p t h y:=
 ⟨⟨hr.1,by rw[Qqg hn (hw.tw (by omega)) hw.d,dP_t hr.1],hw.t⟩,hw.s,hr.2.1,hw.p,hr.2.2,ht,hh,hy,hl⟩
def toM(z:MadeQ):Q2:=⟨toRR z.ys,toRR z.ks,toR z.next,toR z.err⟩
def noM:Q2:=⟨[],[],[],[]⟩
noncomputable def stepQ(p:Qh)(T H:Rat)(Y:List Rat):Qd ⊕ MadeQ:=
 @ite _ (prbR p∧(Y.length:Int)=p.Tape.Dim) (Classical.propDecidable _) (doQ p.Tape p.Scheme (limQ p.Bits) T H Y (rv p.P)) (.inl ⟨2,0,0,0⟩)
theorem Qu1{n k:Nat}{p:Qh}{t h:Qa}{y:List Qa}(hn:big≤n)(h0:129≤k)(hk:k<8000)(hw:PrbW k p)(ht:Fk k t)(hh:Fk k h)(hy:FR k y):
 Qh9 n p t h y=some (match stepQ p (fv t) (fv h) (rv y) with | .inl f=>(noM,f) | .inr z=>(toM z,⟨0,0,0,0⟩))∧∀ f,stepQ p (fv t) (fv h) (rv y)=.inl f->f.Kind≠0:=by
 unfold Qh9 stepQ;simp only[jn_eq];rw[Qyq hn h0 hk hw,sbind,bifnP,Jb];by_cases hr:prbR p
 case neg=>rw[if_neg hr,if_neg (λh=>hr h.1),bifT];exact⟨rfl,λf h=>by cases h;decide⟩
 rw[if_pos hr];by_cases hl:(y.length:Int)=p.Tape.Dim
 case neg=>rw[decide_eq_false hl,if_neg (λh=>hl h.2),Bool.not_false,bifT];exact⟨rfl,λf h=>by cases h;decide⟩
 rw[decide_eq_true hl,if_pos ⟨hr,hl⟩,Bool.not_true,bifF];have ok:=hw.ok hn hk hr ht hh hy hl;unfold Xs;rw[sbind];obtain⟨r,e1,e2⟩:=Jai (g:=⟨⟨0,0⟩,min (max p.Bits 0) 4096⟩) hn h0 hk ok rfl;rw[e1,sbind];cases hd:doQ p.Tape p.Scheme (limQ p.Bits) (fv t) (fv h) (rv y) (rv p.P) with
 | inl f=>
   rw[hd] at e2;obtain⟨e3,e4⟩:=e2;refine⟨?_,λg hg=>by cases hg;exact e4⟩;rw[e3];obtain⟨f1,f2,f3,f4⟩:=f;rw[Kv e4,Bool.not_false,bifT];rfl
 | inr z=>
   rw[hd] at e2;obtain⟨g',e3,_⟩:=e2;subst e3;simp only[];rw[Ku,Bool.not_true,bifF];exact⟨rfl,λg hg=>by cases hg⟩
theorem Qu2{t:Qm}{lim:Int}{T H:Rat}{Y P:List Rat}{m:Nat}(hlim:lim≤4096)(hm:t.Outs.length=m)(hY:Y.length=m):∀ {r:List (List Rat×Rat)}{i:Nat}{yss kss:List (List Rat)}{z},(∀ a∈kss,a.length=m)->(∀ a∈yss,a.length=m)->stagesQ t lim T H Y P r i yss kss=.inr z →
 (∀ a∈z.2,a.length=m)∧(∀ a∈z.1,a.length=m)∧(∃ e,z.1=yss++e)∧∃ e,z.2=kss++e
 | [],i,yss,kss,z,h1,h2,h=>by simp only[stagesQ] at h;cases h;exact⟨h1,h2,⟨[],by simp⟩,[],by simp⟩
 | x::r,i,yss,kss,z,h1,h2,h=>by
   simp only[stagesQ] at h;cases hs:stageQ t lim T H Y P x.1 x.2 i kss with
   | inl f=>rw[hs] at h;cases h
   | inr w=>
     rw[hs] at h;have hw:w.2.length=m∧w.1.length=m:=by
      unfold stageQ at hs;split at hs;cases hs;cases hf:fieldQ t lim (T+H*x.2) (fromQ H Y x.1 kss) P with
      | inl e=>rw[hf] at hs;cases hs
      | inr k=>
        rw[hf] at hs;cases hs;exact⟨by rw[(Q1b hlim hf).1,hm],by show(fromQ H Y x.1 kss).length=m;rw[Qg0 (by rw[hY];exact h1),hY]⟩
     obtain⟨g1,g2,⟨e,g3⟩,e',g4⟩:=Qu2 hlim hm hY (λa ha=>by
      rcases List.mem_append.1 ha with ha | ha;exact h1 a ha;rw[List.mem_singleton.1 ha];exact hw.1) (λa ha=>by
      rcases List.mem_append.1 ha with ha | ha;exact h2 a ha
      rw[List.mem_singleton.1 ha];exact hw.2) h
     exact⟨g1,g2,⟨w.1::e,by rw[g3];simp⟩,w.2::e',by rw[g4];simp⟩
set_option maxRecDepth 100000
def toD(v d:Rat):Qv:=⟨toF v,toF d⟩
def toDD(vs ds:List Rat):List Qv:=List.zipWith toD vs ds
theorem Qmo{vs ds:List Rat}(h:ds.length=vs.length):(toDD vs ds).length=vs.length:=by unfold toDD;rw[List.length_zipWith,h,Nat.min_self]
theorem Q1e{vs ds:List Rat}{v d:Rat}(h:ds.length=vs.length):toDD vs ds++[toD v d]=toDD (vs++[v]) (ds++[d]):=by unfold toDD;rw[List.zipWith_append h.symm];rfl
theorem Qne{vs ds:List Rat}{r:Int}(h:ds.length=vs.length)(h1:0≤r)(h2:r<(vs.length:Int)):getI (toDD vs ds) r=some (toD (vs.getD r.toNat 0) (ds.getD r.toNat 0)):=by
 obtain⟨k,rfl⟩:∃ k:Nat,r=(k:Int):=⟨r.toNat,by omega⟩
 have hk:k<vs.length:=by omega
 have hk2:k<ds.length:=by omega
 rw[Qgm,Int.toNat_natCast];unfold toDD;rw[List.getElem?_zipWith,List.getElem?_eq_getElem hk,List.getElem?_eq_getElem hk2,List.getD_eq_getElem?_getD,List.getElem?_eq_getElem hk,List.getD_eq_getElem?_getD,List.getElem?_eq_getElem hk2];rfl
def turnQ(a q:Rat)(e:Int):Rat:=if 0<e then a ^ (e - 1) else if e<0 then q / a else 0
def slopeQ(x:Qs)(q T:Rat)(Y P vs ds:List Rat):Rat:=
 if x.Op=6 then -ds.getD x.A.toNat 0 else
 if x.Op=11 then ((x.B:Rat)*turnQ (vs.getD x.A.toNat 0) q x.B)*ds.getD x.A.toNat 0 else
 if x.Op=7 then ds.getD x.A.toNat 0+ds.getD x.B.toNat 0 else
 if x.Op=8 then ds.getD x.A.toNat 0 - ds.getD x.B.toNat 0 else
 if x.Op=9 then ds.getD x.A.toNat 0*vs.getD x.B.toNat 0+vs.getD x.A.toNat 0*ds.getD x.B.toNat 0 else
 if x.Op=10 then (ds.getD x.A.toNat 0 - q*ds.getD x.B.toNat 0) / vs.getD x.B.toNat 0 else
 if x.Op=1 then 0 else
 if x.Op=3 then Y.getD x.A.toNat 0 else
 if x.Op=4 then P.getD x.A.toNat 0 else T
theorem Q33{z:Int}(h:z.natAbs≤8):qw (z:Rat)≤1:=by unfold qw;rw[Rat.num_intCast,Rat.den_intCast];have l1:(toL z.natAbs).length≤1:=Qbx (n:=z.natAbs) (k:=1) (by rw[Vu,Zp];omega);have l2:(toL 1).length≤1:=Qbx (n:=1) (k:=1) (by rw[Vu,Zp];omega);omega
theorem Q67{n k:Nat}{g:Qj}{z:Int}{t:Qm}{x:Qs}{T T':Rat}{Y P Y' P' vs ds:List Rat}(hn:big≤n)(h1:1≤k)(hk:k<1048576)(hx:mayR t vs.length x)(hN:Fk k x.N)
 (hT:qw T≤k) (hY:QR k Y) (hP:QR k P) (hV:QR k vs) (hT':qw T'≤k) (hY':QR k Y') (hP':QR k P') (hD:QR k ds) (hl:ds.length=vs.length) (hyl:Y'.length=Y.length) (hpl:P'.length=P.length) (hy:(Y.length:Int)=t.Dim) (hp:(P.length:Int)=t.Par) :
 ∃ v,Kr n g z x ⟨toD T T',toDD Y Y',toDD P P'⟩ (toDD vs ds)=some (match opQ x T Y P vs with | none=>(v,false) | some q=>(toD q (slopeQ x q T' Y' P' vs ds),true))∧∀ q,opQ x T Y P vs=some q->qw q≤8*k+1∧qw (slopeQ x q T' Y' P' vs ds)≤20*k+10:=by
 unfold Kr opQ slopeQ;have rd:=Qrw hx;have dA:x.Op=6∨x.Op=11∨x.Op=7∨x.Op=8∨x.Op=9∨x.Op=10->getI (toDD vs ds) x.A=some (toD (vs.getD x.A.toNat 0) (ds.getD x.A.toNat 0)):=λh=>Qne hl (rd _ (rdT_A h)).1 (rd _ (rdT_A h)).2;have dB:x.Op=7∨x.Op=8∨x.Op=9∨x.Op=10->getI (toDD vs ds) x.B=some (toD (vs.getD x.B.toNat 0) (ds.getD x.B.toNat 0)):=λh=>Qne hl (rd _ (rdT_B h)).1 (rd _ (rdT_B h)).2;have qA:qw (vs.getD x.A.toNat 0)≤k:=Wc hV h1;have qB:qw (vs.getD x.B.toNat 0)≤k:=Wc hV h1;have qA':qw (ds.getD x.A.toNat 0)≤k:=Wc hD h1;have qB':qw (ds.getD x.B.toNat 0)≤k:=Wc hD h1;generalize vs.getD x.A.toNat 0=a at dA qA ⊢;generalize vs.getD x.B.toNat 0=b at dB qB ⊢;generalize ds.getD x.A.toNat 0=a' at dA qA' ⊢;generalize ds.getD x.B.toNat 0=b' at dB qB' ⊢;have fA:Fk k (toF a):=Jp qA;have fB:Fk k (toF b):=Jp qB;have fA':Fk k (toF a'):=Jp qA';have fB':Fk k (toF b'):=Jp qB';have pV:∀ u w:Rat,(toD u w).V=toF u:=λ_ _=>rfl;have pD:∀ u w:Rat,(toD u w).D=toF w:=λ_ _=>rfl;simp only[bifd];by_cases o6:x.Op=6;simp only[if_pos o6];unfold Qem;rw[dA (by omega),sbind,pV,pD,Qd6 hn (Fk_Fw fA (by omega)),sbind,Qd6 hn (Fk_Fw fA' (by omega)),sbind,sbind,Q5,Q5];exact⟨toD 0 0,rfl,λq hq=>by cases hq;rw[Qnd,Qnd];omega⟩;simp only[if_neg o6];by_cases o11:x.Op=11;simp only[if_pos o11];unfold Qen;simp only[jn_eq];rw[dA (by omega),sbind,pV,pD,Qj6 hn h1 (by omega) fA,sbind,Q5];by_cases hc:x.B < -8∨8<x.B∨(x.B<0∧a=0)
 simp only[if_pos hc];exact⟨_,rfl,λq hq=>by cases hq⟩;simp only[if_neg hc];rw[Bool.not_true,bifF,Wb hn,sbind];have hq:=Qvj qA (e:=x.B) (by omega)
 have key:∀ w:Rat,qw w≤16*k+2->turnQ a (a ^ x.B) x.B=w->((Ju n x.B).bind λr16=>(Vj n r16 (toF w)).bind λr18=>(Vj n r18 (toF a')).bind λr20=>(some ((⟨toF (a ^ x.B),r20⟩:Qv),true):Option (Qv×Bool)))=some (toD (a ^ x.B) (((x.B:Rat)*turnQ a (a ^ x.B) x.B)*a'),true)∧qw (((x.B:Rat)*turnQ a (a ^ x.B) x.B)*a')≤20*k+10:=λw hw e=>by have qi:=Q33 (z:=x.B) (by omega);have q1:=Yx qi hw;have q2:=Yx q1 qA';rw[Qim hn (by omega) (by omega),sbind,Wj (k:=16*k+2) hn (by omega) (by omega) (Jp (by omega)) (Jp hw),sbind,Wj (k:=20*k) hn (by omega) (by omega) (Jp (by rw[Q5,Q5];omega)) (Jp (by omega)),sbind,Q5,Q5,Q5,Q5,e];exact⟨rfl,by omega⟩
 simp only[bifd];by_cases h0:0<x.B;have hw1:=Qvj qA (e:=x.B - 1) (by omega);obtain⟨k1,k2⟩:=key (a ^ (x.B - 1)) (by omega) (by unfold turnQ;rw[if_pos h0]);rw[if_pos h0,w64 (by omega) (by omega),Qj6 hn h1 (by omega) fA,sbind,Q5,if_neg (show ¬(x.B - 1 < -8∨8<x.B - 1∨(x.B - 1<0∧a=0)) by omega)];simp only[];rw[k1,sbind];exact⟨toD 0 0,rfl,λq hq=>by cases hq;exact⟨hq,k2⟩⟩;rw[if_neg h0];by_cases h2:x.B<0;have ha:¬ a=0:=λg=>hc (.inr (.inr ⟨h2,g⟩));have hw1:=Qru hq qA;obtain⟨k1,k2⟩:=key (a ^ x.B / a) (by omega) (by unfold turnQ;rw[if_neg h0,if_pos h2]);rw[if_pos h2,Qd8 (k:=8*k+1) hn (by omega) (by omega) (Jp hq) (Jp (by omega)),sbind,Q5,Q5,if_neg ha];simp only[];rw[k1,sbind];exact⟨toD 0 0,rfl,λq hq=>by cases hq;exact⟨hq,k2⟩⟩;obtain⟨k1,k2⟩:=key 0 (by rw[Z1];omega) (by unfold turnQ;rw[if_neg h0,if_neg h2]);rw[if_neg h2,k1,sbind];exact⟨toD 0 0,rfl,λq hq=>by cases hq;exact⟨hq,k2⟩⟩;simp only[if_neg o11];by_cases o7:x.Op=7;simp only[if_pos o7];unfold Qeo;rw[dA (by omega),sbind,dB (by omega),sbind,pV,pV,pD,pD,Vw hn h1 (by omega) fA fB,sbind,Vw hn h1 (by omega) fA' fB',sbind,sbind,Q5,Q5,Q5,Q5];exact⟨toD 0 0,rfl,λq hq=>by cases hq;have:=Qae qA qB;have:=Qae qA' qB';omega⟩;simp only[if_neg o7];by_cases o8:x.Op=8;simp only[if_pos o8];unfold Qep;rw[dA (by omega),sbind,dB (by omega),sbind,pV,pV,pD,pD,Qj5 hn h1 (by omega) fA fB,sbind,Qj5 hn h1 (by omega) fA' fB',sbind,sbind,Q5,Q5,Q5,Q5];exact⟨toD 0 0,rfl,λq hq=>by cases hq;have:=Qyh qA qB;have:=Qyh qA' qB';omega⟩;simp only[if_neg o8];by_cases o9:x.Op=9;simp only[if_pos o9];unfold Qeq;have q1:=Yx qA' qB;have q2:=Yx qA qB';have q3:=Yx qA qB;have q4:=Qae q1 q2;rw[dA (by omega),sbind,dB (by omega),sbind,pV,pV,pD,pD,Wj hn h1 (by omega) fA fB,sbind,Wj hn h1 (by omega) fA' fB,sbind,Wj hn h1 (by omega) fA fB',sbind,Q5,Q5,Q5,Q5,Vw (k:=2*k) hn (by omega) (by omega) (Jp (by omega)) (Jp (by omega)),sbind,sbind,Q5,Q5];exact⟨toD 0 0,rfl,λq hq=>by cases hq;omega⟩;simp only[if_neg o9];by_cases o10:x.Op=10;simp only[if_pos o10];unfold Qer;rw[dA (by omega),sbind,dB (by omega),sbind,pV,pV,pD,pD,Qd8 hn h1 (by omega) fA fB,sbind,Q5,Q5];by_cases hb:b=0;simp only[if_pos hb];exact⟨_,rfl,λq hq=>by cases hq⟩;simp only[if_neg hb];have q0:=Qru qA qB;have q1:=Yx q0 qB';have q2:=Qyh qA' q1;have q3:=Qru q2 qB;rw[Bool.not_true,bifF,Wj (k:=2*k) hn (by omega) (by omega) (Jp (by omega)) (Jp (by omega)),sbind,Q5,Q5,Qj5 (k:=3*k) hn (by omega) (by omega) (Jp (by omega)) (Jp (by omega)),sbind,Q5,Q5,Qd8 (k:=4*k+1) hn (by omega) (by omega) (Jp (by omega)) (Jp (by omega)),sbind,Q5,Q5,if_neg hb,sbind];exact⟨toD 0 0,rfl,λq hq=>by cases hq;omega⟩;simp only[if_neg o10];unfold Wv;simp only[bifd];by_cases o1:x.Op=1;simp only[if_pos o1];unfold Qfu;rw[Wa hn (Fk_Fw hN (by omega)),sbind,Wb hn,sbind,sbind,sbind];exact⟨toD 0 0,rfl,λq hq=>by cases hq;have:=qw_fv hN h1;rw[Z1];omega⟩;simp only[if_neg o1];by_cases o3:x.Op=3;simp only[if_pos o3];obtain⟨a1,a2⟩:=Qyl hx o3;rw[Qne hyl a1 (by omega),sbind,sbind]
 exact⟨toD 0 0,rfl,λq hq=>by cases hq;have:=Wc (i:=x.A.toNat) hY h1;have:=Wc (i:=x.A.toNat) hY' h1;omega⟩;simp only[if_neg o3];by_cases o4:x.Op=4;simp only[if_pos o4];obtain⟨a1,a2⟩:=Qym hx o4;rw[Qne hpl a1 (by omega),sbind,sbind];exact⟨toD 0 0,rfl,λq hq=>by cases hq;have:=Wc (i:=x.A.toNat) hP h1;have:=Wc (i:=x.A.toNat) hP' h1;omega⟩;simp only[if_neg o4];exact⟨toD 0 0,rfl,λq hq=>by cases hq;omega⟩
def prunQ(lim:Int)(T:Rat)(Y P:List Rat)(T':Rat)(Y' P':List Rat):List Qs->Nat->List Rat->List Rat->(Int×Int×Nat) ⊕ (List Rat×List Rat)
 | [],_,vs,ds=>.inr (vs,ds)
 | x::c,i,vs,ds=>match opQ x T Y P vs with
   | none=>.inl (3,0,i)
   | some q=>if (qz q:Int)≤lim then (if (qz (slopeQ x q T' Y' P' vs ds):Int)≤lim then prunQ lim T Y P T' Y' P' c (i+1) (vs++[q]) (ds++[slopeQ x q T' Y' P' vs ds]) else .inl (6,1,i)) else .inl (6,0,i)
theorem Q81{n k:Nat}{g:Qj}{t:Qm}{T T':Rat}{Y P Y' P':List Rat}(hn:big≤n)(h1:129≤k)(hk:k<1048576)(ht:tapeR t)(hR:Z8 n t=some true)(hN:∀ c∈t.Code,Fk k c.N)
 (hT:qw T≤k) (hY:QR k Y) (hP:QR k P) (hT':qw T'≤k) (hY':QR k Y') (hP':QR k P') (hyl:Y'.length=Y.length) (hpl:P'.length=P.length) (hy:(Y.length:Int)=t.Dim) (hp:(P.length:Int)=t.Par) (hg:g.limit≤4096) :
 ∃ g',Vt n g 0 t ⟨toD T T',toDD Y Y',toDD P P'⟩=some (match prunQ g.limit T Y P T' Y' P' t.Code 0 [] [] with | .inl e=>([],⟨e.1,0,0,(e.2.2:Int)⟩,g',e.2.1) | .inr l=>(toDD l.1 l.2,⟨0,0,0,0⟩,g',0)):=by
 unfold Vt;simp only[jn_eq,hR,sbind,Bool.not_true,bifF];rw[Qmo hyl,Qmo hpl,decide_eq_true hy,decide_eq_true hp,Bool.not_true,bifF,bifF]
 have key:∀(c:List Qs) (vs ds:List Rat) (g:Qj) (K:Qj×Int×List Qv->Option (List Qv×Qd×Qj×Int)),(∀(j:Nat) x,c[j]?=some x->mayR t (vs.length+j) x)->(∀ x∈c,Fk k x.N)->QR k vs->QR k ds->ds.length=vs.length->g.limit≤4096->vs.length+c.length≤300 →
  ∃ g',(rangeL (λ(i30:Nat) (x31:Qs) (s29:Qj×Int×(List Qv))=>
    (Kr n s29.1 s29.2.1 x31 ⟨toD T T',toDD Y Y',toDD P P'⟩ s29.2.2).bind λr33=>
    bif !r33.2 then (
     some (Lp.out ((([]:List Qv),(⟨(3:Int),0,0,(i30:Int)⟩:Qd),s29.1,s29.2.1))))
    else (
     (Qb8 n s29.1 s29.2.1 r33.1).bind λr35=>
     bif !r35.1 then (
      some (Lp.out ((([]:List Qv),(⟨(6:Int),0,0,(i30:Int)⟩:Qd),r35.2.1,r35.2.2))))
     else (
      (appM 112 s29.2.2 ([r33.1]:List Qv)).bind λy37=>
      some (Lp.go (r35.2.1,r35.2.2,y37))))) c vs.length (g,0,toDD vs ds)).bind (lpK K)=match prunQ g.limit T Y P T' Y' P' c vs.length vs ds with | .inl e=>some ([],⟨e.1,0,0,(e.2.2:Int)⟩,g',e.2.1) | .inr l=>K (g',0,toDD l.1 l.2):=by
  intro c
  induction c with
  | nil=>intro vs ds g K _ _ _ _ _ _ _;exact⟨g,rfl⟩
  | cons x c ih=>
    intro vs ds g K hm hN hV hD hdl hg hl;simp only[rangeL,prunQ];obtain⟨v,e1,e2⟩:=Q67 (g:=g) (z:=0) hn (by omega) hk (by have:=hm 0 x rfl;rwa [Nat.add_zero] at this) (hN x (.head _)) hT hY hP hV hT' hY' hP' hD hdl hyl hpl hy hp;rw[e1,sbind];cases hq:opQ x T Y P vs with
    | none=>exact⟨g,rfl⟩
    | some q=>
      obtain⟨hqk,hdk⟩:=e2 q hq;simp only[Bool.not_true,bifF];generalize slopeQ x q T' Y' P' vs ds=d at hdk ⊢;unfold Qb8;rw[show(toD q d).V=toF q from rfl,show(toD q d).D=toF d from rfl,Qks hn (by omega),sbind];simp only[];by_cases hf:(qz q:Int)≤g.limit;rw[decide_eq_true hf,if_pos hf,Bool.not_true,bifF,Qks hn (by omega),sbind];simp only[];by_cases hf2:(qz d:Int)≤g.limit;rw[decide_eq_true (show(qz d:Int)≤(noteG g q).limit from hf2),if_pos hf2,Bool.not_true,bifF,sbind];simp only[Bool.not_true,bifF];rw[Wr (by rw[Qmo hdl];simp at hl ⊢;omega) (by rw[Qmo hdl];simp at hl ⊢;omega),sbind,sbind];simp only[];have hq2:qw q≤k:=by
       have:=qw_qz (q:=q) (b:=4096) (by omega);omega
      have hd2:qw d≤k:=by have:=qw_qz (q:=d) (b:=4096) (by omega);omega
      have hlen:(vs++[q]).length=vs.length+1:=by simp
      obtain⟨g',h⟩:=ih (vs++[q]) (ds++[d]) (noteG (noteG g q) d) K (λj y hy=>by
       rw[hlen,show vs.length+1+j=vs.length+(j+1) by omega];exact hm (j+1) y (by simpa using hy)) (λy hy=>hN y (.tail _ hy)) (λz hz=>by
       rcases List.mem_append.1 hz with hz | hz;exact hV z hz;rw[List.mem_singleton.1 hz];exact hq2) (λz hz=>by
       rcases List.mem_append.1 hz with hz | hz;exact hD z hz
       rw[List.mem_singleton.1 hz];exact hd2) (by simp;exact hdl) hg (by rw[hlen];simp at hl;omega)
      refine⟨g',?_⟩;rw[hlen] at h;rw[Q1e hdl];exact h;rw[decide_eq_false (show ¬(qz d:Int)≤(noteG g q).limit from hf2),if_neg hf2,Bool.not_false,bifT];unfold Qjy;rw[sbind,sbind];exact⟨noteG (noteG g q) d,rfl⟩;rw[decide_eq_false hf,if_neg hf,Bool.not_false,bifT,sbind];exact⟨noteG g q,rfl⟩
 obtain⟨⟨d1,d2,d3,d4⟩,m1,m2⟩:=ht;obtain⟨g',h⟩:=key t.Code [] [] g (λs39=>some (s39.2.2,(⟨0,0,0,0⟩:Qd),s39.1,s39.2.1)) (λj x hx=>by rw[show([]:List Rat).length+j=j by simp];exact m1 j x hx) hN (λ_ h=>by cases h) (λ_ h=>by cases h) rfl hg (by simpa using d4);refine⟨g',?_⟩;rw[show(([]:List Rat).length)=0 from rfl,show toDD [] []=[] from rfl] at h;rw[h];cases prunQ g.limit T Y P T' Y' P' t.Code 0 [] []<;>rfl
theorem Q1f{lim:Int}:∀ {l:List Rat}{i:Nat},fitQ lim l i=none->∀ q∈l,(qz q:Int)≤lim
 | [],_,_,q,hq=>by cases hq
 | x::l,i,h,q,hq=>by simp only[fitQ] at h;split at h;rename_i hx;rcases List.mem_cons.1 hq with rfl | hq;exact hx;exact Q1f h q hq;cases h
theorem Qmp{lim:Int}{l:List Rat}(hlim:lim≤4096)(h:fitQ lim l 0=none):QR 129 l:=λq hq=>by have h1:=Q1f h q hq;have h2:=qw_qz (q:=q) (b:=4096) (by omega);omega
theorem Qba{p:Qh}{T H:Rat}{Y:List Rat}{z:MadeQ}(h:stepQ p T H Y=.inr z):prbR p∧(Y.length:Int)=p.Tape.Dim∧QR 129 z.next∧z.next.length=Y.length∧QR 129 z.err:=by
 unfold stepQ at h;by_cases hc:prbR p∧(Y.length:Int)=p.Tape.Dim
 case neg=>rw[if_neg hc] at h;cases h
 rw[if_pos hc] at h;refine⟨hc.1,hc.2,?_⟩;have hdim:=hc.1.1.1;unfold doQ at h;cases hz:stagesQ p.Tape (limQ p.Bits) T H Y (rv p.P) (List.zip (p.Scheme.A.map rv) (rv p.Scheme.C)) 0 [] [] with
 | inl e=>rw[hz] at h;cases h
 | inr w=>
   rw[hz] at h;simp only[] at h;obtain⟨g1,g2,g3,g4⟩:=Qu2 (m:=Y.length) (by unfold limQ;omega) (by have:=hdim.2.2.1;omega) rfl (λ_ h=>by cases h) (λ_ h=>by cases h) hz;unfold endQ at h;have hlim:limQ p.Bits≤4096:=by unfold limQ;omega
   split at h
   . cases h
   . rename_i hf
     split at h
     . cases h
     . rename_i hf2
       cases h;exact⟨Qmp hlim hf,Qg0 g1,Qmp hlim hf2⟩
set_option maxRecDepth 100000
theorem Q0a{α:Type}{l:List α}{i:Nat}{x:α}(h:l[i]?=some x):l.take (i+1)=l.take i++[x]:=by rw[List.take_add_one,h];rfl
theorem Qw6{lim T Y P T' Y' P'}(hlim:lim≤4096):∀ {c:List Qs}{i:Nat}{vs ds:List Rat}{l:List Rat×List Rat},QR 129 vs->QR 129 ds->ds.length=vs.length->prunQ lim T Y P T' Y' P' c i vs ds=.inr l->l.1.length=vs.length+c.length∧l.2.length=l.1.length∧QR 129 l.1∧QR 129 l.2
 | [],i,vs,ds,l,hv,hd,hl,h=>by simp only[prunQ] at h;cases h;exact⟨rfl,hl,hv,hd⟩
 | x::c,i,vs,ds,l,hv,hd,hl,h=>by
   simp only[prunQ] at h;cases hq:opQ x T Y P vs with
   | none=>rw[hq] at h;cases h
   | some q=>
     rw[hq] at h;simp only[] at h;generalize slopeQ x q T' Y' P' vs ds=d at h;by_cases hf:(qz q:Int)≤lim
     case neg=>rw[if_neg hf] at h;cases h
     rw[if_pos hf] at h;by_cases hf2:(qz d:Int)≤lim
     case neg=>rw[if_neg hf2] at h;cases h
     rw[if_pos hf2] at h;have b1:=qw_qz (q:=q) (b:=4096) (by omega);have b2:=qw_qz (q:=d) (b:=4096) (by omega)
     obtain⟨h1,h2,h3,h4⟩:=Qw6 hlim (λz hz=>by
      rcases List.mem_append.1 hz with hz | hz
      . exact hv z hz
      . rw[List.mem_singleton.1 hz];omega) (λz hz=>by
      rcases List.mem_append.1 hz with hz | hz
      . exact hd z hz
      . rw[List.mem_singleton.1 hz];omega) (by simp;exact hl) h
     exact⟨by rw[h1];simp;omega,h2,h3,h4⟩
theorem Qsx{lim T Y P T' Y' P'}:∀ {c:List Qs}{i:Nat}{vs ds:List Rat}{e},prunQ lim T Y P T' Y' P' c i vs ds=.inl e->e.1=3∨e.1=6
 | [],i,vs,ds,e,h=>by simp only[prunQ] at h;cases h
 | x::c,i,vs,ds,e,h=>by
   simp only[prunQ] at h;cases hq:opQ x T Y P vs with
   | none=>rw[hq] at h;cases h;exact .inl rfl
   | some q=>
     rw[hq] at h;simp only[] at h;split at h;split at h;exact Qsx h;cases h;exact .inr rfl;cases h;exact .inr rfl
def pfieldQ(t:Qm)(lim:Int)(T:Rat)(Y P:List Rat)(T':Rat)(Y' P':List Rat):(Int×Int×Nat) ⊕ (List Rat×List Rat):=
 match prunQ lim T Y P T' Y' P' t.Code 0 [] [] with
 | .inl e=>.inl e
 | .inr l=>.inr (t.Outs.map λo=>l.1.getD o.toNat 0,t.Outs.map λo=>l.2.getD o.toNat 0)
theorem Qr0{vs ds:List Rat}(h:ds.length=vs.length)(hl:vs.length≤1000000):Qhj (toR vs) (toR ds)=some (toDD vs ds,true):=by
 unfold Qhj;rw[Q7,Q7,decide_eq_true (by omega),Bool.not_true,bifF];rw[Qez (λi=>toDD (vs.take i) (ds.take i)) (toR vs)];rw[Q7,List.take_length,←h,List.take_length];show some _=_;rfl;intro i x hx;have hi:=Ve hx;rw[Q7] at hi;have h1:vs[i]?=some vs[i]:=List.getElem?_eq_getElem hi;have h2:ds[i]?=some (ds[i]'(by omega)):=List.getElem?_eq_getElem _;generalize vs[i]=v at h1;generalize ds[i]'(by omega)=d at h2;have e1:x=toF v:=by
  unfold toR at hx;rw[List.getElem?_map,h1] at hx;exact(Option.some.inj hx).symm
 have hl2:(ds.take i).length=(vs.take i).length:=by rw[List.length_take,List.length_take,h]
 have hle:(vs.take i).length≤vs.length:=by rw[List.length_take];omega
 rw[Kq (show(toR ds)[i]?=some (toF d) by unfold toR;rw[List.getElem?_map,h2];rfl),sbind,Wr (by rw[Qmo hl2];simp;omega) (by rw[Qmo hl2];simp;omega),sbind,e1,show(⟨toF v,toF d⟩:Qv)=toD v d from rfl,Q1e hl2,Q0a h1,Q0a h2];rfl
theorem Qyr{n k:Nat}{t:Qm}{p q:Va}{bits:Int}(hn:big≤n)(h1:129≤k)(hk:k<1048576)(ht:Quz n k t)(hT:Fk k p.T)(hY:FR k p.Y)(hP:FR k p.P)(hT':Fk k q.T)(hY':FR k q.Y)(hP':FR k q.P)(hy:(p.Y.length:Int)=t.Dim)(hp:(p.P.length:Int)=t.Par)(hyl:q.Y.length=p.Y.length)(hpl:q.P.length=p.P.length):
 Qia n t p q bits=some (match pfieldQ t (min (max bits 0) 4096) (fv p.T) (rv p.Y) (rv p.P) (fv q.T) (rv q.Y) (rv q.P) with | .inl e=>([],[],⟨e.1,0,e.2.1,(e.2.2:Int)⟩) | .inr l=>(toR l.1,toR l.2,⟨0,0,0,0⟩)):=by
 obtain⟨r,h,w⟩:=ht;have hd:=r.1;obtain⟨⟨d1,d2⟩,⟨d3,d4⟩,d5,d6⟩:=hd;have eT:=qw_fv hT (by omega);have eY:=QR_rv hY (by omega);have eP:=QR_rv hP (by omega);have eT':=qw_fv hT' (by omega);have eY':=QR_rv hY' (by omega);have eP':=QR_rv hP' (by omega);unfold Qia Qmy Qdf Xs;simp only[jn_eq];rw[Wa hn (Fk_Fw hT (by omega)),sbind,Qaw hn (by omega) hY (by omega),sbind,Qaw hn (by omega) hP (by omega),sbind,sbind,Wa hn (Fk_Fw hT' (by omega)),sbind,Qaw hn (by omega) hY' (by omega),sbind,Qaw hn (by omega) hP' (by omega),sbind,sbind];simp only[];rw[Qr0 (by rw[Jb,Jb];exact hyl) (by rw[Jb];omega),sbind,Qr0 (by rw[Jb,Jb];exact hpl) (by rw[Jb];omega),sbind];simp only[Bool.not_true,bifF,sbind];obtain⟨g',e⟩:=Q81 (g:=⟨⟨0,0⟩,min (max bits 0) 4096⟩) hn h1 hk r h w eT eY eP eT' eY' eP' (by rw[Jb,Jb];exact hyl) (by rw[Jb,Jb];exact hpl) (by rw[Jb];exact hy) (by rw[Jb];exact hp) (by simp only[];omega);rw[show(⟨toF (fv p.T),toF (fv q.T)⟩:Qv)=toD (fv p.T) (fv q.T) from rfl,e,sbind];unfold pfieldQ;simp only[];cases hr:prunQ (min (max bits 0) 4096) (fv p.T) (rv p.Y) (rv p.P) (fv q.T) (rv q.Y) (rv q.P) t.Code 0 [] [] with
 | inl q=>
   have hk:=Qsx hr;simp only[];rw[sbind];simp only[];rw[Kv (by omega),Bool.not_false,bifT]
 | inr l=>
   obtain⟨l1,l2,l3,l4⟩:=Qw6 (by omega) (λ_ h=>by cases h) (λ_ h=>by cases h) rfl hr;have hl:l.1.length=t.Code.length:=by simpa using l1
   simp only[];rw[sbind];simp only[];rw[Ku,Bool.not_true,bifF];rw[Qez (λi=>(toR ((t.Outs.take i).map λo=>l.1.getD o.toNat 0),toR ((t.Outs.take i).map λo=>l.2.getD o.toNat 0))) t.Outs];rw[List.take_length];rfl;intro i o ho;have hb:=r.2.2 o (Jt ho);have hi:=Ve ho;rw[Qne l2 hb.1 (by omega),sbind,Wr (by simp only[Q7,List.length_map,List.length_take,List.length_cons,List.length_nil];omega) (by simp only[Q7,List.length_map,List.length_take,List.length_cons,List.length_nil];omega),sbind,sbind,Wr (by simp only[Q7,List.length_map,List.length_take,List.length_cons,List.length_nil];omega) (by simp only[Q7,List.length_map,List.length_take,List.length_cons,List.length_nil];omega),sbind,Q0a ho];simp only[List.map_append,List.map_cons,List.map_nil];rw[←Qw4,←Qw4];rfl;rfl
theorem Qoe{t:Qm}{lim T Y P T' Y' P' l}(hlim:lim≤4096)(h:pfieldQ t lim T Y P T' Y' P'=.inr l):l.1.length=t.Outs.length∧l.2.length=t.Outs.length∧QR 129 l.1∧QR 129 l.2:=by
 unfold pfieldQ at h;cases hr:prunQ lim T Y P T' Y' P' t.Code 0 [] [] with
 | inl q=>rw[hr] at h;cases h
 | inr l'=>
   rw[hr] at h;cases h;obtain⟨l1,l2,l3,l4⟩:=Qw6 hlim (λ_ h=>by cases h) (λ_ h=>by cases h) rfl hr;refine⟨by simp,by simp,λq hq=>?_,λq hq=>?_⟩;obtain⟨o,_,rfl⟩:=List.mem_map.1 hq;exact Wc l3 (by omega);obtain⟨o,_,rfl⟩:=List.mem_map.1 hq;exact Wc l4 (by omega)
theorem Qu3{t:Qm}{lim T Y P T' Y' P' e}(h:pfieldQ t lim T Y P T' Y' P'=.inl e):e.1=3∨e.1=6:=by
 unfold pfieldQ at h;cases hr:prunQ lim T Y P T' Y' P' t.Code 0 [] [] with
 | inl q=>rw[hr] at h;cases h;exact Qsx hr
 | inr l'=>rw[hr] at h;cases h
theorem Q1g{t:Qm}{lim:Int}{T H:Rat}{Y P:List Rat}(hlim:lim≤4096):∀ {r:List (List Rat×Rat)}{i:Nat}{yss kss:List (List Rat)}{z},(∀ a∈yss,QR 129 a)->stagesQ t lim T H Y P r i yss kss=.inr z->∀ a∈z.1,QR 129 a
 | [],i,yss,kss,z,h1,h=>by simp only[stagesQ] at h;cases h;exact h1
 | x::r,i,yss,kss,z,h1,h=>by
   simp only[stagesQ] at h;cases hs:stageQ t lim T H Y P x.1 x.2 i kss with
   | inl f=>rw[hs] at h;cases h
   | inr w=>
     rw[hs] at h;have hw:QR 129 w.1:=by
      unfold stageQ at hs;cases hf:fitQ lim (fromQ H Y x.1 kss) 0 with
      | some j=>rw[hf] at hs;cases hs
      | none=>
        rw[hf] at hs;simp only[] at hs;cases hf2:fieldQ t lim (T+H*x.2) (fromQ H Y x.1 kss) P with
        | inl e=>rw[hf2] at hs;cases hs
        | inr k=>rw[hf2] at hs;cases hs;exact Qmp hlim hf
     exact Q1g hlim (λa ha=>by
      rcases List.mem_append.1 ha with ha | ha;exact h1 a ha
      rw[List.mem_singleton.1 ha];exact hw) h
theorem Qw7{p:Qh}{T H:Rat}{Y:List Rat}{z:MadeQ}(h:stepQ p T H Y=.inr z):(∀ a∈z.ys,QR 129 a∧a.length=Y.length)∧z.ys.length=p.Scheme.B.length:=by
 obtain⟨hr,hl,_⟩:=Qba h;have hd:=hr.1.1;unfold stepQ at h;rw[if_pos ⟨hr,hl⟩] at h;unfold doQ at h;cases hz:stagesQ p.Tape (limQ p.Bits) T H Y (rv p.P) (List.zip (p.Scheme.A.map rv) (rv p.Scheme.C)) 0 [] [] with
 | inl e=>rw[hz] at h;cases h
 | inr w=>
   rw[hz] at h;simp only[] at h;have hlim:limQ p.Bits≤4096:=by unfold limQ;omega
   have q1:=Q1g hlim (λ_ h=>by cases h) hz;obtain⟨_,q2,_,_⟩:=Qu2 hlim (m:=Y.length) (by have:=hd.2.2.1;omega) rfl (λ_ h=>by cases h) (λ_ h=>by cases h) hz;have q3:∀ {r:List (List Rat×Rat)}{i:Nat}{yss kss:List (List Rat)}{z},stagesQ p.Tape (limQ p.Bits) T H Y (rv p.P) r i yss kss=.inr z->z.1.length=yss.length+r.length:=by
    intro r
    induction r with
    | nil=>intro i yss kss z h;simp only[stagesQ] at h;cases h;rfl
    | cons x r ih=>
      intro i yss kss z h;simp only[stagesQ] at h;cases hs:stageQ p.Tape (limQ p.Bits) T H Y (rv p.P) x.1 x.2 i kss with
      | inl f=>rw[hs] at h;cases h
      | inr w=>rw[hs] at h;rw[ih h];simp;omega
   have q4:=q3 hz;obtain⟨⟨g1,g2⟩,g3,g4,g5,g6⟩:=hr.2.1.2.1;have e:z.ys=w.1:=by unfold endQ at h;split at h;cases h;split at h;cases h;cases h;rfl
   rw[e];refine⟨λa ha=>⟨q1 a ha,q2 a ha⟩,?_⟩;rw[q4,List.length_zip,List.length_map,Jb];simp;omega
set_option maxRecDepth 100000
def tstageQ(t:Qm)(lim:Int)(T H:Rat)(U V P:List Rat)(y a:List Rat)(c:Rat)(i:Nat)(kss:List (List Rat)):Qd ⊕ List Rat:=
 match fitQ lim (fromQ H U a kss) 0 with
 | some j=>.inl ⟨6,0,(i:Int),300+(j:Int)⟩
 | none=>match pfieldQ t lim (T+H*c) y P 0 (fromQ H U a kss) V with
   | .inl e=>.inl ⟨e.1,0,(i:Int),(e.2.2:Int)⟩
   | .inr k=>.inr k.2
def tstagesQ(t:Qm)(lim:Int)(T H:Rat)(U V P:List Rat):List ((List Rat×Rat)×List Rat)->Nat->List (List Rat)->Qd ⊕ List (List Rat)
 | [],_,kss=>.inr kss
 | x::r,i,kss=>match tstageQ t lim T H U V P x.2 x.1.1 x.1.2 i kss with
   | .inl f=>.inl f
   | .inr k=>tstagesQ t lim T H U V P r (i+1) (kss++[k])
def tendQ(s:Qt)(lim:Int)(H:Rat)(U:List Rat)(kss:List (List Rat)):Qd ⊕ (List Rat×List Rat):=
 match fitQ lim (fromQ H U (rv s.B) kss) 0 with
 | some j=>.inl ⟨6,0,(s.B.length:Int),300+(j:Int)⟩
 | none=>match fitQ lim (if gapQ s=[] then [] else towQ H U.length (gapQ s) kss) 0 with
   | some j=>.inl ⟨6,0,(s.B.length:Int)+1,300+(j:Int)⟩
   | none=>.inr (fromQ H U (rv s.B) kss,if gapQ s=[] then [] else towQ H U.length (gapQ s) kss)
def tdoQ(t:Qm)(s:Qt)(lim:Int)(T H:Rat)(U V P:List Rat)(yss:List (List Rat)):Qd ⊕ (List Rat×List Rat):=
 match tstagesQ t lim T H U V P (List.zip (pairQ s) yss) 0 [] with
 | .inl f=>.inl f
 | .inr kss=>tendQ s lim H U kss
section
variable {n k:Nat}{p:Qh}{t h:Qa}{y u v:List Qa}{g:Qj}{md:Q2}{ks:List (List Qa)}
theorem Q1h{c:List Qa}{kss:List (List Rat)}(hn:big≤n)(h0:129≤k)(hk:k<16384)(hh:Fk k h)(hc:FR k c)(hkq:∀ a∈kss,QR 129 a)(hl:kss.length≤8)(hcl:c.length=kss.length)(hkl:∀ a∈kss,a.length=u.length)(hy:u.length≤6):
 Wm n p t h u v md (toRR kss) g c=some (toR (towQ (fv h) u.length (rv c) kss)):=by
 unfold Wm;rw[Qpe,Qux (j:=k) (k:=129) hn (by omega) (by omega) (by omega) (by omega) hc (Qsv λa ha=>Kl (hkq a ha)) (by omega) (by rw[Qc0];omega),sbind,if_pos ⟨by rw[Qc0,hcl],Qsv λa ha=>by rw[Q7];exact hkl a ha⟩];rw[Q5z];have hm:=Qrv (z:=List.replicate u.length 0) (QR_rv hc (by omega)) hkq (Qry u.length);have h3:kss.length*(k+129+1)≤8*(k+129+1):=Nat.mul_le_mul_right _ hl;have hml:=Qfj (cs:=rv c) hkl (show(List.replicate u.length (0:Rat)).length=u.length by simp);rw[Qao (k:=20*k) hn (by omega) (by omega) (Vg hh (by omega)) (Kl (Jo hm (by omega))) (by rw[Q7,hml];omega),sbind,Ky];rfl
theorem Qys{c:List Qa}{kss:List (List Rat)}(hn:big≤n)(h0:129≤k)(hk:k<16384)(hh:Fk k h)(hyk:FR k u)(hc:FR k c)(hkq:∀ a∈kss,QR 129 a)(hl:kss.length≤8)(hcl:c.length=kss.length)(hkl:∀ a∈kss,a.length=u.length)(hy:u.length≤6):
 Za n p t h u v md (toRR kss) g c=some (toR (fromQ (fv h) (rv u) (rv c) kss)):=by
 unfold Za;have hb:=Qrz (m:=u.length) (qw_fv hh (by omega)) (QR_rv hc (by omega)) hkq hl h0;have htl:=Qmn (H:=fv h) (c:=rv c) hkl;rw[Q1h hn h0 hk hh hc hkq hl hcl hkl hy,sbind,Qcq (k:=20*k) hn (by omega) (by omega) (J6 hyk (by omega)) (Kl hb) (by omega),sbind,Q7,htl,if_pos rfl,Ky];unfold fromQ;rw[Jb]
theorem Qsy{l:List Rat}{x2:Int}(hn:big≤n)(hl:QR 1099511627775 l)(hll:l.length≤1000):
 ∃ g',g'.limit=g.limit∧W9 n p t h u v md ks g (toR l) x2=some (match fitQ g.limit l 0 with | none=>(⟨0,0,0,0⟩,g') | some j=>(⟨6,0,x2,300+(j:Int)⟩,g')):=by
 obtain⟨g',h1,h2⟩:=Qsu (g:=g) hn hl;refine⟨g',h1,?_⟩;unfold W9;rw[h2,sbind];cases hf:fitQ g.limit l 0 with
 | none=>rfl
 | some j=>
   have:=Qvn hf;simp only[Bool.not_false,bifT];rw[w64 (by omega) (by omega)]
theorem Jd3{k:Nat}:Fk k ⟨⟨false,[]⟩,[]⟩:=⟨(λ_ h=>by cases h),Nat.zero_le _,(λ_ h=>by cases h),Nat.zero_le _⟩
theorem Jd4:fv ⟨⟨false,[]⟩,[]⟩=0:=by decide +kernel
theorem Q5f{i:Nat}{a:List Qa}{c:Qa}{yi:List Rat}{kss yss:List (List Rat)}{ks0:List (List Qa)}{nx er:List Qa}(hn:big≤n)(h0:129≤k)(hk:k<16384)(ok:PrbOK n k p t h y)(hu:FR k u)(hul:u.length=y.length)(hv:FR k v)(hvl:v.length=p.P.length)(hg:g.limit=limQ p.Bits)
 (ha:p.Scheme.A[i]?=some a) (hc:p.Scheme.C[i]?=some c) (hyi:yss[i]?=some yi) (hyq:QR 129 yi) (hyil:yi.length=y.length) (hkq:∀ a∈kss,QR 129 a) (hki:kss.length=i) (hkl:∀ a∈kss,a.length=y.length) :
 ∃ g',g'.limit=g.limit∧∃ r,Zv n p t h u v ⟨toRR yss,ks0,nx,er⟩ (toRR kss) g (i:Int)=some r ∧
   match tstageQ p.Tape (limQ p.Bits) (fv t) (fv h) (rv u) (rv v) (rv p.P) yi (rv a) (fv c) i kss with
   | .inl f=>r.1=f∧f.Kind≠0
   | .inr z=>r=(⟨0,0,0,0⟩,p,t,h,u,v,⟨toRR yss,ks0,nx,er⟩,toRR (kss++[z]),g')∧QR 129 z∧z.length=y.length:=by
 obtain⟨⟨d1,d2⟩,⟨d3,d4⟩,d5,d6⟩:=ok.tp.r.1;obtain⟨⟨g1,g2⟩,g3,g4,g5,g6⟩:=ok.sr.2.1;have hi:=Ve ha;have hyl:=ok.yl;have hpl:=ok.pl;have hak:=ok.sw.a a (Jt ha);have hck:=ok.sw.c c (Jt hc);have hal:=g6 i a ha;have hkl':∀ a∈kss,a.length=u.length:=λa ha=>by rw[hul];exact hkl a ha
 have hb:=Qsw (QR_rv hu (by omega)) (qw_fv ok.hk (by omega)) (QR_rv hak (by omega)) hkq (by omega) h0;have hfl:=Qg0 (H:=fv h) (Y:=rv u) (c:=rv a) (kss:=kss) (by rw[Jb];exact hkl');rw[Jb] at hfl;unfold Zv;rw[Kq ha,sbind,Qys hn h0 hk ok.hk hu hak hkq (by omega) (by omega) hkl' (by omega),sbind];obtain⟨g',e1,e2⟩:=Qsy (p:=p) (t:=t) (h:=h) (u:=u) (v:=v) (g:=g) (md:=⟨toRR yss,ks0,nx,er⟩) (ks:=toRR kss) (x2:=(i:Int)) hn (Jo hb (show 22*k≤1099511627775 by omega)) (by omega);refine⟨g',e1,?_⟩;rw[e2,sbind,hg];unfold tstageQ;cases hf:fitQ (limQ p.Bits) (fromQ (fv h) (rv u) (rv a) kss) 0 with
 | some j=>
   simp only[];rw[Kv (by decide),Bool.not_false,bifT];exact⟨_,rfl,rfl,by decide⟩
 | none=>
   simp only[];rw[Ku,Bool.not_true,bifF];have hmul:=Yx (qw_fv ok.hk (by omega)) (qw_fv hck (by omega));have hadd:=Qae (qw_fv ok.tk (by omega)) hmul;rw[Qq7 hn h0 hk ok.tk ok.hk hck hc,sbind,Kq (show(toRR yss)[i]?=some (toR yi) by unfold toRR;rw[List.getElem?_map,hyi];rfl),sbind];have hF:=Qyr (k:=22*k) (t:=p.Tape) (p:=⟨toF (fv t+fv h*fv c),toR yi,p.P⟩) (q:=⟨⟨⟨false,[]⟩,[]⟩,toR (fromQ (fv h) (rv u) (rv a) kss),v⟩) (bits:=p.Bits) hn (by omega) (by omega) ⟨ok.tp.r,ok.tp.h,λx hx=>Vg (ok.tp.w x hx) (by omega)⟩ (Jp (by omega)) (Kl (Jo hyq (by omega))) (J6 ok.pk (by omega)) Jd3 (Kl hb) (J6 hv (by omega)) (by simp only[Q7];omega) ok.pl (by simp only[Q7];omega) hvl;rw[hF,sbind];simp only[];rw[Q5,Ky,Ky,Jd4];have hlim:limQ p.Bits=min (max p.Bits 0) 4096:=rfl;rw[hlim];cases hq:pfieldQ p.Tape (min (max p.Bits 0) 4096) (fv t+fv h*fv c) yi (rv p.P) 0 (fromQ (fv h) (rv u) (rv a) kss) (rv v) with
   | inl e=>
     have hkd:=Qu3 hq;simp only[];rw[Kv (by omega),Bool.not_false,bifT];exact⟨_,rfl,rfl,by show e.1≠0;omega⟩
   | inr l=>
     obtain⟨q1,q2,q3,q4⟩:=Qoe (by omega) hq;simp only[];rw[Ku,Bool.not_true,bifF,Wr (by rw[Qc0];simp;omega) (by rw[Qc0];simp;omega),sbind];refine⟨_,rfl,?_,q4,by omega⟩;unfold toRR;rw[List.map_append];rfl
theorem Q82{s:Qt}{yss:List (List Rat)}{i:Nat}{a:List Qa}{c:Qa}{yi:List Rat}(ha:s.A[i]?=some a)(hc:s.C[i]?=some c)(hy:yss[i]?=some yi):(List.zip (pairQ s) yss).drop i=((rv a,fv c),yi)::(List.zip (pairQ s) yss).drop (i+1):=by
 have h1:(List.zip (pairQ s) yss)[i]?=some ((rv a,fv c),yi):=by rw[List.getElem?_zip_eq_some];refine⟨?_,hy⟩;unfold pairQ rv;rw[List.getElem?_zip_eq_some];simp only[List.getElem?_map];exact⟨by rw[ha];rfl,by rw[hc];rfl⟩
 have hi:=Ve h1;rw[List.drop_eq_getElem_cons hi];congr 1;rw[List.getElem?_eq_getElem hi] at h1;exact Option.some.inj h1
abbrev TiS:=Qh×Qa×Qa×(List Qa)×(List Qa)×Q2×(List (List Qa))×Qj
abbrev TiR:=Jv×Qd×Qh×Qa×Qa×(List Qa)×(List Qa)×Q2×(List (List Qa))×Qj
def noMv:Jv:=⟨[],[],⟨[],[],[],[]⟩⟩
def tiBody(n:Nat)(i15:Nat)(_:Qa)(s14:TiS):Option (Lp TiS TiR):=
    (Zv n s14.1 s14.2.1 s14.2.2.1 s14.2.2.2.1 s14.2.2.2.2.1 s14.2.2.2.2.2.1 s14.2.2.2.2.2.2.1 s14.2.2.2.2.2.2.2 (i15:Int)).bind λr18=>
    bif !(Qo r18.1 (⟨0,0,0,0⟩:Qd)) then (
     some (Lp.out (((⟨[],[],(⟨[],[],[],[]⟩:Q2)⟩:Jv),r18.1,r18.2.1,r18.2.2.1,r18.2.2.2.1,r18.2.2.2.2.1,r18.2.2.2.2.2.1,r18.2.2.2.2.2.2.1,r18.2.2.2.2.2.2.2.1,r18.2.2.2.2.2.2.2.2))))
    else (
     some (Lp.go (r18.2.1,r18.2.2.1,r18.2.2.2.1,r18.2.2.2.2.1,r18.2.2.2.2.2.1,r18.2.2.2.2.2.2.1,r18.2.2.2.2.2.2.2.1,r18.2.2.2.2.2.2.2.2)))
def tiFin(n:Nat)(x0_p:Qh)(s20:TiS)(g:Qj)(s31:Jv):Option TiR:=
 (W9 n s20.1 s20.2.1 s20.2.2.1 s20.2.2.2.1 s20.2.2.2.2.1 s20.2.2.2.2.2.1 s20.2.2.2.2.2.2.1 g s31.Err (wrap64 ((x0_p.Scheme.B.length:Int)+(1:Int)))).bind λr36=>
 bif !(Qo r36.1 (⟨0,0,0,0⟩:Qd)) then (
  some ((⟨[],[],(⟨[],[],[],[]⟩:Q2)⟩:Jv),r36.1,s20.1,s20.2.1,s20.2.2.1,s20.2.2.2.1,s20.2.2.2.2.1,s20.2.2.2.2.2.1,s20.2.2.2.2.2.2.1,r36.2))
 else (
  some (s31,(⟨0,0,0,0⟩:Qd),s20.1,s20.2.1,s20.2.2.1,s20.2.2.2.1,s20.2.2.2.2.1,s20.2.2.2.2.2.1,s20.2.2.2.2.2.2.1,r36.2))
def tiEnd(n:Nat)(x0_p:Qh)(x0_made:Q2)(s20:TiS):Option TiR:=
 (Za n s20.1 s20.2.1 s20.2.2.1 s20.2.2.2.1 s20.2.2.2.2.1 s20.2.2.2.2.2.1 s20.2.2.2.2.2.2.1 s20.2.2.2.2.2.2.2 x0_p.Scheme.B).bind λr21=>
 (W9 n s20.1 s20.2.1 s20.2.2.1 s20.2.2.2.1 s20.2.2.2.2.1 s20.2.2.2.2.2.1 s20.2.2.2.2.2.2.1 s20.2.2.2.2.2.2.2 r21 (x0_p.Scheme.B.length:Int)).bind λr23=>
 bif !(Qo r23.1 (⟨0,0,0,0⟩:Qd)) then (
  some ((⟨[],[],(⟨[],[],[],[]⟩:Q2)⟩:Jv),r23.1,s20.1,s20.2.1,s20.2.2.1,s20.2.2.2.1,s20.2.2.2.2.1,s20.2.2.2.2.2.1,s20.2.2.2.2.2.2.1,r23.2))
 else (
  jn (λ(j29:(Jv)->Option _)=>
   (Qcp n x0_p.Scheme).bind λr32=>
   bif decide ((0:Int)<(r32.length:Int)) then (
    (Wm n s20.1 s20.2.1 s20.2.2.1 s20.2.2.2.1 s20.2.2.2.2.1 s20.2.2.2.2.2.1 s20.2.2.2.2.2.2.1 r23.2 r32).bind λr34=>
    j29 ⟨r21,r34,x0_made⟩)
   else (
    j29 ⟨r21,[],x0_made⟩)) (tiFin n x0_p s20 r23.2))
theorem Q83(ks):Qb9 n p t h u v md ks g=(rangeL (tiBody n) p.Scheme.B 0 (p,t,h,u,v,md,ks,g)).bind (lpK (tiEnd n p md)):=Eq.symm (Eq.symm rfl)
theorem Q84{yss:List (List Rat)}{ks0:List (List Qa)}{nx er:List Qa}(hn:big≤n)(h0:129≤k)(hk:k<8000)(ok:PrbOK n k p t h y)(hu:FR k u)(hul:u.length=y.length)(hv:FR k v)(hvl:v.length=p.P.length)(hg:g.limit=limQ p.Bits)
 (hys:∀ a∈yss,QR 129 a∧a.length=y.length) (hysl:yss.length=p.Scheme.B.length) :
 ∃ r,Qb9 n p t h u v ⟨toRR yss,ks0,nx,er⟩ [] g=some r ∧
   match tdoQ p.Tape p.Scheme (limQ p.Bits) (fv t) (fv h) (rv u) (rv v) (rv p.P) yss with
   | .inl f=>r.1=noMv∧r.2.1=f∧f.Kind≠0
   | .inr z=>r.1=⟨toR z.1,toR z.2,⟨toRR yss,ks0,nx,er⟩⟩∧r.2.1=⟨0,0,0,0⟩∧QR 129 z.1∧z.1.length=u.length:=by
 obtain⟨⟨d1,d2⟩,⟨d3,d4⟩,d5,d6⟩:=ok.tp.r.1;obtain⟨⟨g1,g2⟩,g3,g4,g5,g6⟩:=ok.sr.2.1;have hyl:=ok.yl;rw[Q83]
 have key:∀(bs:List Qa) (i:Nat) (g:Qj) (kss:List (List Rat)) (K:TiS->Option TiR),
  i+bs.length=p.Scheme.B.length->kss.length=i->(∀ a∈kss,QR 129 a)->(∀ a∈kss,a.length=y.length)->g.limit=limQ p.Bits →
  match tstagesQ p.Tape (limQ p.Bits) (fv t) (fv h) (rv u) (rv v) (rv p.P) ((List.zip (pairQ p.Scheme) yss).drop i) i kss with
  | .inl f=>∃ r,(rangeL (tiBody n) bs i (p,t,h,u,v,⟨toRR yss,ks0,nx,er⟩,toRR kss,g)).bind (lpK K)=some r∧r.1=noMv∧r.2.1=f∧f.Kind≠0
  | .inr z=>∃ g',g'.limit=limQ p.Bits∧(rangeL (tiBody n) bs i (p,t,h,u,v,⟨toRR yss,ks0,nx,er⟩,toRR kss,g)).bind (lpK K)=K (p,t,h,u,v,⟨toRR yss,ks0,nx,er⟩,toRR z,g')∧z.length=p.Scheme.B.length∧(∀ a∈z,QR 129 a)∧∀ a∈z,a.length=y.length:=by
  intro bs
  induction bs with
  | nil=>
    intro i g kss K hi hk1 hq hl hg;simp only[List.length_nil,Nat.add_zero] at hi;have he:(List.zip (pairQ p.Scheme) yss).drop i=[]:=by apply List.drop_eq_nil_of_le;rw[List.length_zip];omega
    rw[he];simp only[tstagesQ];exact⟨g,hg,rfl,by omega,hq,hl⟩
  | cons b bs ih=>
    intro i g kss K hi hk1 hq hl hg;rw[List.length_cons] at hi;have ha:p.Scheme.A[i]?=some (p.Scheme.A[i]'(by omega)):=List.getElem?_eq_getElem (by omega);have hc:p.Scheme.C[i]?=some (p.Scheme.C[i]'(by omega)):=List.getElem?_eq_getElem (by omega);have hyi:yss[i]?=some (yss[i]'(by omega)):=List.getElem?_eq_getElem (by omega);have hym:=hys (yss[i]'(by omega)) (List.getElem_mem _);generalize p.Scheme.A[i]'(by omega)=a at ha;generalize p.Scheme.C[i]'(by omega)=c at hc;generalize yss[i]'(by omega)=yi at hyi hym;rw[Q82 ha hc hyi];simp only[tstagesQ,rangeL];obtain⟨g',e1,r,e2,e3⟩:=Q5f (g:=g) (ks0:=ks0) (nx:=nx) (er:=er) hn h0 (by omega) ok hu hul hv hvl hg ha hc hyi hym.1 hym.2 hq hk1 hl
    have eb:tiBody n i b (p,t,h,u,v,⟨toRR yss,ks0,nx,er⟩,toRR kss,g)=(bif !(Qo r.1 (⟨0,0,0,0⟩:Qd)) then (
     some (Lp.out ((noMv,r.1,r.2.1,r.2.2.1,r.2.2.2.1,r.2.2.2.2.1,r.2.2.2.2.2.1,r.2.2.2.2.2.2.1,r.2.2.2.2.2.2.2.1,r.2.2.2.2.2.2.2.2))))
     else (
      some (Lp.go (r.2.1,r.2.2.1,r.2.2.2.1,r.2.2.2.2.1,r.2.2.2.2.2.1,r.2.2.2.2.2.2.1,r.2.2.2.2.2.2.2.1,r.2.2.2.2.2.2.2.2)))):=by
     unfold tiBody;rw[e2,sbind];rfl
    rw[eb];cases hs:tstageQ p.Tape (limQ p.Bits) (fv t) (fv h) (rv u) (rv v) (rv p.P) yi (rv a) (fv c) i kss with
    | inl f=>
      rw[hs] at e3;obtain⟨e4,e5⟩:=e3;obtain⟨⟨f1,f2,f3,f4⟩,r⟩:=r;simp only[] at e4;subst e4;simp only[];rw[Kv e5,Bool.not_false,bifT,sbind];exact⟨_,rfl,rfl,rfl,e5⟩
    | inr z=>
      rw[hs] at e3;obtain⟨e4,e5,e6⟩:=e3;subst e4;simp only[];rw[Ku,Bool.not_true,bifF,sbind]
      exact ih (i+1) g' (kss++[z]) K (by omega) (by simp;omega) (λa ha=>by
       rcases List.mem_append.1 ha with ha | ha;exact hq a ha;rw[List.mem_singleton.1 ha];exact e5) (λa ha=>by
       rcases List.mem_append.1 ha with ha | ha;exact hl a ha
       rw[List.mem_singleton.1 ha];exact e6) (by omega)
 have h1:=key p.Scheme.B 0 g [] (tiEnd n p ⟨toRR yss,ks0,nx,er⟩) (by omega) rfl (λ_ h=>by cases h) (λ_ h=>by cases h) hg;unfold tdoQ;rw[List.drop_zero] at h1;cases hs:tstagesQ p.Tape (limQ p.Bits) (fv t) (fv h) (rv u) (rv v) (rv p.P) (List.zip (pairQ p.Scheme) yss) 0 [] with
 | inl f=>
   rw[hs] at h1;exact h1
 | inr kss=>
   rw[hs] at h1;obtain⟨g',q1,q2,q4,q5,q6⟩:=h1;simp only[];rw[show([]:List (List Qa))=toRR [] from rfl,q2];unfold tiEnd;simp only[];have q6':∀ a∈kss,a.length=u.length:=λa ha=>by rw[hul];exact q6 a ha
   have hbB:=Qsw (QR_rv hu (by omega)) (qw_fv ok.hk (by omega)) (QR_rv ok.sw.b (by omega)) q5 (by omega) h0;have hlB:=Qg0 (H:=fv h) (Y:=rv u) (c:=rv p.Scheme.B) (kss:=kss) (by rw[Jb];exact q6');rw[Jb] at hlB;have hgq:=Q8z (k:=k) (s:=p.Scheme) (by omega) ok.sw;rw[Qys hn h0 (by omega) ok.hk hu ok.sw.b q5 (by omega) (by omega) q6' (by omega),sbind];obtain⟨g2',e1,e2⟩:=Qsy (p:=p) (t:=t) (h:=h) (u:=u) (v:=v) (g:=g') (md:=⟨toRR yss,ks0,nx,er⟩) (ks:=toRR kss) (x2:=(p.Scheme.B.length:Int)) hn (Jo hbB (show 22*k≤1099511627775 by omega)) (by omega);rw[e2,sbind,q1];unfold tendQ;cases hf:fitQ (limQ p.Bits) (fromQ (fv h) (rv u) (rv p.Scheme.B) kss) 0 with
   | some j=>
     simp only[];rw[Kv (by decide),Bool.not_false,bifT];exact⟨_,rfl,rfl,rfl,by decide⟩
   | none=>
     simp only[];rw[Ku,Bool.not_true,bifF,jn_eq,Qqk hn (by omega) (by omega) ok.sw ok.sr,sbind,Q7];have hE:((Wm n p t h u v ⟨toRR yss,ks0,nx,er⟩ (toRR kss) g2' (toR (gapQ p.Scheme)))=some (toR (towQ (fv h) u.length (gapQ p.Scheme) kss))∨gapQ p.Scheme=[])∧QR (41*k+1000) (if gapQ p.Scheme=[] then [] else towQ (fv h) u.length (gapQ p.Scheme) kss)∧(if gapQ p.Scheme=[] then [] else towQ (fv h) u.length (gapQ p.Scheme) kss).length≤1000:=by
      by_cases he:gapQ p.Scheme=[]
      rw[if_pos he];exact⟨.inr he,λ_ h=>(by cases h),by simp⟩;have hEl:p.Scheme.E.length=p.Scheme.B.length:=by rcases g5 with g5 | g5;exact g5;exact absurd (by unfold gapQ;rw[if_pos (List.eq_nil_of_length_eq_zero g5)]) he
      have hgl:(gapQ p.Scheme).length=p.Scheme.B.length:=by unfold gapQ;rw[if_neg (λh=>by rw[h] at hEl;simp at hEl;omega),Qcy,X6,Jb,Jb];omega
      rw[if_neg he];have ht:=Q1h (k:=2*k+2) (p:=p) (t:=t) (h:=h) (u:=u) (v:=v) (g:=g2') (md:=⟨toRR yss,ks0,nx,er⟩) (c:=toR (gapQ p.Scheme)) (kss:=kss) hn (by omega) (by omega) (Vg ok.hk (by omega)) (Kl hgq) q5 (by omega) (by rw[Q7];omega) q6' (by omega);rw[Ky] at ht;refine⟨.inl ht,Jo (Qrz (k:=2*k+2) (Nat.le_trans (qw_fv ok.hk (by omega)) (by omega)) hgq q5 (by omega) (by omega)) (by omega),?_⟩;rw[Qmn q6'];omega
     obtain⟨hE1,hE2,hE3⟩:=hE;have hj:∀ {β:Type}(f:Jv->Option β),(bif decide ((0:Int)<((gapQ p.Scheme).length:Int)) then (Wm n p t h u v ⟨toRR yss,ks0,nx,er⟩ (toRR kss) g2' (toR (gapQ p.Scheme))).bind λr34=>f ⟨toR (fromQ (fv h) (rv u) (rv p.Scheme.B) kss),r34,⟨toRR yss,ks0,nx,er⟩⟩ else f ⟨toR (fromQ (fv h) (rv u) (rv p.Scheme.B) kss),[],⟨toRR yss,ks0,nx,er⟩⟩)=f ⟨toR (fromQ (fv h) (rv u) (rv p.Scheme.B) kss),toR (if gapQ p.Scheme=[] then [] else towQ (fv h) u.length (gapQ p.Scheme) kss),⟨toRR yss,ks0,nx,er⟩⟩:=by
      intro β f;by_cases he:gapQ p.Scheme=[]
      rw[if_pos he,he];rfl;have:(gapQ p.Scheme).length≠0:=λh=>he (List.eq_nil_of_length_eq_zero h);rw[if_neg he,decide_eq_true (by omega),bifT,hE1.resolve_right he,sbind]
     rw[hj (tiFin n p (p,t,h,u,v,⟨toRR yss,ks0,nx,er⟩,toRR kss,g') g2')];unfold tiFin;rw[w1 (by omega),Jb];generalize (if gapQ p.Scheme=[] then [] else towQ (fv h) u.length (gapQ p.Scheme) kss)=er' at hE2 hE3 ⊢;simp only[];obtain⟨g3',e3,e4⟩:=Qsy (p:=p) (t:=t) (h:=h) (u:=u) (v:=v) (g:=g2') (md:=⟨toRR yss,ks0,nx,er⟩) (ks:=toRR kss) (x2:=((p.Scheme.B.length+1:Nat):Int)) hn (Jo hE2 (show 41*k+1000≤1099511627775 by omega)) hE3;rw[e4,sbind,show g2'.limit=limQ p.Bits by omega];cases hf2:fitQ (limQ p.Bits) er' 0 with
     | some j=>
       simp only[];rw[Kv (by decide),Bool.not_false,bifT];exact⟨_,rfl,rfl,rfl,by show(6:Int)≠0;decide⟩
     | none=>
       simp only[];rw[Ku,Bool.not_true,bifF];exact⟨_,rfl,rfl,rfl,Qmp (by unfold limQ;omega) hf,hlB⟩
end
noncomputable def tiltQ(p:Qh)(T H:Rat)(Y U V:List Rat):Qd ⊕ (MadeQ×List Rat×List Rat):=
 match stepQ p T H Y with
 | .inl f=>if f.Kind=2∨U.length≠Y.length∨V.length≠p.P.length then .inl ⟨2,0,0,0⟩ else .inl f
 | .inr z=>if U.length≠Y.length∨V.length≠p.P.length then .inl ⟨2,0,0,0⟩ else match tdoQ p.Tape p.Scheme (limQ p.Bits) T H U V (rv p.P) z.ys with
   | .inl f=>.inl f
   | .inr w=>.inr (z,w.1,w.2)
theorem Qb1{n k:Nat}{p:Qh}{t h:Qa}{y u v:List Qa}(hn:big≤n)(h0:129≤k)(hk:k<8000)(hw:PrbW k p)(ht:Fk k t)(hh:Fk k h)(hy:FR k y)(hu:FR k u)(hv:FR k v):
 V9 n p t h y u v=some (match tiltQ p (fv t) (fv h) (rv y) (rv u) (rv v) with | .inl f=>(noMv,f) | .inr z=>(⟨toR z.2.1,toR z.2.2,toM z.1⟩,⟨0,0,0,0⟩))∧(∀ f,tiltQ p (fv t) (fv h) (rv y) (rv u) (rv v)=.inl f->f.Kind≠0)∧∀ z,tiltQ p (fv t) (fv h) (rv y) (rv u) (rv v)=.inr z->stepQ p (fv t) (fv h) (rv y)=.inr z.1∧QR 129 z.2.1∧z.2.1.length=y.length∧u.length=y.length∧v.length=p.P.length:=by
 obtain⟨d1,d2⟩:=Qu1 hn h0 hk hw ht hh hy;unfold V9 tiltQ;simp only[jn_eq];rw[d1,sbind];cases hs:stepQ p (fv t) (fv h) (rv y) with
 | inl f=>
   have hf:=d2 f hs;obtain⟨f1,f2,f3,f4⟩:=f;simp only[];rw[Jb,Jb,Jb,bifd];by_cases c1:f1=2
   . rw[if_pos c1,if_pos (Or.inl c1)]
     exact⟨rfl,(λf h=>by cases h;show(2:Int)≠0;decide),λz h=>by cases h⟩
   rw[if_neg c1];by_cases c2:u.length=y.length
   case neg=>
    rw[decide_eq_false (show ¬(u.length:Int)=(y.length:Int) by omega),if_pos (.inr (.inl c2))];exact⟨rfl,(λf h=>by cases h;show(2:Int)≠0;decide),λz h=>by cases h⟩
   rw[decide_eq_true (show(u.length:Int)=(y.length:Int) by omega),Bool.not_true,bifF];by_cases c3:v.length=p.P.length
   case neg=>
    rw[decide_eq_false (show ¬(v.length:Int)=(p.P.length:Int) by omega),if_pos (.inr (.inr c3))];exact⟨rfl,(λf h=>by cases h;show(2:Int)≠0;decide),λz h=>by cases h⟩
   rw[decide_eq_true (show(v.length:Int)=(p.P.length:Int) by omega),Bool.not_true,bifF,Kv hf,Bool.not_false,bifT,if_neg (by rintro(g | g | g)<;>contradiction)];exact⟨rfl,(λf h=>by cases h;exact hf),λz h=>by cases h⟩
 | inr z=>
   obtain⟨r1,r2,r3,r4,r5⟩:=Qba hs;obtain⟨r6,r7⟩:=Qw7 hs;rw[Jb] at r2;simp only[];rw[Jb,Jb,Jb,show decide ((0:Int)=2)=false from rfl,bifF];by_cases c2:u.length=y.length
   case neg=>
    rw[decide_eq_false (show ¬(u.length:Int)=(y.length:Int) by omega),if_pos (.inl c2)];exact⟨rfl,(λf h=>by cases h;show(2:Int)≠0;decide),λz h=>by cases h⟩
   rw[decide_eq_true (show(u.length:Int)=(y.length:Int) by omega),Bool.not_true,bifF];by_cases c3:v.length=p.P.length
   case neg=>
    rw[decide_eq_false (show ¬(v.length:Int)=(p.P.length:Int) by omega),if_pos (.inr c3)];exact⟨rfl,(λf h=>by cases h;show(2:Int)≠0;decide),λz h=>by cases h⟩
   rw[decide_eq_true (show(v.length:Int)=(p.P.length:Int) by omega),Bool.not_true,bifF,Ku,Bool.not_true,bifF,if_neg (by rintro(g | g)<;>contradiction)];unfold Xs;rw[sbind];have ok:=hw.ok hn hk r1 ht hh hy r2;obtain⟨r,e1,e2⟩:=Q84 (g:=⟨⟨0,0⟩,min (max p.Bits 0) 4096⟩) (yss:=z.ys) (ks0:=toRR z.ks) (nx:=toR z.next) (er:=toR z.err) hn h0 hk ok hu c2 hv c3 rfl (λa ha=>by have:=r6 a ha;rwa [Jb] at this) r7;rw[show toM z=⟨toRR z.ys,toRR z.ks,toR z.next,toR z.err⟩ from rfl,e1,sbind];cases hd:tdoQ p.Tape p.Scheme (limQ p.Bits) (fv t) (fv h) (rv u) (rv v) (rv p.P) z.ys with
   | inl f=>
     rw[hd] at e2;obtain⟨e3,e4,e5⟩:=e2;refine⟨by simp only[];rw[e3,e4],(λf h=>by cases h;exact e5),λz h=>by cases h⟩
   | inr w=>
     rw[hd] at e2;obtain⟨e3,e4,e5,e6⟩:=e2;refine⟨by simp only[];rw[e3,e4];rfl,(λf h=>by cases h),λz h=>by cases h;exact⟨rfl,e5,e6.trans c2,c2,c3⟩⟩
set_option maxRecDepth 100000
def linQ(c:Rat)(a b:List Rat):List Rat:=List.zipWith (λx y=>c*x+y) a b
theorem Qvo{c:Rat}{a b:List Rat}(h:b.length=a.length):(linQ c a b).length=a.length:=by unfold linQ;rw[List.length_zipWith,h,Nat.min_self]
theorem Qin{c:Rat}{a b:List Rat}{i:Nat}(h:b.length=a.length):(linQ c a b).getD i 0=c*a.getD i 0+b.getD i 0:=by unfold linQ;rw[List.getD_eq_getElem?_getD,List.getD_eq_getElem?_getD,List.getD_eq_getElem?_getD,List.getElem?_zipWith];by_cases hi:i<a.length;rw[List.getElem?_eq_getElem hi,List.getElem?_eq_getElem (show i<b.length by omega)];rfl;rw[List.getElem?_eq_none (show a.length≤i by omega),List.getElem?_eq_none (show b.length≤i by omega)];show(0:Rat)=c*0+0;grind
theorem Q34{c a b:Rat}:-(c*a+b)=c * -a+-b:=by grind
def linR(c:Rat)(a b:List (List Rat)):List (List Rat):=List.zipWith (linQ c) a b
theorem Q0b{c:Rat}{u1 u2 v1 v2:List Rat}(h1:u2.length=u1.length)(h2:v1.length=u1.length)(h3:v2.length=u1.length):addQ (linQ c u1 u2) (linQ c v1 v2)=linQ c (addQ u1 v1) (addQ u2 v2):=by apply List.ext_getElem;simp[addQ,linQ,h1,h2,h3];intro i a b;simp only[addQ,linQ,List.getElem_zipWith];grind
theorem Qu4{c H:Rat}{a b:List Rat}:scaleQ H (linQ c a b)=linQ c (scaleQ H a) (scaleQ H b):=by apply List.ext_getElem;simp[scaleQ,linQ];intro i x y;simp only[scaleQ,linQ,List.getElem_zipWith,List.getElem_map];grind
theorem Jaj{c e:Rat}{a1 a2 z1 z2:List Rat}(h1:a2.length=a1.length)(h2:z1.length=a1.length)(h3:z2.length=a1.length):
 List.zipWith (λx o=>o+e*x) (linQ c a1 a2) (linQ c z1 z2)=linQ c (List.zipWith (λx o=>o+e*x) a1 z1) (List.zipWith (λx o=>o+e*x) a2 z2):=by
 apply List.ext_getElem;simp[linQ,h1,h2,h3];intro i a b;simp only[linQ,List.getElem_zipWith];grind
theorem Q0c{c:Rat}{m:Nat}:∀ {cs:List Rat}{l1 l2:List (List Rat)}{z1 z2:List Rat},l2.length=l1.length->(∀ a∈l1,a.length=m)->(∀ a∈l2,a.length=m)->z1.length=m->z2.length=m →
 mixQ cs (linR c l1 l2) (linQ c z1 z2)=linQ c (mixQ cs l1 z1) (mixQ cs l2 z2)
 | [],l1,l2,z1,z2,_,_,_,_,_=>by simp[mixQ]
 | e::cs,[],[],z1,z2,_,_,_,_,_=>by simp[mixQ,linR]
 | e::cs,[],_::_,z1,z2,h,_,_,_,_=>by simp at h
 | e::cs,_::_,[],z1,z2,h,_,_,_,_=>by simp at h
 | e::cs,a1::l1,a2::l2,z1,z2,h,h1,h2,g1,g2=>by have k1:=h1 a1 (.head _);have k2:=h2 a2 (.head _);show mixQ cs (linR c l1 l2) (List.zipWith (λx o=>o+e*x) (linQ c a1 a2) (linQ c z1 z2))=linQ c (mixQ cs l1 (List.zipWith (λx o=>o+e*x) a1 z1)) (mixQ cs l2 (List.zipWith (λx o=>o+e*x) a2 z2));rw[Jaj (by omega) (by omega) (by omega)];exact Q0c (by simpa using h) (λa ha=>h1 a (.tail _ ha)) (λa ha=>h2 a (.tail _ ha)) (by simp;omega) (by simp;omega)
theorem Qio{c:Rat}:∀ m:Nat,List.replicate m (0:Rat)=linQ c (List.replicate m 0) (List.replicate m 0)
 | 0=>rfl
 | m+1=>by have:=Qio (c:=c) m;unfold linQ at this ⊢;rw[List.replicate_succ,List.zipWith_cons_cons,←this];congr 1;grind
theorem Qkt{s:Qt}{lim:Int}{H:Rat}{U:List Rat}{kss:List (List Rat)}{w}(h:tendQ s lim H U kss=.inr w):w.1=fromQ H U (rv s.B) kss:=by unfold tendQ at h;split at h;cases h;split at h;cases h;cases h;rfl
theorem Qm3{t:Qm}{lim:Int}{T H:Rat}{P U V:List Rat}(hlim:lim≤4096)(hm:t.Outs.length=U.length):∀ {r:List ((List Rat×Rat)×List Rat)}{i:Nat}{k z},(∀ a∈k,a.length=U.length)->tstagesQ t lim T H U V P r i k=.inr z->∀ a∈z,a.length=U.length
 | [],i,k,z,g,h=>by simp only[tstagesQ] at h;cases h;exact g
 | x::r,i,k,z,g,h=>by
   simp only[tstagesQ] at h;cases s:tstageQ t lim T H U V P x.2 x.1.1 x.1.2 i k with
   | inl f=>rw[s] at h;cases h
   | inr w=>
     rw[s] at h;have hw:w.length=U.length:=by
      unfold tstageQ at s;cases hf:fitQ lim (fromQ H U x.1.1 k) 0 with
      | some j=>rw[hf] at s;cases s
      | none=>
        rw[hf] at s;simp only[] at s;cases hp:pfieldQ t lim (T+H*x.1.2) x.2 P 0 (fromQ H U x.1.1 k) V with
        | inl e=>rw[hp] at s;cases s
        | inr q=>rw[hp] at s;cases s;rw[(Qoe hlim hp).2.1];exact hm
     exact Qm3 hlim hm (λa ha=>by
      rcases List.mem_append.1 ha with ha | ha;exact g a ha
      rw[List.mem_singleton.1 ha];exact hw) h
theorem Qku{p:Qh}{T H:Rat}{Y U V:List Rat}{z}(h:tiltQ p T H Y U V=.inr z):stepQ p T H Y=.inr z.1∧U.length=Y.length∧V.length=p.P.length∧tdoQ p.Tape p.Scheme (limQ p.Bits) T H U V (rv p.P) z.1.ys=.inr z.2:=by
 unfold tiltQ at h;cases hs:stepQ p T H Y with
 | inl f=>
   rw[hs] at h;simp only[] at h;split at h<;>cases h
 | inr w=>
   rw[hs] at h;simp only[] at h;split at h;cases h;rename_i hc;cases hd:tdoQ p.Tape p.Scheme (limQ p.Bits) T H U V (rv p.P) w.ys with
   | inl f=>rw[hd] at h;cases h
   | inr x=>
     rw[hd] at h;cases h;refine⟨rfl,?_,?_,hd⟩;exact Decidable.not_not.1 λg=>hc (.inl g);exact Decidable.not_not.1 λg=>hc (.inr g)
set_option maxRecDepth 100000
theorem Fk_tF{k:Nat}{x:Qc}(hB:J1 x)(h:x.N.length≤k∧x.D.length≤k):Fk k (tF x):=⟨hB.2.1.2,h.1,hB.2.2.1.2,h.2⟩
theorem FR_tF{many k:Nat}{l:List Qc}(hB:Q6 l)(h:FL many k l):FR k (l.map tF):=λx hx=>by obtain⟨y,hy,rfl⟩:=List.mem_map.1 hx;exact Fk_tF (hB.2 y hy) (h.2 y hy)
theorem Qvp{a b k:Nat}{p:Qx}{bits:Int}(hB:Vv p)(hk:k≤129)
 (h:(p.Tape.Code.length≤a∧p.Tape.Outs.length≤a∧∀ c∈p.Tape.Code,c.N.N.length≤k∧c.N.D.length≤k)∧(p.Scheme.Name.length≤50∧p.Scheme.A.length≤b∧FL b 4 p.Scheme.B∧FL b 4 p.Scheme.C∧FL b 4 p.Scheme.E∧∀ r∈p.Scheme.A,FL b 4 r)∧FL 6 k p.P) :
 PrbW 129 ⟨tT p.Tape,tS p.Scheme,p.P.map tF,bits⟩:=by
 obtain⟨bt,bs,bp,_⟩:=hB;obtain⟨⟨t1,t2,t3⟩,⟨s1,s2,s3,s4,s5,s6⟩,p1⟩:=h;refine⟨λc hc=>?_,bt.2.2.1,⟨λr hr=>?_,J6 (FR_tF bs.2.2.2.1 s3) (by omega),J6 (FR_tF bs.2.1 s4) (by omega),J6 (FR_tF bs.2.2.2.2.1 s5) (by omega),by show p.Scheme.Name.length≤_;omega⟩,J6 (FR_tF bp p1) hk⟩;obtain⟨d,hd,rfl⟩:=List.mem_map.1 hc;exact Vg (Fk_tF (bt.1.2 d hd).2.2.2.1 (t3 d hd)) hk;obtain⟨d,hd,rfl⟩:=List.mem_map.1 hr;exact J6 (FR_tF (bs.2.2.1.2 d hd) (s6 d hd)) (by omega)
theorem PrbW.mono{j k:Nat}{p:Qh}(h:PrbW j p)(hk:j≤k):PrbW k p:=
 ⟨λc hc=>Vg (h.t c hc) hk,h.d,⟨λr hr=>J6 (h.s.a r hr) hk,J6 h.s.b hk,J6 h.s.c hk,J6 h.s.e hk,h.s.n⟩,J6 h.p hk⟩
set_option maxRecDepth 100000
theorem Qe0{n:Nat}{b:Kt}(hn:big≤n):∃ v,Wn n b=some v∧(v=false->FL 6 2 b.U∧FL 6 2 b.V):=by
 unfold Wn;simp only[jn_eq];obtain⟨v,e1,e2⟩:=Vp (l:=b.U) (many:=6) (k:=2) hn (by decide);obtain⟨w,e3,e4⟩:=Vp (l:=b.V) (many:=6) (k:=2) hn (by decide);rw[show((6:Nat):Int)=6 from rfl,show((2:Nat):Int)=2 from rfl] at e1 e3;rw[e1,sbind];cases v
 case true=>exact⟨true,rfl,λh=>by cases h⟩
 rw[bifF,e3,sbind];cases w
 case true=>exact⟨true,rfl,λh=>by cases h⟩
 exact⟨false,rfl,λ_=>⟨e2 rfl,e4 rfl⟩⟩
theorem Qkv{α:Type}{l:List α}{i:Nat}{x:α}(h:l[i]?=some x):l.take (i+1)=l.take i++[x]:=by rw[List.take_add_one,h];rfl
def fresh(out:List Qch)(i:Nat)(s:List UInt8):Prop:=∀ w,out.getLast?=some w->w.At+w.Text.length≤i∧∀ c r,s=c::r->w.At+w.Text.length=(i:Int)->goC w.Kind c.toNat=false
def FKs(k:Nat)(l:List Qc):Prop:=∀ f∈l,Fk k (tF f)
structure SchWr(k:Nat)(s:Jd):Prop where
 a:∀ r∈s.A,FKs k r
 al:∀ r∈s.A,r.length≤1000000
 b:FKs k s.B
 bl:s.B.length≤1000000
 c:FKs k s.C
 cl:s.C.length≤1000000
 e:FKs k s.E
 el:s.E.length≤1000000
 nl:s.Name.length≤1000000
structure PrbWr(k:Nat)(p:Qx):Prop where
 t:∀ x∈p.Tape.Code,Fk k (tF x.N)
 o:p.Tape.Outs.length≤1000000
 s:SchWr k p.Scheme
 pk:FKs k p.P
 pl:p.P.length≤1000000
set_option maxRecDepth 100000
theorem PrbWr.mono{j k:Nat}{p:Qx}(h:PrbWr j p)(hk:j≤k):PrbWr k p:=
 ⟨λx hx=>Vg (h.t x hx) hk,h.o,⟨λr hr f hf=>Vg (h.s.a r hr f hf) hk,h.s.al,λf hf=>Vg (h.s.b f hf) hk,h.s.bl,λf hf=>Vg (h.s.c f hf) hk,h.s.cl,λf hf=>Vg (h.s.e f hf) hk,h.s.el,h.s.nl⟩,λf hf=>Vg (h.pk f hf) hk,h.pl⟩
set_option maxRecDepth 100000
def addAt(l:List Rat)(a:Int)(c:Rat):List Rat:=l.set a.toNat (l.getD a.toNat 0+c)
theorem Zs{l:List Rat}{a:Int}{c:Rat}:(addAt l a c).length=l.length:=List.length_set
theorem Qgi{l:List Qa}{i:Nat}{x:Qa}(h:l[i]?=some x):(rv l).getD i 0=fv x:=by rw[List.getD_eq_getElem?_getD];unfold rv;rw[List.getElem?_map,h];rfl
structure BkS where
 co:List Rat
 T:Rat
 Y:List Rat
 P:List Rat
def Qca(x:Qs)(c r:Rat)(vs:List Rat)(s:BkS):BkS:=
 if c=0 then s else
 if x.Op=2 then ⟨s.co,s.T+c,s.Y,s.P⟩ else
 if x.Op=3 then ⟨s.co,s.T,addAt s.Y x.A c,s.P⟩ else
 if x.Op=4 then ⟨s.co,s.T,s.Y,addAt s.P x.A c⟩ else
 if x.Op=6 then ⟨addAt s.co x.A (-c),s.T,s.Y,s.P⟩ else
 if x.Op=7 then ⟨addAt (addAt s.co x.A c) x.B c,s.T,s.Y,s.P⟩ else
 if x.Op=8 then ⟨addAt (addAt s.co x.A c) x.B (-c),s.T,s.Y,s.P⟩ else
 if x.Op=9 then ⟨addAt (addAt s.co x.A (c*vs.getD x.B.toNat 0)) x.B (c*vs.getD x.A.toNat 0),s.T,s.Y,s.P⟩ else
 if x.Op=10 then ⟨addAt (addAt s.co x.A (c / vs.getD x.B.toNat 0)) x.B (-(c / vs.getD x.B.toNat 0*r)),s.T,s.Y,s.P⟩ else
 if x.Op=11 then ⟨addAt s.co x.A (c*((x.B:Rat)*turnQ (vs.getD x.A.toNat 0) r x.B)),s.T,s.Y,s.P⟩ else s
theorem Ql1{x:Qs}{c r:Rat}{vs:List Rat}{s:BkS}:(Qca x c r vs s).co.length=s.co.length∧(Qca x c r vs s).Y.length=s.Y.length∧(Qca x c r vs s).P.length=s.P.length:=by
 unfold Qca
 repeat' split
 all_goals simp[Zs]
structure BkW(b:Nat)(co:List Qa)(s:BkS):Prop where
 c:rv co=s.co
 k:FR b co
 t:qw s.T≤b
 y:QR b s.Y
 p:QR b s.P
theorem BkW.mono{b b':Nat}{co:List Qa}{s:BkS}(h:BkW b co s)(hb:b≤b'):BkW b' co s:=⟨h.c,J6 h.k hb,Nat.le_trans h.t hb,Jo h.y hb,Jo h.p hb⟩
set_option maxRecDepth 100000
theorem Qj8{n k:Nat}{a b c d:List Qa}(hn:big≤n)(h1:1≤k)(hk:k<1099511627776)(ha:FR k a)(hb:FR k b)(hc:FR k c)(hd:FR k d)(hl:a.length≤1000000)(hl2:b.length≤1000000):
 Qel n ⟨a,b⟩ ⟨c,d⟩=some (if a.length=c.length∧b.length=d.length then (⟨toR (addQ (rv a) (rv c)),toR (addQ (rv b) (rv d))⟩,true) else (⟨[],[]⟩,false)):=by
 unfold Qel;rw[Qcq hn h1 hk ha hc hl,sbind,Qcq hn h1 hk hb hd hl2,sbind];simp only[jn_eq];by_cases e1:a.length=c.length;by_cases e2:b.length=d.length;rw[if_pos e1,if_pos e2,if_pos ⟨e1,e2⟩];rfl;rw[if_pos e1,if_neg e2,if_neg (λh:a.length=c.length∧b.length=d.length=>e2 h.2)];rfl;rw[if_neg e1,if_neg (λh:a.length=c.length∧b.length=d.length=>e1 h.1)];rfl
section
variable {n k:Nat}{p:Qh}{t h:Qa}{y w:List Qa}{g:Qj}{md:Q2}{sm:Jm}
end
set_option maxRecDepth 100000
structure SameL(a b:BkS):Prop where
 c:b.co.length=a.co.length
 y:b.Y.length=a.Y.length
 p:b.P.length=a.P.length
theorem SameL.bk{x:Qs}{c1 c2 r:Rat}{vs:List Rat}{s1 s2:BkS}(h:SameL s1 s2):SameL (Qca x c1 r vs s1) (Qca x c2 r vs s2):=by obtain⟨a1,a2,a3⟩:=Ql1 (x:=x) (c:=c1) (r:=r) (vs:=vs) (s:=s1);obtain⟨b1,b2,b3⟩:=Ql1 (x:=x) (c:=c2) (r:=r) (vs:=vs) (s:=s2);exact⟨by rw[a1,b1,h.c],by rw[a2,b2,h.y],by rw[a3,b3,h.p]⟩
set_option maxRecDepth 100000
theorem w35:Vb big=some true:=by kernel_rfl
set_option maxRecDepth 100000
def sumN(f:Nat->Rat):Nat->Rat
 | 0=>0
 | i+1=>sumN f i+f i
def psum(a b:List Rat)(i:Nat):Rat:=sumN (λj=>a.getD j 0*b.getD j 0) i
theorem Qe1{a b:List Rat}{i:Nat}:psum a b (i+1)=psum a b i+a.getD i 0*b.getD i 0:=rfl
section
variable {t:Qm}{lim:Int}{T':Rat}{Y' P' vs ds:List Rat}
end
set_option maxRecDepth 100000
theorem Qip{n k:Nat}{a b:List Qa}(hn:big≤n)(h1:1≤k)(hk:k<1000000)(ha:FR k a)(hb:FR k b)(hl:a.length≤1000):
 Qib n a b=some (if a.length=b.length then (toF (psum (rv a) (rv b) a.length),true) else (toF 0,false)):=by
 unfold Qib;rw[Wb hn,sbind];by_cases h:a.length=b.length
 case neg=>rw[if_neg h,decide_eq_false (by omega),Bool.not_false,bifT]
 rw[if_pos h,decide_eq_true (by omega),Bool.not_true,bifF];have bnd:∀ i:Nat,qw (psum (rv a) (rv b) i)≤1+i*(k+k+1):=by
  intro i
  induction i with
  | zero=>show qw 0≤_;rw[Z1];omega
  | succ i ih=>
    have e:=Qae ih (Yx (Wc (i:=i) (QR_rv ha h1) h1) (Wc (i:=i) (QR_rv hb h1) h1));have:(i+1)*(k+k+1)=i*(k+k+1)+(k+k+1):=Nat.succ_mul _ _;rw[Qe1];omega
 rw[Qez (λi=>toF (psum (rv a) (rv b) i)) a]
 . rfl
 . intro i x hx
   have hi:=Ve hx;obtain⟨y,hy⟩:∃ y,b[i]?=some y:=⟨b[i]'(by omega),List.getElem?_eq_getElem _⟩
   have xk:=ha x (Jt hx);have yk:=hb y (Jt hy);have hq:=Yx (qw_fv xk h1) (qw_fv yk h1);have hb:=bnd i;have hm:i*(k+k+1)≤1000*(k+k+1):=Nat.mul_le_mul_right _ (by omega);rw[Kq hy,sbind,Wj hn h1 (by omega) xk yk,sbind,Vw (k:=1+1000*(k+k+1)) hn (by omega) (by omega) (Jp (by omega)) (Jp (by omega)),sbind,Q5,Q5,Qe1,Qgi hx,Qgi hy]
 . rfl
end Go.Proofs.YtlfphifbmoccgaaGreatDoor
