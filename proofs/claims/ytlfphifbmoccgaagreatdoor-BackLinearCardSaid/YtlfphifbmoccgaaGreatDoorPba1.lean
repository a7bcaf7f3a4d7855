import Derived.KernelRfl
import Derived.Test.YtlfphifbmoccgaaGreatDoorMod
import Derived.Test.YtlfphifbmoccgaaGreatDoorModba
import Derived.Test.YtlfphifbmoccgaaGreatDoorP1
import Derived.Test.YtlfphifbmoccgaaGreatDoorP2
import Derived.Test.YtlfphifbmoccgaaGreatDoorPb1
namespace Go.Proofs.YtlfphifbmoccgaaGreatDoor
open Go Go.RowKit
set_option maxRecDepth 100000
def linS(c:Rat)(a b:BkS):BkS:=⟨linQ c a.co b.co,c*a.T+b.T,linQ c a.Y b.Y,linQ c a.P b.P⟩
theorem Qbn{c x y:Rat}{a b:List Rat}{i:Int}(h:b.length=a.length):addAt (linQ c a b) i (c*x+y)=linQ c (addAt a i x) (addAt b i y):=by unfold addAt;rw[Qin h];generalize i.toNat=i;rw[show c*a.getD i 0+b.getD i 0+(c*x+y)=c*(a.getD i 0+x)+(b.getD i 0+y) by grind];generalize a.getD i 0+x=u;generalize b.getD i 0+y=v;unfold linQ;apply List.ext_getElem;simp[h];intro j h1 h2;simp only[List.getElem_set,List.getElem_zipWith];split<;>rfl
theorem Qy1{c x y w:Rat}:(c*x+y)*w=c*(x*w)+y*w:=by grind
theorem Jeb{c x y w r:Rat}:-((c*x+y)*w*r)=c * -(x*w*r)+-(y*w*r):=by grind
theorem Jec{c x y a b:Rat}:c*a+b+(c*x+y)=c*(a+x)+(b+y):=by grind
theorem Jb4{c x1 x2 r:Rat}{x:Qs}{vs:List Rat}{s1 s2:BkS}(h:SameL s1 s2):bk1 x (c*x1+x2) r vs (linS c s1 s2)=linS c (bk1 x x1 r vs s1) (bk1 x x2 r vs s2):=by obtain⟨h1,h2,h3⟩:=h;unfold bk1;generalize turnQ (vs.getD x.A.toNat 0) r x.B=tq;generalize vs.getD x.A.toNat 0=va;generalize vs.getD x.B.toNat 0=vb;simp only[Rat.div_def];generalize vb⁻¹=wb;generalize (x.B:Rat)=e;split;unfold linS;rw[Jec];split;unfold linS;rw[Qbn h2];split;unfold linS;rw[Qbn h3];split;unfold linS;rw[Q34,Qbn h1];split;unfold linS;rw[Qbn h1,Qbn (by rw[Zs,Zs,h1])];split;unfold linS;rw[Q34,Qbn h1,Qbn (by rw[Zs,Zs,h1])];split;unfold linS;rw[Qy1,Qy1,Qbn h1,Qbn (by rw[Zs,Zs,h1])];split;unfold linS;rw[Jeb,Qy1,Qbn h1,Qbn (by rw[Zs,Zs,h1])];split;unfold linS;rw[Qy1,Qbn h1];rfl
theorem Q4k{lim:Int}{code:List Qs}{vs:List Rat}{c:Rat}:∀ {i:Nat}{s1 s2 z1 z2 z3},SameL s1 s2->pullQ lim code vs i s1=.inr z1->pullQ lim code vs i s2=.inr z2->pullQ lim code vs i (linS c s1 s2)=.inr z3->z3=linS c z1 z2∧SameL z1 z2
 | 0,s1,s2,z1,z2,z3,h,h1,h2,h3=>by simp only[pullQ] at h1 h2 h3;cases h1;cases h2;cases h3;exact⟨rfl,h⟩
 | i+1,s1,s2,z1,z2,z3,h,h1,h2,h3=>by
   simp only[pullQ] at h1 h2 h3;cases hx:code[i]? with
   | none=>rw[hx] at h1 h2 h3;cases h1;cases h2;cases h3;exact⟨rfl,h⟩
   | some x=>
     rw[hx] at h1 h2 h3;simp only[] at h1 h2 h3;split at h1
     case isFalse=>cases h1
     split at h2
     case isFalse=>cases h2
     split at h3
     case isFalse=>cases h3
     have e:(linS c s1 s2).co.getD i 0=c*s1.co.getD i 0+s2.co.getD i 0:=Qin h.c;rw[e,Qy0,Jb4 h,←Qy0,←Qy0] at h3;exact Q4k h.bk h1 h2 h3
theorem Q9g{c:Rat}:∀ {os:List Int}{w1 w2 a b:List Rat},w2.length=w1.length->b.length=a.length →
 (List.zip os (linQ c w1 w2)).foldl (λco z=>addAt co z.1 z.2) (linQ c a b)=linQ c ((List.zip os w1).foldl (λco z=>addAt co z.1 z.2) a) ((List.zip os w2).foldl (λco z=>addAt co z.1 z.2) b)
 | [],_,_,_,_,_,_=>by simp
 | _::_,[],[],_,_,_,_=>by simp[linQ]
 | _::_,[],_::_,_,_,h,_=>by simp at h
 | _::_,_::_,[],_,_,h,_=>by simp at h
 | o::os,x::w1,y::w2,a,b,h,hl=>by show(List.zip (o::os) ((c*x+y)::linQ c w1 w2)).foldl (λco z=>addAt co z.1 z.2) (linQ c a b)=_;simp only[List.zip_cons_cons,List.foldl_cons];rw[Qbn hl];exact Q9g (by simpa using h) (by rw[Zs,Zs,hl])
theorem Jb5{c:Rat}{m:Nat}{os:List Int}{w1 w2:List Rat}(h:w2.length=w1.length):coQ m os (linQ c w1 w2)=linQ c (coQ m os w1) (coQ m os w2):=by unfold coQ;rw[show List.replicate m (0:Rat)=linQ c (List.replicate m 0) (List.replicate m 0) from Qio m,Q9g h rfl,←Qio]
theorem Jaq{t:Qm}{lim:Int}{T c:Rat}{Y P w1 w2:List Rat}{z1 z2 z3}(hw:w2.length=w1.length)(h1:backQ t lim T Y P w1=.inr z1)(h2:backQ t lim T Y P w2=.inr z2)(h3:backQ t lim T Y P (linQ c w1 w2)=.inr z3):
 z3.2.1=linQ c z1.2.1 z2.2.1∧z3.2.2=linQ c z1.2.2 z2.2.2:=by
 obtain⟨v1,x1,r1,p1,rfl⟩:=Qmq h1;obtain⟨v2,x2,r2,p2,rfl⟩:=Qmq h2;obtain⟨v3,x3,r3,p3,rfl⟩:=Qmq h3;rw[r1] at r2 r3;cases r2;cases r3;rw[Jb5 hw] at p3;have e:(⟨linQ c (coQ v1.length t.Outs w1) (coQ v1.length t.Outs w2),0,List.replicate t.Dim.toNat 0,List.replicate t.Par.toNat 0⟩:BkS)=linS c ⟨coQ v1.length t.Outs w1,0,List.replicate t.Dim.toNat 0,List.replicate t.Par.toNat 0⟩ ⟨coQ v1.length t.Outs w2,0,List.replicate t.Dim.toNat 0,List.replicate t.Par.toNat 0⟩:=by
  unfold linS;simp only[];rw[←Qio,←Qio,show c*0+0=(0:Rat) by grind]
 rw[e] at p3;have hS:SameL ⟨coQ v1.length t.Outs w1,0,List.replicate t.Dim.toNat 0,List.replicate t.Par.toNat 0⟩ ⟨coQ v1.length t.Outs w2,0,List.replicate t.Dim.toNat 0,List.replicate t.Par.toNat 0⟩:=⟨by simp only[Q52],rfl,rfl⟩
 obtain⟨q1,_⟩:=Q4k (c:=c) hS p1 p2 p3;subst q1;exact⟨rfl,rfl⟩
theorem Jar{As:List (List Rat)}{c b H:Rat}{m i:Nat}{W1 W2:List Rat}{l1 l2:List (List Rat)}(h1:W1.length=m)(h2:W2.length=m)(hl:l2.length=l1.length)(g1:∀ a∈l1,a.length=m)(g2:∀ a∈l2,a.length=m):
 bslQ As b H (linQ c W1 W2) i (linR c l1 l2)=linQ c (bslQ As b H W1 i l1) (bslQ As b H W2 i l2):=by
 unfold bslQ;rw[Qu4,Q0c (m:=m) hl g1 g2 (by rw[X6];exact h1) (by rw[X6];exact h2),Qu4]
def linB(c:Rat)(a b:BdS):BdS:=⟨linR c a.ls b.ls,linQ c a.Y b.Y,linQ c a.P b.P⟩
theorem Qwp{t:Qm}{s:Qt}{lim:Int}{T H c:Rat}{P W1 W2:List Rat}{yss:List (List Rat)}(hW1:W1.length=t.Dim.toNat)(hW2:W2.length=t.Dim.toNat):∀ {i:Nat}{a1 a2 z1 z2 z3},BdL t.Dim.toNat t.Par.toNat a1->BdL t.Dim.toNat t.Par.toNat a2->a2.ls.length=a1.ls.length →
 bstagesQ t s lim T H P W1 yss i a1=.inr z1->bstagesQ t s lim T H P W2 yss i a2=.inr z2->bstagesQ t s lim T H P (linQ c W1 W2) yss i (linB c a1 a2)=.inr z3->z3=linB c z1 z2
 | 0,a1,a2,z1,z2,z3,_,_,_,h1,h2,h3=>by simp only[bstagesQ] at h1 h2 h3;cases h1;cases h2;cases h3;rfl
 | i+1,a1,a2,z1,z2,z3,g1,g2,gl,h1,h2,h3=>by
   simp only[bstagesQ] at h1 h2 h3;rw[show(linB c a1 a2).ls=linR c a1.ls a2.ls from rfl,Jar hW1 hW2 gl g1.l g2.l] at h3;have kl1:=Qxe (As:=s.A.map rv) (b:=(rv s.B).getD i 0) (H:=H) (i:=i) (W:=W1) (l:=a1.ls) (by rw[hW1];exact g1.l);have kl2:=Qxe (As:=s.A.map rv) (b:=(rv s.B).getD i 0) (H:=H) (i:=i) (W:=W2) (l:=a2.ls) (by rw[hW2];exact g2.l);generalize bslQ (s.A.map rv) ((rv s.B).getD i 0) H W1 i a1.ls=k1 at h1 h3 kl1;generalize bslQ (s.A.map rv) ((rv s.B).getD i 0) H W2 i a2.ls=k2 at h2 h3 kl2;cases s1:bstageQ t lim T H P (yss.getD i []) ((rv s.C).getD i 0) k1 i with
   | inl f=>rw[s1] at h1;cases h1
   | inr w1=>
   cases s2:bstageQ t lim T H P (yss.getD i []) ((rv s.C).getD i 0) k2 i with
   | inl f=>rw[s2] at h2;cases h2
   | inr w2=>
   cases s3:bstageQ t lim T H P (yss.getD i []) ((rv s.C).getD i 0) (linQ c k1 k2) i with
   | inl f=>rw[s3] at h3;cases h3
   | inr w3=>
   rw[s1] at h1;rw[s2] at h2;rw[s3] at h3;obtain⟨x1,b1,rfl⟩:=Qjx s1;obtain⟨x2,b2,rfl⟩:=Qjx s2;obtain⟨x3,b3,rfl⟩:=Qjx s3;obtain⟨e1,e2⟩:=Jaq (by omega) b1 b2 b3;obtain⟨l1,l2⟩:=Qxd b1;obtain⟨l3,l4⟩:=Qxd b2;simp only[] at h1 h2 h3;have e:(⟨x3.2.1::linR c a1.ls a2.ls,addQ (linB c a1 a2).Y x3.2.1,addQ (linB c a1 a2).P x3.2.2⟩:BdS)=linB c ⟨x1.2.1::a1.ls,addQ a1.Y x1.2.1,addQ a1.P x1.2.2⟩ ⟨x2.2.1::a2.ls,addQ a2.Y x2.2.1,addQ a2.P x2.2.2⟩:=by
    unfold linB;simp only[];rw[e1,e2,Q0b (by rw[g1.y,g2.y]) (by rw[l1,g1.y]) (by rw[l3,g1.y]),Q0b (by rw[g1.p,g2.p]) (by rw[l2,g1.p]) (by rw[l4,g1.p])];rfl
   rw[e] at h3;exact Qwp hW1 hW2 (g1.step l1 l2) (g2.step l3 l4) (by simp only[List.length_cons];omega) h1 h2 h3
theorem Jb6{t:Qm}{s:Qt}{lim:Int}{T H c:Rat}{P W1 W2:List Rat}{yss:List (List Rat)}{z1 z2 z3}(hP:P.length=t.Par.toNat)(hW1:W1.length=t.Dim.toNat)(hW2:W2.length=t.Dim.toNat)
 (h1:bdoQ t s lim T H P W1 yss=.inr z1) (h2:bdoQ t s lim T H P W2 yss=.inr z2) (h3:bdoQ t s lim T H P (linQ c W1 W2) yss=.inr z3):z3=(linQ c z1.1 z2.1,linQ c z1.2 z2.2):=by
 obtain⟨x1,b1,rfl⟩:=Qph h1;obtain⟨x2,b2,rfl⟩:=Qph h2;obtain⟨x3,b3,rfl⟩:=Qph h3;have e:(⟨[],linQ c W1 W2,List.replicate P.length 0⟩:BdS)=linB c ⟨[],W1,List.replicate P.length 0⟩ ⟨[],W2,List.replicate P.length 0⟩:=by unfold linB;simp only[];rw[←Qio];rfl
 rw[e] at b3;have g1:BdL t.Dim.toNat t.Par.toNat ⟨[],W1,List.replicate P.length 0⟩:=⟨hW1,by simp;exact hP,λ_ h=>by cases h⟩
 have g2:BdL t.Dim.toNat t.Par.toNat ⟨[],W2,List.replicate P.length 0⟩:=⟨hW2,by simp;exact hP,λ_ h=>by cases h⟩
 have:=Qwp hW1 hW2 g1 g2 rfl b1 b2 b3;subst this;rfl
theorem Q7c{p:Qh}{T H c:Rat}{Y W1 W2:List Rat}{z1 z2 z3}(h1:backThQ p T H Y W1=.inr z1)(h2:backThQ p T H Y W2=.inr z2)(h3:backThQ p T H Y (linQ c W1 W2)=.inr z3):z3.2=(linQ c z1.2.1 z2.2.1,linQ c z1.2.2 z2.2.2):=by
 obtain⟨l1,l2⟩:=Qhm h1;obtain⟨l3,_⟩:=Qhm h2;obtain⟨a1,_,a3⟩:=Qiq h1;obtain⟨b1,_,b3⟩:=Qiq h2;obtain⟨c1,_,c3⟩:=Qiq h3;rw[a1] at b1 c1;injection b1 with b1
 injection c1 with c1
 rw[←b1] at b3;rw[←c1] at c3;exact Jb6 l2 l1 l3 a3 b3 c3
set_option maxRecDepth 100000
theorem Q0h{a b:List Rat}:addQ a b=linQ 1 a b:=by unfold addQ linQ;congr 1;funext x y;rw[Rat.one_mul]
theorem Q0i(p:Qx)(f:J9)(w:Xp)(hB:Vv p)(hF:Zh f)(hb:Qgk w):∃ n,Yq n p f w=some true:=by
 refine⟨big,?_⟩;have hn:big≤big:=Nat.le_refl _;unfold Yq;simp only[jn_eq];obtain⟨v,e1,e2⟩:=Qhs (p:=p) (a:=10) (b:=4) (k:=2) hn (by decide) (by decide);rw[show((10:Nat):Int)=10 from rfl,show((4:Nat):Int)=4 from rfl,show((2:Nat):Int)=2 from rfl] at e1;rw[e1,sbind];cases v
 case true=>rw[bifT,bifT,w35];rfl
 obtain⟨⟨t1,t2,t3⟩,⟨s1,s2,s3,s4,s5,s6⟩,p1⟩:=e2 rfl;rw[bifF];by_cases c1:(3:Int)<(p.Scheme.B.length:Int)
 . rw[decide_eq_true c1,bifT,bifT,w35];rfl
 rw[decide_eq_false c1,bifF];obtain⟨v,e3,e4⟩:=Ql0 (f:=f) hn;rw[e3,sbind];cases v
 case true=>rw[bifT,bifT,w35];rfl
 obtain⟨f1,f2,f3⟩:=e4 rfl;obtain⟨v,e5,e6⟩:=Vp (l:=w.a0) (many:=6) (k:=2) hn (by decide);rw[show((6:Nat):Int)=6 from rfl,show((2:Nat):Int)=2 from rfl] at e5;rw[bifF,e5,sbind];cases v
 case true=>rw[bifT,bifT,w35];rfl
 obtain⟨v,e7,e8⟩:=Vp (l:=w.a1) (many:=6) (k:=2) hn (by decide);rw[show((6:Nat):Int)=6 from rfl,show((2:Nat):Int)=2 from rfl] at e7;rw[bifF,e7,sbind];cases v
 case true=>rw[bifT,w35];rfl
 rw[bifF];have u1:=e6 rfl;have u2:=e8 rfl;have hw:=Qvp (bits:=1500) hB (by decide) (e2 rfl);have hT:Fk 129 (tF f.T):=Vg (Fk_tF hF.1 f1) (by decide);have hH:Fk 129 (tF f.H):=Vg (Fk_tF hF.2.1 f2) (by decide);have hY:FR 129 (f.Y.map tF):=J6 (FR_tF hF.2.2.1 f3) (by decide);have hW1:=FR_tF hb.1 u1;have hW2:=FR_tF hb.2.1 u2;have lW1:(w.a0.map tF).length≤6:=by have:=u1.1;rw[List.length_map];omega
 have to:∀ x:Qc,Jf x=some (tF x):=λ_=>rfl;rw[Qj7 hn (by omega) (by omega) (by omega) (by have:=s3.1;omega) (by have:=s4.1;omega) (by have:=s5.1;omega) (λr hr=>by have:=(s6 r hr).1;omega) (by have:=p1.1;omega),sbind,to,sbind,to,sbind,Kd hn (by have:=f3.1;omega),sbind,Kd hn (by have:=u1.1;omega),sbind,Kd hn (by have:=u2.1;omega),sbind];rw[show(⟨(tP p).Tape,(tP p).Scheme,(tP p).P,1500⟩:Qh)=⟨tT p.Tape,tS p.Scheme,p.P.map tF,1500⟩ from rfl];generalize (⟨tT p.Tape,tS p.Scheme,p.P.map tF,1500⟩:Qh)=q at hw ⊢;generalize f.Y.map tF=y at *;generalize w.a0.map tF=W1 at *;generalize w.a1.map tF=W2 at *;generalize tF f.T=t at *;generalize tF f.H=h at *;rw[Qcq (k:=2) hn (by decide) (by decide) hW1 hW2 (by omega),sbind,sbind];obtain⟨d1,x1,z1⟩:=Qb2 (t:=t) (h:=h) (y:=y) (w:=W1) hn (by decide) (by decide) hw hT hH hY (J6 hW1 (by decide));obtain⟨d2,x2,z2⟩:=Qb2 (t:=t) (h:=h) (y:=y) (w:=W2) hn (by decide) (by decide) hw hT hH hY (J6 hW2 (by decide));rw[d1,sbind,sbind,d2,sbind];by_cases hl:W1.length=W2.length
 case neg=>
  obtain⟨d3,_,_⟩:=Qb2 (t:=t) (h:=h) (y:=y) (w:=[]) hn (by decide) (by decide) hw hT hH hY (λ_ h=>by cases h);rw[if_neg hl];simp only[];rw[d3,sbind,Bool.not_false,bifT,bifT,w35];rfl
 have qa:QR 129 (addQ (rv W1) (rv W2)):=Jo (Qjw (QR_rv hW1 (by decide)) (QR_rv hW2 (by decide))) (by decide);obtain⟨d3,x3,z3⟩:=Qb2 (t:=t) (h:=h) (y:=y) (w:=toR (addQ (rv W1) (rv W2))) hn (by decide) (by decide) hw hT hH hY (Kl qa);rw[if_pos hl];simp only[];rw[d3,sbind,Bool.not_true,bifF];rw[Ky] at x3 z3 ⊢;cases hs1:backThQ q (fv t) (fv h) (rv y) (rv W1) with
 | inl e=>
   have:=x1 e hs1;obtain⟨a1,a2,a3,a4⟩:=e;simp only[];rw[Kv this,Bool.not_false,bifT,bifT,w35];rfl
 | inr r1=>
 cases hs2:backThQ q (fv t) (fv h) (rv y) (rv W2) with
 | inl e=>
   have:=x2 e hs2;obtain⟨a1,a2,a3,a4⟩:=e;simp only[];rw[Ku,Bool.not_true,bifF,Kv this,Bool.not_false,bifT,bifT,w35];rfl
 | inr r2=>
 cases hs3:backThQ q (fv t) (fv h) (rv y) (addQ (rv W1) (rv W2)) with
 | inl e=>
   have:=x3 e hs3;obtain⟨a1,a2,a3,a4⟩:=e;simp only[];rw[Ku,Bool.not_true,bifF,bifF,Kv this,Bool.not_false,bifT,w35];rfl
 | inr r3=>
 obtain⟨_,b1,b2,b3,b4,b5⟩:=z1 r1 hs1;obtain⟨_,c1,c2,c3,c4,c5⟩:=z2 r2 hs2;obtain⟨_,g1,g2,g3,g4,_⟩:=z3 r3 hs3;rw[Q0h] at hs3;have key:=Q7c hs1 hs2 hs3;rw[←Q0h,←Q0h] at key;have k1:r3.2.1=addQ r1.2.1 r2.2.1:=by rw[key]
 have k2:r3.2.2=addQ r1.2.2 r2.2.2:=by rw[key]
 have hpl:q.P.length≤1000000:=by obtain⟨l1,l2⟩:=Qhm hs1;obtain⟨⟨d1,d2⟩,⟨d3,d4⟩,d5,d6⟩:=(Qba (Qiq hs1).1).1.1.1;rw[Jb] at l2;omega
 simp only[];rw[Ku,Bool.not_true,bifF,bifF,bifF,Qj8 (k:=129) hn (by decide) (by decide) (Kl b1) (Kl b2) (Kl c1) (Kl c2) (by rw[Q7];omega) (by rw[Q7];omega),sbind,Q7,Q7,Q7,Q7,if_pos ⟨by omega,by omega⟩];simp only[];rw[Ky,Ky,Ky,Ky,←k1,←k2,bifT,Qcz (k:=129) hn (by decide) (by decide) (Kl g1) (Kl g1),sbind,decide_eq_true rfl,bifT,Qcz (k:=129) hn (by decide) (by decide) (Kl g2) (Kl g2),sbind,decide_eq_true rfl,bifT,w35];rfl
end Go.Proofs.YtlfphifbmoccgaaGreatDoor
