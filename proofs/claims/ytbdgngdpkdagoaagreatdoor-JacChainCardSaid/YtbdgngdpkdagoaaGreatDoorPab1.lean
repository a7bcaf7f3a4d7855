import Derived.Test.YtbdgngdpkdagoaaGreatDoorModab
import Derived.Test.YtbdgngdpkdagoaaGreatDoorPa1
namespace Go.Proofs.YtbdgngdpkdagoaaGreatDoor
open Go Go.RowKit
theorem Q94{p:Qg}:∀ {hs ks:List Rat}{i:Nat}{T:Rat}{Y:List Rat}{tr:List TryQ},marchQ p (hs++ks) i T Y tr=match marchQ p hs i T Y tr with | .inl f=>.inl f | .inr z=>marchQ p ks (i+hs.length) z.2.1 z.2.2 z.1
 | [],ks,i,T,Y,tr=>rfl
 | h::hs,ks,i,T,Y,tr=>by
   simp only[yu,marchQ];cases stepQ p T h Y with
   | inl f=>rfl
   | inr z=>
     simp only[];rw[Q94,xn,show i+(hs.length+1)=i+1+hs.length by omega]
theorem Q3s{p:Qg}{m:Nat}:∀ {hs:List Rat}{i:Nat}{T:Rat}{Y:List Rat}{tr tr':List TryQ},marchQ p hs (i+m) T Y (tr'++tr)=match marchQ p hs i T Y tr with | .inl f=>.inl ⟨f.Ax,f.Ba+m,f.A4,f.At⟩ | .inr z=>.inr (tr'++z.1,z.2.1,z.2.2)
 | [],i,T,Y,tr,tr'=>rfl
 | h::hs,i,T,Y,tr,tr'=>by
   simp only[marchQ];cases stepQ p T h Y with
   | inl f=>simp only[];congr 2;omega
   | inr z=>
     simp only[];rw[xf,show i+m+1=i+1+m by omega,Q3s]
set_option maxRecDepth 100000
theorem Jj7{c a b:Rat}:-(c*a+b)=c * -a+-b:=by grind
def linR(c:Rat)(a b:List (List Rat)):List (List Rat):=List.zipWith (linQ c) a b
theorem Q8k{c:Rat}{d e f g:List Rat}(j:e.length=d.length)(k:f.length=d.length)(l:g.length=d.length):addQ (linQ c d e) (linQ c f g)=linQ c (addQ d f) (addQ e g):=by apply vh;simp[addQ,linQ,j,k,l];intro i a b;simp only[addQ,linQ,List.getElem_zipWith];grind
theorem Q95{c H:Rat}{a b:List Rat}:scaleQ H (linQ c a b)=linQ c (scaleQ H a) (scaleQ H b):=by apply vh;simp[scaleQ,linQ];intro i x y;simp only[scaleQ,linQ,List.getElem_zipWith,gy];grind
theorem Jl4{c e:Rat}{a1 a2 d f:List Rat}(g:a2.length=a1.length)(j:d.length=a1.length)(k:f.length=a1.length):
 List.zipWith (λx o=>o+e*x) (linQ c a1 a2) (linQ c d f)=linQ c (List.zipWith (λx o=>o+e*x) a1 d) (List.zipWith (λx o=>o+e*x) a2 f):=by
 apply vh;simp[linQ,g,j,k];intro i a b;simp only[linQ,List.getElem_zipWith];grind
theorem Jf6{c:Rat}{m:Nat}:∀ {cs:List Rat}{l1 g:List (List Rat)}{d f:List Rat},g.length=l1.length->(∀ a∈l1,a.length=m)->(∀ a∈g,a.length=m)->d.length=m->f.length=m ->
 mixQ cs (linR c l1 g) (linQ c d f)=linQ c (mixQ cs l1 d) (mixQ cs g f)
 | [],l1,g,d,f,_,_,_,_,_=>by simp[mixQ]
 | e::cs,[],[],d,f,_,_,_,_,_=>by simp[mixQ,linR]
 | e::cs,[],_::_,d,f,h,_,_,_,_=>by simp at h
 | e::cs,_::_,[],d,f,h,_,_,_,_=>by simp at h
 | e::cs,a1::l1,a2::g,d,f,h,j,k,g1,l=>by have k1:=j a1 (.head _);have k2:=k a2 (.head _);show mixQ cs (linR c l1 g) (List.zipWith (λx o=>o+e*x) (linQ c a1 a2) (linQ c d f))=linQ c (mixQ cs l1 (List.zipWith (λx o=>o+e*x) a1 d)) (mixQ cs g (List.zipWith (λx o=>o+e*x) a2 f));rw[Jl4 om om om];exact Jf6 (by simpa using h) (λa i=>j a (.tail _ i)) (λa i=>k a (.tail _ i)) oh oh
set_option maxRecDepth 100000
def linS(c:Rat)(a b:BkS):BkS:=⟨linQ c a.co b.co,c*a.T+b.T,linQ c a.Y b.Y,linQ c a.P b.P⟩
theorem Qd0{c x y:Rat}{a b:List Rat}{i:Int}(h:b.length=a.length):addAt (linQ c a b) i (c*x+y)=linQ c (addAt a i x) (addAt b i y):=by unfold addAt;rw[Qmd h];generalize i.toNat=i;rw[show c*a.getD i 0+b.getD i 0+(c*x+y)=c*(a.getD i 0+x)+(b.getD i 0+y) by grind];generalize a.getD i 0+x=u;generalize b.getD i 0+y=v;unfold linQ;apply vh;simp[h];intro j d e;simp only[List.getElem_set,List.getElem_zipWith];split<;>rfl
theorem Q6n{c x y w:Rat}:(c*x+y)*w=c*(x*w)+y*w:=by grind
theorem Jqt{c x y w r:Rat}:-((c*x+y)*w*r)=c * -(x*w*r)+-(y*w*r):=by grind
theorem Jqu{c x y a b:Rat}:c*a+b+(c*x+y)=c*(a+x)+(b+y):=by grind
theorem Jn1{c f x2 r:Rat}{x:Qv}{vs:List Rat}{s1 d:BkS}(h:SameL s1 d):bk1 x (c*f+x2) r vs (linS c s1 d)=linS c (bk1 x f r vs s1) (bk1 x x2 r vs d):=by obtain⟨a,g,i⟩:=h;unfold bk1;generalize turnQ (vs.getD x.A.toNat 0) r x.B=tq;generalize vs.getD x.A.toNat 0=va;generalize vs.getD x.B.toNat 0=vb;simp only[db];generalize vb⁻¹=wb;generalize (x.B:Rat)=e;split;unfold linS;rw[Jqu];split;unfold linS;rw[Qd0 g];split;unfold linS;rw[Qd0 i];split;unfold linS;rw[Jj7,Qd0 a];split;unfold linS;rw[Qd0 a,Qd0 (by rw[Yw,Yw,a])];split;unfold linS;rw[Jj7,Qd0 a,Qd0 (by rw[Yw,Yw,a])];split;unfold linS;rw[Q6n,Q6n,Qd0 a,Qd0 (by rw[Yw,Yw,a])];split;unfold linS;rw[Jqt,Q6n,Qd0 a,Qd0 (by rw[Yw,Yw,a])];split;unfold linS;rw[Q6n,Qd0 a];rfl
theorem Jj8{c:Rat}:∀ {os:List Int}{w1 d a b:List Rat},d.length=w1.length->b.length=a.length ->
 (List.zip os (linQ c w1 d)).foldl (λco z=>addAt co z.1 z.2) (linQ c a b)=linQ c ((List.zip os w1).foldl (λco z=>addAt co z.1 z.2) a) ((List.zip os d).foldl (λco z=>addAt co z.1 z.2) b)
 | [],_,_,_,_,_,_=>oc
 | _::_,[],[],_,_,_,_=>by simp[linQ]
 | _::_,[],_::_,_,_,h,_=>by simp at h
 | _::_,_::_,[],_,_,h,_=>by simp at h
 | o::os,x::w1,y::d,a,b,h,e=>by show(List.zip (o::os) ((c*x+y)::linQ c w1 d)).foldl (λco z=>addAt co z.1 z.2) (linQ c a b)=_;simp only[List.zip_cons_cons,dr];rw[Qd0 e];exact Jj8 (by simpa using h) (by rw[Yw,Yw,e])
theorem Jn2{c:Rat}{m:Nat}{os:List Int}{w1 a:List Rat}(h:a.length=w1.length):coQ m os (linQ c w1 a)=linQ c (coQ m os w1) (coQ m os a):=by unfold coQ;rw[show List.replicate m (0:Rat)=linQ c (List.replicate m 0) (List.replicate m 0) from Qme m,Jj8 h rfl,<-Qme]
theorem Jl5{As:List (List Rat)}{c b H:Rat}{m i:Nat}{e f:List Rat}{l1 d:List (List Rat)}(j:e.length=m)(k:f.length=m)(l:d.length=l1.length)(g1:∀ a∈l1,a.length=m)(g:∀ a∈d,a.length=m):
 bslQ As b H (linQ c e f) i (linR c l1 d)=linQ c (bslQ As b H e i l1) (bslQ As b H f i d):=by
 unfold bslQ;rw[Q95,Jf6 (m:=m) l g1 g (by rw[W6];exact j) (by rw[W6];exact k),Q95]
def linB(c:Rat)(a b:BdS):BdS:=⟨linR c a.ls b.ls,linQ c a.Y b.Y,linQ c a.P b.P⟩
set_option maxRecDepth 100000
theorem Jdx{k:Nat}{a b:List Rat}(d:1<=k)(e:QR k a)(hb:QR k b):∀ i:Nat,qw (psum a b i)<=1+i*(2*k+1)
 | 0=>by show qw (0:Rat)<=_;rw[Zo];omega
 | i+1=>by rw[Qrs,uz];have:=Zx (Jdx d e hb i) (X0 (Vp (i:=i) e d) (Vp (i:=i) hb d));omega
set_option maxRecDepth 100000
def pullP(code:List Qv)(vs:List Rat):Nat->BkS->BkS
 | 0,s=>s
 | i+1,s=>match code[i]? with
   | none=>s
   | some x=>pullP code vs i (Yx x (s.co.getD i 0) (vs.getD i 0) vs s)
theorem Q96{lim:Int}{code:List Qv}{vs:List Rat}:∀ {i:Nat}{s z},pullQ lim code vs i s=.inr z->z=pullP code vs i s
 | 0,s,z,h=>by simp only[pullQ] at h;cases h;rfl
 | i+1,s,z,h=>by
   simp only[pullQ] at h;simp only[pullP];cases a:code[i]? with
   | none=>rw[a] at h;cases h;rfl
   | some x=>
     rw[a] at h;simp only[] at h |-;split at h
     case isFalse=>cases h
     exact Q96 h
theorem Q97{code:List Qv}{vs:List Rat}{c:Rat}:∀ {i:Nat}{s1 a},SameL s1 a->pullP code vs i (linS c s1 a)=linS c (pullP code vs i s1) (pullP code vs i a)
 | 0,_,_,_=>rfl
 | i+1,s1,a,h=>by
   simp only[pullP];cases d:code[i]? with
   | none=>rfl
   | some x=>
     simp only[];have e:(linS c s1 a).co.getD i 0=c*s1.co.getD i 0+a.co.getD i 0:=Qmd h.c;rw[e,Q6e,Jn1 h,<-Q6e,<-Q6e];exact Q97 h.bk
theorem Q98{code:List Qv}{vs:List Rat}:∀ {i:Nat}{s},SameL s (pullP code vs i s)
 | 0,_=>⟨rfl,rfl,rfl⟩
 | i+1,s=>by
   simp only[pullP];cases a:code[i]? with
   | none=>exact⟨rfl,rfl,rfl⟩
   | some x=>
     simp only[];have:=Q98 (code:=code) (vs:=vs) (i:=i) (s:=Yx x (s.co.getD i 0) (vs.getD i 0) vs s);obtain⟨a1,a2,a3⟩:=Qkk (x:=x) (c:=s.co.getD i 0) (r:=vs.getD i 0) (vs:=vs) (s:=s);exact⟨by rw[this.c,a1],by rw[this.y,a2],by rw[this.p,a3]⟩
def vsQ(t:Qm)(lim:Int)(T:Rat)(Y P:List Rat):List Rat:=match runQ lim T Y P t.Code 0 [] with
 | .inl _=>[]
 | .inr vs=>vs
def backP(t:Qm)(lim:Int)(T:Rat)(Y P w:List Rat):List Rat×List Rat:=
 let x:=pullP t.Code (vsQ t lim T Y P) (vsQ t lim T Y P).length ⟨coQ (vsQ t lim T Y P).length t.Az w,0,List.replicate t.A0.toNat 0,List.replicate t.A3.toNat 0⟩
 (x.Y,x.P)
theorem Jj9{t:Qm}{lim:Int}{T:Rat}{Y P w:List Rat}{z}(h:backQ t lim T Y P w=.inr z):(z.2.1,z.2.2)=backP t lim T Y P w:=by
 obtain⟨vs,x,a,d,rfl⟩:=Q4c h;have e:vsQ t lim T Y P=vs:=by unfold vsQ;rw[a]
 unfold backP;rw[e,<-Q96 d]
theorem Jka{t:Qm}{lim:Int}{T c:Rat}{Y P w1 a:List Rat}(f:a.length=w1.length):
 backP t lim T Y P (linQ c w1 a)=(linQ c (backP t lim T Y P w1).1 (backP t lim T Y P a).1,linQ c (backP t lim T Y P w1).2 (backP t lim T Y P a).2):=by
 unfold backP;generalize vsQ t lim T Y P=vs;have e:(⟨coQ vs.length t.Az (linQ c w1 a),0,List.replicate t.A0.toNat 0,List.replicate t.A3.toNat 0⟩:BkS)=linS c ⟨coQ vs.length t.Az w1,0,List.replicate t.A0.toNat 0,List.replicate t.A3.toNat 0⟩ ⟨coQ vs.length t.Az a,0,List.replicate t.A0.toNat 0,List.replicate t.A3.toNat 0⟩:=by unfold linS;simp only[];rw[<-Qme,<-Qme,show c*0+0=(0:Rat) by grind,Jn2 f]
 have d:SameL ⟨coQ vs.length t.Az w1,0,List.replicate t.A0.toNat 0,List.replicate t.A3.toNat 0⟩ ⟨coQ vs.length t.Az a,0,List.replicate t.A0.toNat 0,List.replicate t.A3.toNat 0⟩:=⟨by simp only[Q8c],rfl,rfl⟩
 simp only[];rw[e,Q97 d];rfl
theorem Q1u{t:Qm}{lim:Int}{T:Rat}{Y P w:List Rat}:(backP t lim T Y P w).1.length=t.A0.toNat/\(backP t lim T Y P w).2.length=t.A3.toNat:=by unfold backP;simp only[];have:=Q98 (code:=t.Code) (vs:=vsQ t lim T Y P) (i:=(vsQ t lim T Y P).length) (s:=⟨coQ (vsQ t lim T Y P).length t.Az w,0,List.replicate t.A0.toNat 0,List.replicate t.A3.toNat 0⟩);exact⟨by rw[this.y];simp,by rw[this.p];simp⟩
def bstagesP(t:Qm)(s:Qw)(lim:Int)(T H:Rat)(P W:List Rat)(yss:List (List Rat)):Nat->BdS->BdS
 | 0,z=>z
 | i+1,z=>
   let g:=backP t lim (T+H*(rv s.C).getD i 0) (yss.getD i []) P (bslQ (s.A.map rv) ((rv s.B).getD i 0) H W i z.ls)
   bstagesP t s lim T H P W yss i ⟨g.1::z.ls,addQ z.Y g.1,addQ z.P g.2⟩
theorem Q1v{t:Qm}{s:Qw}{lim:Int}{T H:Rat}{P W:List Rat}{yss:List (List Rat)}:∀ {i:Nat}{a z},bstagesQ t s lim T H P W yss i a=.inr z->z=bstagesP t s lim T H P W yss i a
 | 0,a,z,h=>by simp only[bstagesQ] at h;cases h;rfl
 | i+1,a,z,h=>by
   simp only[bstagesQ] at h;simp only[bstagesP];cases s1:bstageQ t lim T H P (yss.getD i []) ((rv s.C).getD i 0) (bslQ (s.A.map rv) ((rv s.B).getD i 0) H W i a.ls) i with
   | inl f=>rw[s1] at h;cases h
   | inr w=>
     rw[s1] at h;obtain⟨x,d,rfl⟩:=Qwr s1;rw[<-Jj9 d];exact Q1v h
theorem Q1w{t:Qm}{s:Qw}{lim:Int}{T H c:Rat}{P f g:List Rat}{yss:List (List Rat)}(a:f.length=t.A0.toNat)(d:g.length=t.A0.toNat):∀ {i:Nat}{a1 a2},BdL t.A0.toNat t.A3.toNat a1->BdL t.A0.toNat t.A3.toNat a2->a2.ls.length=a1.ls.length ->
 bstagesP t s lim T H P (linQ c f g) yss i (linB c a1 a2)=linB c (bstagesP t s lim T H P f yss i a1) (bstagesP t s lim T H P g yss i a2)
 | 0,_,_,_,_,_=>rfl
 | i+1,a1,a2,g1,j,r=>by
   simp only[bstagesP];rw[show(linB c a1 a2).ls=linR c a1.ls a2.ls from rfl,Jl5 a d r g1.l j.l];have k:=Qza (As:=s.A.map rv) (b:=(rv s.B).getD i 0) (H:=H) (i:=i) (W:=f) (l:=a1.ls) (by rw[a];exact g1.l);have m:=Qza (As:=s.A.map rv) (b:=(rv s.B).getD i 0) (H:=H) (i:=i) (W:=g) (l:=a2.ls) (by rw[d];exact j.l);generalize bslQ (s.A.map rv) ((rv s.B).getD i 0) H f i a1.ls=k1 at k;generalize bslQ (s.A.map rv) ((rv s.B).getD i 0) H g i a2.ls=k2 at m;rw[Jka om];obtain⟨l1,n⟩:=Q1u (t:=t) (lim:=lim) (T:=T+H*(rv s.C).getD i 0) (Y:=yss.getD i []) (P:=P) (w:=k1);obtain⟨p,q⟩:=Q1u (t:=t) (lim:=lim) (T:=T+H*(rv s.C).getD i 0) (Y:=yss.getD i []) (P:=P) (w:=k2);generalize backP t lim (T+H*(rv s.C).getD i 0) (yss.getD i []) P k1=x1 at l1 n;generalize backP t lim (T+H*(rv s.C).getD i 0) (yss.getD i []) P k2=x2 at p q;have e:(⟨linQ c x1.1 x2.1::linR c a1.ls a2.ls,addQ (linB c a1 a2).Y (linQ c x1.1 x2.1),addQ (linB c a1 a2).P (linQ c x1.2 x2.2)⟩:BdS)=linB c ⟨x1.1::a1.ls,addQ a1.Y x1.1,addQ a1.P x1.2⟩ ⟨x2.1::a2.ls,addQ a2.Y x2.1,addQ a2.P x2.2⟩:=by
    unfold linB;simp only[];rw[Q8k (by rw[g1.y,j.y]) (by rw[l1,g1.y]) (by rw[p,g1.y]),Q8k (by rw[g1.p,j.p]) (by rw[n,g1.p]) (by rw[q,g1.p])];rfl
   rw[e];exact Q1w a d (g1.step l1 n) (j.step p q) (by simp only[xn];omega)
theorem Q1x{t:Qm}{s:Qw}{lim:Int}{T H:Rat}{P W:List Rat}{yss:List (List Rat)}:∀ {i:Nat}{a},BdL t.A0.toNat t.A3.toNat a->BdL t.A0.toNat t.A3.toNat (bstagesP t s lim T H P W yss i a)
 | 0,_,h=>h
 | i+1,a,h=>by simp only[bstagesP];obtain⟨l1,d⟩:=Q1u (t:=t) (lim:=lim) (T:=T+H*(rv s.C).getD i 0) (Y:=yss.getD i []) (P:=P) (w:=bslQ (s.A.map rv) ((rv s.B).getD i 0) H W i a.ls);exact Q1x (h.step l1 d)
noncomputable def bthP(p:Qg)(T H:Rat)(Y W:List Rat):List Rat×List Rat:=
 let ys:=match stepQ p T H Y with
  | .inl _=>[]
  | .inr m=>m.ys
 let x:=bstagesP p.Tape p.Av (limQ p.Ay) T H (rv p.P) W ys p.Av.B.length ⟨[],W,List.replicate (rv p.P).length 0⟩
 (x.Y,x.P)
theorem Jfc{p:Qg}{T H:Rat}{Y W:List Rat}{z}(h:backThQ p T H Y W=.inr z):z.2=bthP p T H Y W:=by obtain⟨a1,_,a3⟩:=Qvq h;obtain⟨x,a,d⟩:=Q4d a3;unfold bthP;rw[a1];simp only[];rw[d,Q1v a]
theorem Jl6{p:Qg}{T H c:Rat}{Y a d:List Rat}(j:p.P.length=p.Tape.A3.toNat)(f:a.length=p.Tape.A0.toNat)(i:d.length=p.Tape.A0.toNat):
 bthP p T H Y (linQ c a d)=(linQ c (bthP p T H Y a).1 (bthP p T H Y d).1,linQ c (bthP p T H Y a).2 (bthP p T H Y d).2):=by
 unfold bthP;simp only[];have e:(⟨[],linQ c a d,List.replicate (rv p.P).length 0⟩:BdS)=linB c ⟨[],a,List.replicate (rv p.P).length 0⟩ ⟨[],d,List.replicate (rv p.P).length 0⟩:=by unfold linB;simp only[];rw[<-Qme];rfl
 have g:∀ W:List Rat,W.length=p.Tape.A0.toNat->BdL p.Tape.A0.toNat p.Tape.A3.toNat ⟨[],W,List.replicate (rv p.P).length 0⟩:=λW k=>⟨k,by simp only[yt,Ji];exact j,λ_ h=>by cases h⟩
 rw[e,Q1w f i (g a f) (g d i) rfl];rfl
theorem Q4k{p:Qg}{T H:Rat}{Y W:List Rat}(e:p.P.length=p.Tape.A3.toNat)(d:W.length=p.Tape.A0.toNat):(bthP p T H Y W).1.length=p.Tape.A0.toNat/\(bthP p T H Y W).2.length=p.Tape.A3.toNat:=by
 unfold bthP;simp only[]
 have:=Q1x (t:=p.Tape) (s:=p.Av) (lim:=limQ p.Ay) (T:=T) (H:=H) (P:=rv p.P) (W:=W) (yss:=match stepQ p T H Y with
  | .inl _=>[]
  | .inr m=>m.ys) (i:=p.Av.B.length) (a:=⟨[],W,List.replicate (rv p.P).length 0⟩) ⟨d,by simp only[yt,Ji];exact e,λ_ h=>by cases h⟩
 exact⟨this.y,this.p⟩
noncomputable def swP(p:Qg)(xs:List Tri):Nat->List Rat×List Rat->List Rat×List Rat
 | 0,g=>g
 | d+1,g=>
   let x:=xs.getD d (0,0,[]);let z:=bthP p x.1 x.2.1 x.2.2 g.1
   swP p xs d (z.1,addQ g.2 z.2)
theorem Jf7{p:Qg}{m:Nat}{xs:List Tri}:∀ {d:Nat}{g z},d<=xs.length->swQ p m xs (xs.map (·.2.2)) d g=.inr z->z=swP p xs d g
 | 0,g,z,_,h=>by simp only[swQ] at h;cases h;rfl
 | d+1,g,z,hd,h=>by
   simp only[swQ] at h;simp only[swP];have j:xs[d]?=some (xs[d]' om):=oi om;have e:xs.getD d (0,0,[])=xs[d]' om:=by rw[ot,j];rfl
   have k:(xs.map (·.2.2)).getD d []=(xs[d]' om).2.2:=by rw[ot,xm,j];rfl
   rw[e,k] at h;rw[e];generalize xs[d]' om=x at h;simp only[bstQ] at h;cases hb:backThQ p x.1 x.2.1 x.2.2 g.1 with
   | inl f=>rw[hb] at h;cases h
   | inr b=>
     rw[hb] at h;simp only[] at h;cases i:fitQ (limQ p.Ay) (addQ g.2 b.2.2) 0 with
     | some a=>rw[i] at h;cases h
     | none=>
       rw[i] at h;rw[<-Jfc hb];exact Jf7 om h
theorem Q8l{p:Qg}{xs:List Tri}(f:p.P.length=p.Tape.A3.toNat):∀ {d:Nat}{g:List Rat×List Rat},g.1.length=p.Tape.A0.toNat->g.2.length=p.Tape.A3.toNat->(swP p xs d g).1.length=p.Tape.A0.toNat/\(swP p xs d g).2.length=p.Tape.A3.toNat
 | 0,_,a,e=>⟨a,e⟩
 | d+1,g,a,e=>by simp only[swP];obtain⟨l1,i⟩:=Q4k (T:=(xs.getD d (0,0,[])).1) (H:=(xs.getD d (0,0,[])).2.1) (Y:=(xs.getD d (0,0,[])).2.2) f a;exact Q8l f l1 (by rw[Zl,e,i];exact jy _)
theorem Q8m{p:Qg}{xs:List Tri}{c:Rat}(f:p.P.length=p.Tape.A3.toNat):∀ {d:Nat}{w1 e s1 a:List Rat},w1.length=p.Tape.A0.toNat->e.length=p.Tape.A0.toNat->s1.length=p.Tape.A3.toNat->a.length=p.Tape.A3.toNat ->
 swP p xs d (linQ c w1 e,linQ c s1 a)=(linQ c (swP p xs d (w1,s1)).1 (swP p xs d (e,a)).1,linQ c (swP p xs d (w1,s1)).2 (swP p xs d (e,a)).2)
 | 0,_,_,_,_,_,_,_,_=>rfl
 | d+1,w1,e,s1,a,g,i,k,l=>by simp only[swP];obtain⟨l1,m⟩:=Q4k (T:=(xs.getD d (0,0,[])).1) (H:=(xs.getD d (0,0,[])).2.1) (Y:=(xs.getD d (0,0,[])).2.2) f g;obtain⟨j,n⟩:=Q4k (T:=(xs.getD d (0,0,[])).1) (H:=(xs.getD d (0,0,[])).2.1) (Y:=(xs.getD d (0,0,[])).2.2) f i;rw[Jl6 f g i];simp only[];rw[Q8k om om om];exact Q8m f l1 j (by rw[Zl];omega) (by rw[Zl];omega)
theorem Jh1{a b c:List Rat}:addQ (addQ a b) c=addQ a (addQ b c):=by
 unfold addQ
 induction a generalizing b c with
 | nil=>simp
 | cons x a d=>
   cases b with
   | nil=>simp
   | cons y b=>
     cases c with
     | nil=>simp
     | cons z c=>simp only[jh];rw[d,Rat.add_assoc]
theorem Jf8{p:Qg}{xs:List Tri}:∀ {d:Nat}{w s t:List Rat},swP p xs d (w,addQ s t)=((swP p xs d (w,t)).1,addQ s (swP p xs d (w,t)).2)
 | 0,_,_,_=>rfl
 | d+1,w,s,t=>by simp only[swP];rw[Jh1];exact Jf8
theorem Jf9{p:Qg}{A B:List Tri}:∀ {d:Nat}{g:List Rat×List Rat},d<=B.length->swP p (A++B) (A.length+d) g=swP p (A++B) A.length (swP p B d g)
 | 0,_,_=>rfl
 | d+1,g,h=>by
   rw[show A.length+(d+1)=A.length+d+1 by omega];simp only[swP];have e:(A++B).getD (A.length+d) (0,0,[])=B.getD d (0,0,[]):=by rw[ot,ot,yz om,wz]
   rw[e];exact Jf9 om
theorem Jdy{p:Qg}{A B:List Tri}:∀ {d:Nat}{g:List Rat×List Rat},d<=A.length->swP p (A++B) d g=swP p A d g
 | 0,_,_=>rfl
 | d+1,g,h=>by
   simp only[swP];have e:(A++B).getD d (0,0,[])=A.getD d (0,0,[]):=by rw[ot,ot,yh om]
   rw[e];exact Jdy om
theorem Jl7{p:Qg}{A B:List Tri}{g:List Rat×List Rat}:swP p (A++B) (A++B).length g=swP p A A.length (swP p B B.length g):=by rw[yn,Jf9 (xr _),Jdy (xr _)]
theorem swP_F{p:Qg}{A:List Tri}{d:Nat}(a:p.P.length=p.Tape.A3.toNat):LinF (λU V=>(swP p A d (U,V)).1) p.Tape.A0.toNat p.Tape.A3.toNat p.Tape.A0.toNat/\LinF (λU V=>(swP p A d (U,V)).2) p.Tape.A0.toNat p.Tape.A3.toNat p.Tape.A3.toNat:=by refine⟨⟨?_,?_⟩,⟨?_,?_⟩⟩;intro U V j k;exact(Q8l a j k).1;intro c U1 U2 V1 V2 e f g i;exact yj Prod.fst (Q8m a e f g i);intro U V j k;exact(Q8l a j k).2;intro c U1 U2 V1 V2 e f g i;exact yj Prod.snd (Q8m a e f g i)
def widM{α:Type}:List (List α)->Nat
 | []=>0
 | r::_=>r.length
def recM{α:Type}(M:List (List α)):Prop:=∀ r∈M,r.length=widM M
theorem Qrk(M:List (List Qa)):Qfg M=some ((widM M:Nat):Int):=by
 unfold Qfg;cases M with
 | nil=>rfl
 | cons r M=>
   rw[oo (show ¬(((r::M).length:Nat):Int)=0 by simp;omega),bifF];rfl
theorem Qn2(M:List (List Qa)):Qea M=some (dP (recM M)):=by
 classical
 unfold Qea;rw[Qrk,Z3 (P:=λ_ r=>r.length=widM M) (r:=false)];by_cases h:recM M;rw[oq (λi x a=>h x (ud a)),dP_t h]
 rw[oj (λg=>h λr hr=>by
  obtain⟨i,hi⟩:=yg hr
  exact g i r hi),dP_f h]
 intro i x _;rw[sbind];constructor;intro h;rw[ol om];rfl;intro h;rw[oo om];rfl
theorem Jga{α β:Type}{f:List α->List β}(a:∀ l,(f l).length=l.length)(M:List (List α)):widM (M.map f)=widM M/\(recM (M.map f)↔recM M):=by
 have d:widM (M.map f)=widM M:=by
  cases M with
  | nil=>rfl
  | cons r M=>exact a r
 refine⟨d,?_⟩;unfold recM;rw[d];constructor;intro h r hr;have:=h (f r) (vf hr);rwa [a] at this;intro h r hr;obtain⟨s,hs,rfl⟩:=xz.1 hr;rw[a];exact h s hs
set_option maxRecDepth 100000
def colJ(M:List (List Rat))(j:Nat):List Rat:=M.map (·.getD j 0)
def leftR(r:List Rat)(M:List (List Rat)):List Rat:=(List.range (widM M)).map λj=>psum (colJ M j) r M.length
def mulR(A B:List (List Rat)):List (List Rat):=A.map λr=>leftR r B
def sumRows:List (List Rat)->List Rat
 | []=>[]
 | a::l=>l.foldl addQ a
theorem Q8n{w:Nat}:∀ {l:List (List Rat)}{a:List Rat},a.length=w->(∀ b∈l,b.length=w)->(l.foldl addQ a).length=w
 | [],_,d,_=>d
 | b::l,a,d,h=>Q8n (l:=l) (a:=addQ a b) (by rw[Zl,d,h b (.head _)];exact jy _) (λx e=>h x (.tail _ e))
theorem Jl8{a b:List Rat}{j:Nat}(d:j<a.length)(e:j<b.length):(addQ a b).getD j 0=a.getD j 0+b.getD j 0:=by unfold addQ;rw[ot,ot,ot,wu,oi d,oi e];rfl
theorem Q6o{c:Rat}{a:List Rat}{j:Nat}:(scaleQ c a).getD j 0=c*a.getD j 0:=by
 unfold scaleQ;rw[ot,ot,xm];cases a[j]? with
 | none=>show(0:Rat)=c*0;rw[Rat.mul_zero]
 | some x=>rfl
theorem Jgb{w j:Nat}(f:j<w):∀ {r:List Rat}{M:List (List Rat)}{a:List Rat},r.length=M.length->a.length=w->(∀ b∈M,b.length=w) ->
 ((List.zipWith scaleQ r M).foldl addQ a).getD j 0=a.getD j 0+psum (colJ M j) r M.length
 | [],[],a,_,_,_=>by show a.getD j 0=a.getD j 0+0;rw[ui]
 | [],_::_,_,h,_,_=>by simp at h
 | _::_,[],_,h,_,_=>by simp at h
 | c::r,m::M,a,hr,d,h=>by
   have g:m.length=w:=h m (.head _);have e:(addQ a (scaleQ c m)).length=w:=by rw[Zl,W6,d,g];exact jy _
   show((List.zipWith scaleQ r M).foldl addQ (addQ a (scaleQ c m))).getD j 0=a.getD j 0+psum (m.getD j 0::colJ M j) (c::r) (M.length+1);rw[Jgb f (by simpa using hr) e (λx i=>h x (.tail _ i)),Q1p,Jl8 om (by rw[W6];omega),Q6o,Rat.mul_comm c,Rat.add_assoc]
theorem Jn3{r:List Rat}{M:List (List Rat)}(d:r.length=M.length)(i:recM M):sumRows (List.zipWith scaleQ r M)=leftR r M:=by
 cases M with
 | nil=>
   cases r with
   | nil=>rfl
   | cons c r=>simp at d
 | cons m M=>
   cases r with
   | nil=>simp at d
   | cons c r=>
     have f:∀ b∈M,b.length=m.length:=λb hb=>i b (.tail _ hb);have l1:(sumRows (List.zipWith scaleQ (c::r) (m::M))).length=m.length:=by refine Q8n (l:=List.zipWith scaleQ r M) (a:=scaleQ c m) W6 (Qxo λx _ y k=>?_);rw[W6];exact f y k
     have n:(leftR (c::r) (m::M)).length=m.length:=by unfold leftR widM;simp
     refine Quj (by rw[l1,n]) λj e=>?_;rw[l1] at e;show((List.zipWith scaleQ r M).foldl addQ (scaleQ c m)).getD j 0=_;have g:(leftR (c::r) (m::M)).getD j 0=psum (m.getD j 0::colJ M j) (c::r) (M.length+1):=by unfold leftR;rw[ot,xm,jc (show j<widM (m::M) from e)];rfl
     rw[g,Jgb e (by simpa using d) W6 f,Q6o,Q1p,Rat.mul_comm c]
theorem Jkb{k:Nat}:∀ {l:List (List Rat)}{a:List Rat}{j:Nat},QR j a->(∀ b∈l,QR k b)->QR (j+l.length*(k+1)) (l.foldl addQ a)
 | [],_,_,d,_=>Jb d (Nat.le_add_right _ _)
 | b::l,a,j,d,h=>by have:=Jkb (l:=l) (Qn0 d (h b (.head _))) (λx e=>h x (.tail _ e));refine Jb this ?_;rw[xn,uz];omega
theorem Jn4{k:Nat}{r:List Rat}{M:List (List Rat)}(a:1<=k)(hr:QR k r)(f:∀ b∈M,QR k b)(i:M.length<=10):QR (21*k+11) (leftR r M):=λq d=>by
 unfold leftR at d;obtain⟨j,p,rfl⟩:=xz.1 d
 have g:QR k (colJ M j):=λx e=>by unfold colJ at e;obtain⟨m,l,rfl⟩:=xz.1 e;exact Vp (f m l) a
 have:=Jdx a g hr M.length;have n:M.length*(2*k+1)<=10*(2*k+1):=xh _ i;omega
theorem Jqv{n k:Nat}{u:List Rat}{b:List Qa}(hn:big<=n)(p:1<=k)(hk:k<1099511627776)(q:QR k u)(hb:FR k b)(h:u.length=b.length):
 ((rangeL (λ(a:Nat) (l:Qa) (d:List Qa)=>
  (getI d (a:Int)).bind λm=>
  (Vy n m l).bind λg=>
  (getI d (a:Int)).bind λ_=>
  some (Lp.go (List.set d (Int.toNat (a:Int)) g))) b 0 (toR u):Option (Lp (List Qa) (Lp (List Qa) (List Qa×Bool)))).bind (lpK λ(j:List Qa)=>some (Lp.go j)))=some (Lp.go (toR (addQ u (rv b)))):=by
 rw[Q1g (λ(x:Qa) (y:Qa)=>toF (fv y+fv x)) b (toR u) (by rw[Jj,h]),Vn];refine yj (λz=>some (Lp.go z)) ?_;unfold addQ toR rv;rw[List.map_zipWith,dc,dc,List.zipWith_comm];congr 1;funext x y;simp only[Jf];intro i x y s' r s e;have f:Fk k y:=Vd q y (Jm s);rw[Q7 e,sbind,Wo hn p hk f (hb x (Jm r)),sbind,sbind,ya]
theorem Ja8{n k w:Nat}{l:List (List Rat)}(hn:big<=n)(v:1<=k)(hk:k<=10000)(h:∀ b∈l,QR k b/\b.length=w)(r:l.length<=10)(A:w<=1000):Qbo n (toRR l)=some (toR (sumRows l),true):=by
 cases l with
 | nil=>rfl
 | cons a l=>
   unfold Qbo;obtain⟨q,la⟩:=h a (.head _);have hs:sub (toRR (a::l)) (1:Int) ((toRR (a::l)).length:Int)=some (toRR l):=by have e:toRR (a::l)=toR a::toRR l:=rfl;rw[e,show(1:Int)=((1:Nat):Int) from rfl,Qs7 oc (xr _),xc];rfl
   rw[oo (by rw[Vi];simp;omega),bifF,show getI (toRR (a::l)) (0:Int)=some (toR a) from rfl,sbind,Qsg hn (k:=k) om (Vd q) (by rw[Jj];omega),sbind,Wn,hs,sbind];rw[Zw (λi=>toR ((l.take i).foldl addQ a)) (toRR l)];rw[Vn,Vi,xc];rfl;intro i x j;have hi:i<l.length:=by have:=(ug.1 j).1;rwa [Vi] at this
   have hb:l[i]?=some l[i]:=oi hi;have d:l[i]∈l:=xi hi;generalize l[i]=b at hb d;have m:x=toR b:=by have:=Qav toR hb;unfold toRR at j;rw[this] at j;exact(Option.some.inj j).symm
   subst m;obtain⟨t,lb⟩:=h b (.tail _ d);have g:∀ c∈l.take i,QR k c/\c.length=w:=λc f=>h c (.tail _ (ym f));have ls:((l.take i).foldl addQ a).length=w:=Q8n la λc f=>(g c f).2;have u:=Jkb (l:=l.take i) q (λc f=>(g c f).1);have s:(l.take i).length<=10:=by rw[xa];simp at r;omega
   have y:(l.take i).length*(k+1)<=10*(k+1):=xh _ s;have p:QR (11*k+10) ((l.take i).foldl addQ a):=Jb u om;simp only[Jj];rw[ls,lb,ol rfl,ou,bifF,Jqv (k:=11*k+10) hn om om p (Vd (Jb t om)) (by rw[Jj,ls,lb]),Wn];rw[show l.take (i+1)=l.take i++[b] by rw[vn,hb];rfl,List.foldl_append];rfl;rfl
theorem Jdz{α β γ:Type}{g:α->β->γ}{a:List α}{b:List β}{i:Nat}{x:α}{y:β}(d:a[i]?=some x)(e:b[i]?=some y):(List.zipWith g a b).take (i+1)=(List.zipWith g a b).take i++[g x y]:=by rw[vn,wu,d,e];rfl
theorem Qun(M:List (List Qa)):widM (M.map rv)=widM M/\(recM (M.map rv)↔recM M):=Jga Ji M
theorem Jh2{n k:Nat}{r:List Qa}{M:List (List Qa)}(hn:big<=n)(g:1<=k)(hk:k<=1000)(hr:FR k r)(e:∀ b∈M,FR k b/\b.length<=1000)(y:M.length<=10)(u:r.length=M.length)(j:recM M):
 Qnk n r M=some (toR (leftR (rv r) (M.map rv)),true):=by
 unfold Qnk;simp only[jn_eq];rw[ol (show(r.length:Int)=(M.length:Int) by omega),ou,bifF,Qn2,sbind,dP_t j,ou,bifF];have v:(List.zipWith scaleQ (rv r) (M.map rv)).length=M.length:=by rw[td,Ji,ov];omega
 rw[Zw (λi=>toRR ((List.zipWith scaleQ (rv r) (M.map rv)).take i)) M];rw[Vn,show(List.zipWith scaleQ (rv r) (M.map rv)).take M.length=List.zipWith scaleQ (rv r) (M.map rv) by rw[<-v];exact xc];have d:∀ b∈List.zipWith scaleQ (rv r) (M.map rv),QR (k+k) b/\b.length=widM M:=by refine Qxo λc l b hb=>?_;obtain⟨m,t,rfl⟩:=xz.1 hb;exact⟨Qkj (QR_rv hr g c l) (QR_rv (e m t).1 g),by rw[W6,Ji];exact j m t⟩
 have q:widM M<=1000:=by
  cases M with
  | nil=>exact yx _
  | cons m M=>exact(e m (.head _)).2
 rw[Ja8 (k:=k+k) (w:=widM M) hn om om d om q,sbind,Jn3 (by rw[Ji,ov,u]) ((Qun M).2.2 j)];intro i x f;have hi:i<M.length:=(ug.1 f).1;have a:r[i]?=some (r[i]' om):=oi om;generalize r[i]' om=c at a;rw[Q7 a,sbind,Zq hn g om (hr c (Jm a)) (e x (Jm f)).1 (by have:=(e x (Jm f)).2;omega),sbind];have p:(rv r)[i]?=some (fv c):=Qav fv a;have s:(M.map rv)[i]?=some (rv x):=Qav rv f;have A:(toRR ((List.zipWith scaleQ (rv r) (M.map rv)).take i)).length<=10:=by rw[Vi,xa];omega
 rw[J5 (by simp only[xn,yr];omega) (by simp only[xn,yr];omega),sbind,Jdz p s];unfold toRR;rw[xw];rfl;rfl
set_option maxRecDepth 100000
def MB(k:Nat)(M:List (List Qa)):Prop:=M.length<=10/\∀ r∈M,FR k r/\r.length<=1000
theorem Qtg{M:List (List Qa)}{i:Nat}{r:List Qa}(h:M[i]?=some r):(M.map rv)[i]?=some (rv r):=Qav rv h
theorem Ja9{α β:Type}{f:α->β}{l:List α}{i:Nat}{x:α}(h:l[i]?=some x):(l.take (i+1)).map f=(l.take i).map f++[f x]:=by rw[vn,h,xw];rfl
open Classical in
theorem Q99{n k:Nat}{A B:List (List Qa)}(hn:big<=n)(m:1<=k)(hk:k<=1000)(e:MB k A)(g:MB k B):
 Qmm n A B=some (if recM A/\recM B/\widM A=B.length then (toRR (mulR (A.map rv) (B.map rv)),true) else ([],false)):=by
 unfold Qmm;simp only[jn_eq];rw[Qn2,sbind];by_cases c1:recM A
 case neg=>rw[dP_f c1,ow,bifT,bifT,oj (λh=>c1 h.1)]
 rw[dP_t c1,ou,bifF,Qn2,sbind];by_cases a:recM B
 case neg=>rw[dP_f a,ow,bifT,bifT,oj (λh=>a h.2.1)]
 rw[dP_t a,ou,bifF,Qrk,sbind];by_cases d:widM A=B.length
 case neg=>rw[oo om,ow,bifT,oj (λh=>d h.2.2)]
 rw[ol om,ou,bifF,oq ⟨c1,a,d⟩];rw[Zw (λi=>toRR (mulR ((A.map rv).take i) (B.map rv))) A]
 . rw[Vn,show(A.map rv).take A.length=A.map rv by rw[<-ov (f:=rv)];exact xc]
 . intro i x l
   have j:=Jm l;have p:x.length=B.length:=by rw[<-d];exact c1 x j
   rw[Jh2 hn m hk (e.2 x j).1 g.2 g.1 p a,sbind];have q:(toRR (mulR ((A.map rv).take i) (B.map rv))).length<=10:=by rw[Vi];unfold mulR;rw[ov,xa,ov];have:=e.1;omega
   rw[J5 (by simp only[xn,yr];omega) (by simp only[xn,yr];omega),sbind];unfold mulR;rw[Ja9 (Qtg l)];unfold toRR;rw[xw];rfl
 . rfl
open Classical in
theorem Jkc{n k:Nat}{A B:List (List Qa)}(hn:big<=n)(q:1<=k)(hk:k<=100000)(j:MB k A)(r:MB k B):
 Qpn n A B=some (if recM A/\recM B/\A.length=B.length/\widM A=widM B then (toRR (List.zipWith addQ (A.map rv) (B.map rv)),true) else ([],false)):=by
 unfold Qpn;simp only[jn_eq];rw[Qn2,sbind];by_cases c1:recM A
 case neg=>rw[dP_f c1,ow,bifT,bifT,oj (λh=>c1 h.1)]
 rw[dP_t c1,ou,bifF,Qn2,sbind];by_cases d:recM B
 case neg=>rw[dP_f d,ow,bifT,bifT,oj (λh=>d h.2.1)]
 rw[dP_t d,ou,bifF];by_cases m:A.length=B.length
 case neg=>rw[oo om,ow,bifT,bifT,oj (λh=>m h.2.2.1)]
 rw[ol om,ou,bifF,Qrk,sbind,Qrk,sbind];by_cases g:widM A=widM B
 case neg=>rw[oo om,ow,bifT,oj (λh=>g h.2.2.2)]
 rw[ol om,ou,bifF,oq ⟨c1,d,m,g⟩];have p:(List.zipWith addQ (A.map rv) (B.map rv)).length=A.length:=by rw[td,ov,ov];omega
 rw[Zw (λi=>toRR ((List.zipWith addQ (A.map rv) (B.map rv)).take i)) A]
 . rw[Vn,show(List.zipWith addQ (A.map rv) (B.map rv)).take A.length=List.zipWith addQ (A.map rv) (B.map rv) by rw[<-p];exact xc]
 . intro i x l
   have hi:i<A.length:=(ug.1 l).1;have f:B[i]?=some (B[i]' om):=oi om;generalize B[i]' om=y at f;have a:=Jm l;have e:=Jm f;have s:x.length=y.length:=by rw[c1 x a,d y e,g]
   rw[Q7 f,sbind,Qfi hn q om (j.2 x a).1 (r.2 y e).1 (by have:=(j.2 x a).2;omega),sbind,oq s];have t:(toRR ((List.zipWith addQ (A.map rv) (B.map rv)).take i)).length<=10:=by rw[Vi,xa,p];have:=j.1;omega
   rw[J5 (by simp only[xn,yr];omega) (by simp only[xn,yr];omega),sbind,Jdz (Qtg l) (Qtg f)];unfold toRR;rw[xw];rfl
 . rfl
def fitR(A B:List (List Rat)):Prop:=recM A/\recM B/\widM A=B.length
def sumF(A B:List (List Rat)):Prop:=recM A/\recM B/\A.length=B.length/\widM A=widM B
def chnF(aY aP bY bP:List (List Rat)):Prop:=(fitR bY aY/\fitR bY aP)/\sumF (mulR bY aP) bP
theorem MB_rv{k:Nat}{M:List (List Qa)}(a:1<=k)(h:MB k M):∀ b∈M.map rv,QR k b:=λb hb=>by obtain⟨m,d,rfl⟩:=xz.1 hb;exact QR_rv (h.2 m d).1 a
theorem Jqw{k:Nat}{A B:List (List Qa)}(d:1<=k)(f:MB k A)(e:MB k B):MB (21*k+11) (toRR (mulR (A.map rv) (B.map rv))):=by
 refine⟨by rw[Vi];unfold mulR;rw[ov,ov];exact f.1,λr hr=>?_⟩;unfold toRR mulR at hr;rw[yo] at hr;obtain⟨a,g,rfl⟩:=xz.1 hr;refine⟨Vd (Jn4 d (MB_rv d f a g) (MB_rv d e) (by rw[ov];exact e.1)),?_⟩;show(toR (leftR a (B.map rv))).length<=1000;rw[Jj];unfold leftR;rw[ov,wo,(Qun B).1];cases B with
 | nil=>exact yx _
 | cons b B=>exact(e.2 b (.head _)).2
open Classical in
theorem Jh3{n k:Nat}{x y:Xg}(hn:big<=n)(l:1<=k)(hk:k<=1000)(m:MB k x.Y)(e:MB k x.P)(d:MB k y.Y)(a:MB k y.P):
 Qnl n x y=some (if chnF (x.Y.map rv) (x.P.map rv) (y.Y.map rv) (y.P.map rv) then (⟨toRR (mulR (y.Y.map rv) (x.Y.map rv)),toRR (List.zipWith addQ (mulR (y.Y.map rv) (x.P.map rv)) (y.P.map rv))⟩,true) else (⟨[],[]⟩,false)):=by
 have j:∀ A B:List (List Qa),(recM A/\recM B/\widM A=B.length)↔fitR (A.map rv) (B.map rv):=λA B=>by unfold fitR;rw[(Qun A).2,(Qun B).2,(Qun A).1,ov]
 unfold Qnl;simp only[jn_eq];rw[Q99 hn l hk d m,sbind,Q99 hn l hk d e,sbind];by_cases c1:fitR (y.Y.map rv) (x.Y.map rv)
 case neg=>rw[oj (λh=>c1 ((j _ _).1 h)),ow,bifT,bifT,oj (λh=>c1 h.1.1)]
 rw[oq ((j _ _).2 c1),ou,bifF];by_cases g:fitR (y.Y.map rv) (x.P.map rv)
 case neg=>rw[oj (λh=>g ((j _ _).1 h)),ow,bifT,oj (λh=>g h.1.2)]
 rw[oq ((j _ _).2 g),ou,bifF];have p:=Jqw l d e;rw[Jkc (k:=21*k+11) hn om om p ⟨a.1,λr hr=>⟨Vf (a.2 r hr).1 om,(a.2 r hr).2⟩⟩,sbind,Qxs];have f:(recM (toRR (mulR (y.Y.map rv) (x.P.map rv)))/\recM y.P/\(toRR (mulR (y.Y.map rv) (x.P.map rv))).length=y.P.length/\widM (toRR (mulR (y.Y.map rv) (x.P.map rv)))=widM y.P)↔sumF (mulR (y.Y.map rv) (x.P.map rv)) (y.P.map rv):=by
  unfold sumF;rw[(Qun y.P).2,(Qun y.P).1,ov,Vi];have:=Jga Jj (mulR (y.Y.map rv) (x.P.map rv));unfold toRR;rw[this.2,this.1]
 by_cases i:sumF (mulR (y.Y.map rv) (x.P.map rv)) (y.P.map rv)
 case neg=>rw[oj (λh=>i (f.1 h)),ow,bifT,oj (λh=>i h.2)]
 rw[oq (f.2 i),ou,bifF,oq ⟨⟨c1,g⟩,i⟩]
theorem Q6p{n k:Nat}{A B:List (List Qa)}(hn:big<=n)(f:1<=k)(hk:k<=1000000)(j:MB k A)(l:MB k B):Qgr n A B=some (dP (A.map rv=B.map rv)):=by
 unfold Qgr;by_cases c0:A.length=B.length
 case neg=>rw[oo om,ow,bifT,dP_f λh=>c0 (by have:=yj List.length h;simpa using this)]
 rw[ol om,ou,bifF,Z3 (P:=λi x=>(B.map rv)[i]?=some (rv x)) (r:=false)]
 . by_cases h:A.map rv=B.map rv
   . rw[oq (λi x a=>by rw[<-h];exact Qtg a),dP_t h]
   . rw[oj (λg=>h (List.ext_getElem? λi=>by
      by_cases hi:i<A.length
      . have a:A[i]?=some A[i]:=oi hi
        rw[g i A[i] a];exact Qtg a
      . rw[xd oh,xd oh])),dP_f h]
 . intro i x a
   have hi:i<A.length:=(ug.1 a).1;have d:B[i]?=some (B[i]' om):=oi om;generalize B[i]' om=y at d;rw[Q7 d,sbind,Qsh hn f om (j.2 x (Jm a)).1 (l.2 y (Jm d)).1,sbind,Qtg d];constructor
   . intro h;rw[ol (Option.some.inj h).symm,ou,bifF]
   . intro h;rw[oo (λe=>h (by rw[e])),ow,bifT]
theorem Jh4{n k:Nat}{x y:Xg}(hn:big<=n)(i:1<=k)(hk:k<=1000000)(e:MB k x.Y)(d:MB k x.P)(g:MB k y.Y)(f:MB k y.P):
 Qh8 n x y=some (dP (x.Y.map rv=y.Y.map rv/\x.P.map rv=y.P.map rv)):=by
 unfold Qh8;simp only[jn_eq];rw[Q6p hn i hk e g,sbind];by_cases c1:x.Y.map rv=y.Y.map rv
 case neg=>rw[dP_f c1,bifF,dP_f λh=>c1 h.1]
 rw[dP_t c1,bifT,Q6p hn i hk d f,sbind];by_cases a:x.P.map rv=y.P.map rv
 . rw[dP_t a,dP_t ⟨c1,a⟩]
 . rw[dP_f a,dP_f λh=>a h.2]
set_option maxRecDepth 100000
structure MarOK(q:Qg)(d:Nat)(T E:Rat)(Y Z:List Rat)(H:Qt):Prop where
 l:H.Aw.length<=200
 t:∀ t∈H.Aw,FT 900 t
 T':Fk 900 H.T
 Y':FR 900 H.Y
 len:H.Y.length=d
 ch:MCh q T Y (tri H) E Z
theorem mar{q:Qg}{t:Qa}{y S:List Qa}{a:Nat}(F:PrbW 900 q)(L:129<=a)(M:a<=138)(w:Fk a t)(x:FR a y)(G:y.length<=6)(v:FR 2 S)(lS:S.length<=3):
 ∃ r,Qa5 big q t y S=some r/\((r.2.Ax≠0/\¬(mayQ q (rv y) (rv S)/\∃ z,marchQ q (rv S) 0 (fv t) (rv y) []=.inr z)) \/
   (r.2=⟨0,0,0,0⟩/\mayQ q (rv y) (rv S)/\∃ z,marchQ q (rv S) 0 (fv t) (rv y) []=.inr z/\r.1=⟨z.1.map toTry,toF z.2.1,toR z.2.2⟩/\MarOK q y.length (fv t) z.2.1 (rv y) z.2.2 r.1/\qw z.2.1<=a+S.length*3/\QR a z.2.2/\tri r.1=z.1.map λt=>(t.T,t.H,t.Y))):=by
 have hn:big<=big:=xr _;obtain⟨a1,a2⟩:=Quh (p:=q) (a:=a) (j:=2) (k:=900) (t:=t) (y:=y) (hs:=S) hn om oz om oz F w x om v;rw[a1];refine⟨_,rfl,?_⟩;by_cases d:mayQ q (rv y) (rv S)
 case neg=>rw[oj d];exact .inl ⟨by show(2:Int)≠0;decide,λh=>d h.1⟩
 rw[oq d];cases i:marchQ q (rv S) 0 (fv t) (rv y) [] with
 | inl g=>exact .inl ⟨a2 d g i,λh=>by obtain⟨_,z,H⟩:=h;cases H⟩
 | inr z=>
   refine .inr ⟨rfl,d,z,rfl,rfl,?_⟩;have qT:=qw_fv w om;have qY:=QR_rv x om;have qZ:=QR_rv v oz;have B:(rv S).length=S.length:=Ji S;obtain⟨I,J,O,C⟩:=Q4b (a:=a) (j:=2) om qZ (Jb qY om) d.2.1 i;have f:=Qwq (K:=900) (m:=(rv y).length) (a:=a) (j:=2) om (by rw[B];omega) oz om qZ (Jb qY om) rfl (λ_ h=>by cases h) i;rw[Ji] at f;rw[B] at I C;have s:qw z.2.1<=a+S.length*3:=om
   have e:QR a z.2.2:=Jb J om;obtain⟨l,l1,N,A⟩:=Qws i;rw[yw] at l1;rw[<-l1] at A;have n:tri (⟨z.1.map toTry,toF z.2.1,toR z.2.2⟩:Qt)=z.1.map λt=>(t.T,t.H,t.Y):=Q9y;refine⟨⟨?_,?_,Jq om,Vd (Jb e om),?_,by rw[n];exact A⟩,s,e,n⟩
   . show(z.1.map toTry).length<=200
     rw[ov,C];simp;omega
   . intro t n
     obtain⟨u,E,rfl⟩:=xz.1 n;exact FT_TQ (f u E) om
   . show(toR z.2.2).length=_
     have:=d.2.1;rw[Ji] at this;rw[Jj];omega
structure RowOK(q:Qg)(d:Nat)(H:Qt)(G:List (List Rat×List Rat)):Prop where
 len:G.length=d
 g:∀(i:Nat) g,G[i]?=some g->g=swP q (tri H) (tri H).length (uniQ d i,zerQ q.P.length)/\g.1.length=d/\g.2.length=q.P.length/\QR 900 g.1/\QR 129 g.2
theorem rowm{q:Qg}{d:Nat}{T E:Rat}{Y Z:List Rat}{H:Qt}(l:PrbW 900 q)(u:1<=d)(v:d<=6)(h:MarOK q d T E Y Z H):
 ∃ r,Qdh big q H 1=some r/\(r.2.Ax≠0\/(r.2=⟨0,0,0,0⟩/\∃ G,RowOK q d H G/\r.1=⟨toRR (G.map (·.1)),toRR (G.map (·.2))⟩)):=by
 have hn:big<=big:=xr _;have y:=h.len;obtain⟨r,s,t⟩:=Q9z (n:=big) (k:=900) (p:=q) (h:=H) (x:=1) hn oz oz l h.l h.t h.T' h.Y' om om;refine⟨r,s,?_⟩;rcases t with e | ⟨e1,G,g1,g2,g3⟩;exact .inl e;refine .inr ⟨e1,G,⟨om,λi g hi=>?_⟩,g3⟩;have hs:=g2 i g hi;obtain⟨_,_,j⟩:=Qif (n:=big) (k:=900) (p:=q) (h:=H) (w:=toR (uniQ H.Y.length i)) (x:=1) hn oz oz l h.l h.t h.T' h.Y' om (Vf Qxx oz) (by rw[Jj,Qfr];omega);rw[Wn] at j;obtain⟨A,x2,m,x4⟩:=j g hs;have f:SwR q H (uniQ H.Y.length i):=by
  refine Classical.byContradiction λa=>?_;unfold sweepQ at hs;rw[oj a] at hs;cases hs
 unfold sweepQ at hs;rw[oq f,Q6g h.ch (cut_b 1).1] at hs;have:=Jf7 (xr _) hs;rw[y] at this m;exact⟨this,m,x4,A,x2⟩
theorem Jkd{q:Qg}{d:Nat}{A B:List Tri}{Gb Gc:List (List Rat×List Rat)}(G:q.Tape.A0.toNat=d)(u:q.P.length=q.Tape.A3.toNat)
 (s:Gb.length=d) (T:Gc.length=d) (hb:∀(i:Nat) g,Gb[i]?=some g->g=swP q A A.length (uniQ d i,zerQ q.P.length)/\g.1.length=d/\g.2.length=q.P.length)
 (S:∀(i:Nat) g,Gc[i]?=some g->g=swP q B B.length (uniQ d i,zerQ q.P.length)/\g.1.length=d/\g.2.length=q.P.length) (hd:1<=d) :
 ∀(i:Nat) c,Gc[i]?=some c->leftR c.1 (Gb.map (·.1))=(swP q (A++B) (A++B).length (uniQ d i,zerQ q.P.length)).1/\addQ (leftR c.1 (Gb.map (·.2))) c.2=(swP q (A++B) (A++B).length (uniQ d i,zerQ q.P.length)).2:=by
 intro i c hi;obtain⟨c1,Y,Q⟩:=S i c hi;have R:Gb[0]?=some (Gb[0]' om):=oi om;have E:(zerQ q.P.length).length=q.Tape.A3.toNat:=by rw[Qbz,u]
 obtain⟨N,O⟩:=swP_F (p:=q) (A:=A) (d:=A.length) u
 have I:∀ k,k<d->Gb[k]?=some (swP q A A.length (uniQ d k,zerQ q.P.length)):=λk hk=>by have h0:Gb[k]?=some (Gb[k]' om):=oi om;rw[h0,<-(hb k _ h0).1]
 have P:∀ {w m:Nat}{f:List Rat×List Rat->List Rat},(∀ g∈Gb,(f g).length=m)->widM (Gb.map f)=m:=fun {w m f} h=>by
  obtain⟨g,r,e⟩:∃ g r,Gb=g::r:=by
   cases Gb with
   | nil=>simp at s;omega
   | cons g r=>exact⟨g,r,rfl⟩
  rw[e];exact h g (by rw[e];exact .head _)
 have J:∀ g∈Gb,g.1.length=d:=λg H=>by obtain⟨k,hk⟩:=yg H;exact(hb k g hk).2.1
 have K:∀ g∈Gb,g.2.length=q.P.length:=λg H=>by obtain⟨k,hk⟩:=yg H;exact(hb k g hk).2.2
 have w1:=P (w:=0) (f:=(·.1)) J;have M:=P (w:=0) (f:=(·.2)) K
 have n:∀ {f:List Rat×List Rat->List Rat}{F:List Rat->List Rat->List Rat}{j:Nat},(∀ k,k<d->f (swP q A A.length (uniQ d k,zerQ q.P.length))=F (uniQ d k) (zerQ q.P.length)) ->
  psum (colJ (Gb.map f) j) c.1 d=sumN (λk=>c.1.getD k 0*(F (uniQ d k) (zerQ q.P.length)).getD j 0) d:=fun {f F j} hf=>by
  unfold psum;refine Qgl λk hk=>?_;unfold colJ;rw[ot,xm,xm,I k hk];show(f (swP q A A.length (uniQ d k,zerQ q.P.length))).getD j 0*_=_;rw[hf k hk,Rat.mul_comm]
 have W:swP q (A++B) (A++B).length (uniQ d i,zerQ q.P.length)=((swP q A A.length (c.1,zerQ q.P.length)).1,addQ c.2 (swP q A A.length (c.1,zerQ q.P.length)).2):=by
  rw[Jl7,<-c1];have e:c=(c.1,addQ c.2 (zerQ q.P.length)):=by
   have:addQ c.2 (zerQ q.P.length)=c.2:=by rw[<-Q];exact Q1l
   rw[this]
  conv=>lhs;rw[e]
  rw[Jf8]
 rw[W];have l1:(swP q A A.length (c.1,zerQ q.P.length)).1.length=d:=by rw[<-G];exact N.len om E
 have X:(swP q A A.length (c.1,zerQ q.P.length)).2.length=q.P.length:=by have:=O.len (U:=c.1) (V:=zerQ q.P.length) om E;rw[u] at this |-;exact this
 have v:leftR c.1 (Gb.map (·.1))=(swP q A A.length (c.1,zerQ q.P.length)).1:=by
  refine Quj (by unfold leftR;rw[ov,wo,w1,l1]) λj a=>?_;have t:j<d:=by unfold leftR at a;rw[ov,wo,w1] at a;exact a
  unfold leftR;rw[ot (l:=List.map _ _),xm,jc (by rw[w1];exact t)];show psum (colJ (Gb.map (·.1)) j) c.1 (Gb.map (·.1)).length=_;rw[ov,s,n (F:=λU V=>(swP q A A.length (U,V)).1) (λ_ _=>rfl)];have:=N.all (U:=c.1) (V:=zerQ q.P.length) (r:=j) om E;simp only[G,<-u] at this;rw[this]
  have z0:∀ m:Nat,sumN (λk=>(zerQ q.P.length).getD k 0*(swP q A A.length (zerQ d,uniQ q.P.length k)).1.getD j 0) m=0:=λm=>by
   induction m with
   | zero=>rfl
   | succ m L=>
     show sumN _ m+(zerQ q.P.length).getD m 0*_=_;rw[L,Qui,Rat.zero_mul,ui]
  rw[z0,ui]
 have C:leftR c.1 (Gb.map (·.2))=(swP q A A.length (c.1,zerQ q.P.length)).2:=by
  refine Quj (by unfold leftR;rw[ov,wo,M,X]) λj a=>?_;have t:j<q.P.length:=by unfold leftR at a;rw[ov,wo,M] at a;exact a
  unfold leftR;rw[ot (l:=List.map _ _),xm,jc (by rw[M];exact t)];show psum (colJ (Gb.map (·.2)) j) c.1 (Gb.map (·.2)).length=_;rw[ov,s,n (F:=λU V=>(swP q A A.length (U,V)).2) (λ_ _=>rfl)];have:=O.all (U:=c.1) (V:=zerQ q.P.length) (r:=j) om E;simp only[G,<-u] at this;rw[this]
  have z0:∀ m:Nat,sumN (λk=>(zerQ q.P.length).getD k 0*(swP q A A.length (zerQ d,uniQ q.P.length k)).2.getD j 0) m=0:=λm=>by
   induction m with
   | zero=>rfl
   | succ m L=>
     show sumN _ m+(zerQ q.P.length).getD m 0*_=_;rw[L,Qui,Rat.zero_mul,ui]
  rw[z0,ui]
 refine⟨v,?_⟩;rw[C];unfold addQ;rw[List.zipWith_comm];congr 1;funext x y;exact Rat.add_comm _ _
set_option maxRecDepth 100000
theorem Jfd{G:List (List Rat×List Rat)}{A B:List (List Rat)}(h:G.length=A.length)(j:A.length=B.length)(hi:∀(i:Nat) a b,A[i]?=some a->B[i]?=some b->∃ g,G[i]?=some g/\addQ a b=g.2):List.zipWith addQ A B=G.map (·.2):=by apply List.ext_getElem?;intro i;by_cases f:i<A.length;have d:A[i]?=some A[i]:=oi f;have hb:B[i]?=some (B[i]' om):=oi om;obtain⟨g,g1,e⟩:=hi i _ _ d hb;rw[wu,d,hb,xm,g1];exact yj some e;rw[xd (by rw[td];omega),xd (by rw[ov];omega)]
theorem Q8o{q:Qg}{d:Nat}{H:Qt}{G:List (List Rat×List Rat)}(h:RowOK q d H G)(hd:d<=6)(hp:q.P.length<=200):MB 900 (toRR (G.map (·.1)))/\MB 900 (toRR (G.map (·.2))):=by
 have e:∀ f:List Rat×List Rat->List Rat,(∀ g∈G,QR 900 (f g)/\(f g).length<=1000)->MB 900 (toRR (G.map f)):=λf k=>by refine⟨by rw[Vi,ov,h.len];omega,λr hr=>?_⟩;unfold toRR at hr;rw[yo] at hr;obtain⟨g,a,rfl⟩:=xz.1 hr;exact⟨Vd (k g a).1,by show(toR (f g)).length<=1000;rw[Jj];exact(k g a).2⟩
 constructor;refine e _ λg a=>?_;obtain⟨i,hi⟩:=yg a;obtain⟨_,l,g3,g4,j⟩:=h.g i g hi;exact⟨g4,om⟩;refine e _ λg a=>?_;obtain⟨i,hi⟩:=yg a;obtain⟨_,l,g3,g4,j⟩:=h.g i g hi;exact⟨Jb j oz,om⟩
theorem Jd0(x:Wx)(u:Int)(hB0:Qfm x):∃ n,Qa6 n x u=some true:=by
 refine⟨big,?_⟩;have hn:big<=big:=xr _;obtain⟨p,f,sizes,w⟩:=x;obtain⟨hB,hF,hS,hwB,_⟩:=hB0;simp only[] at hB hF hS hwB;unfold Qa6 Qbd;simp only[jn_eq];obtain⟨v,e1,e2⟩:=Qqc (p:=p) (a:=10) (b:=4) (k:=2) hn oz oz;rw[show((10:Nat):Int)=10 from rfl,show((4:Nat):Int)=4 from rfl,show((2:Nat):Int)=2 from rfl] at e1;rw[e1,sbind];cases v
 case true=>rw[bifT,sbind,bifT,bifT,w45];rfl
 obtain⟨⟨t1,t2,t3⟩,⟨s1,s2,s3,s4,s5,s6⟩,p1⟩:=e2 rfl;rw[bifF];by_cases c0:(3:Int)<(p.Av.B.length:Int)
 . rw[ol c0,bifT,sbind,bifT,bifT,w45];rfl
 rw[oo c0,bifF];obtain⟨v,e3,e4⟩:=Qvp (f:=f) hn;rw[e3,sbind];cases v
 case true=>rw[bifT,sbind,bifT,bifT,w45];rfl
 obtain⟨f1,f2,f3⟩:=e4 rfl;obtain⟨v,e5,e6⟩:=Xi (l:=sizes) (many:=3) (k:=2) hn oz;rw[show((3:Nat):Int)=3 from rfl,show((2:Nat):Int)=2 from rfl] at e5;rw[bifF,e5,sbind];cases v
 case true=>rw[bifT,sbind,bifT,bifT,w45];rfl
 have z1:=e6 rfl;obtain⟨v,e7,e8⟩:=Xi (l:=w) (many:=6) (k:=2) hn oz;rw[show((6:Nat):Int)=6 from rfl,show((2:Nat):Int)=2 from rfl] at e7;rw[bifF,e7,sbind,sbind];cases v
 case true=>rw[bifT,bifT,w45];rfl
 have u1:=e8 rfl;rw[bifF];by_cases d1:u<0
 . rw[ol d1,bifT,bifT,w45];rfl
 rw[oo d1,bifF];by_cases d2:(sizes.length:Int)<u
 . rw[ol d2,bifT,w45];rfl
 rw[oo d2,bifF];have O:=(Q79 (bits:=2000) hB oz (e2 rfl)).mono (k:=900) oz;have hT:Fk 129 (tF f.T):=Wg (Fk_tF hF.1 f1) oz;have hY:FR 129 (f.Y.map tF):=Vf (FR_tF hF.2.2.1 f3) oz;have hZ:FR 2 (sizes.map tF):=FR_tF hS z1;have f4:=f3.1;have L:=z1.1;rw[Qsj hn om om om (by have:=s3.1;omega) (by have:=s4.1;omega) (by have:=s5.1;omega) (λr hr=>by have:=(s6 r hr).1;omega) (by have:=p1.1;omega),sbind];have to:∀ x:Qb,Kw x=some (tF x):=λ_=>rfl;rw[Z8 hn om,sbind,to,sbind,Z8 hn om,sbind];rw[show(⟨(tP p).Tape,(tP p).Av,(tP p).P,2000⟩:Qg)=⟨tT p.Tape,tS p.Av,p.P.map tF,2000⟩ from rfl];have F:(⟨tT p.Tape,tS p.Av,p.P.map tF,2000⟩:Qg).P.length<=200:=by show(p.P.map tF).length<=200;rw[ov];have:=p1.1;omega
 generalize (⟨tT p.Tape,tS p.Av,p.P.map tF,2000⟩:Qg)=q at O F |-;have lZ:(sizes.map tF).length<=3:=by rw[ov];omega
 have lY:(f.Y.map tF).length<=6:=by rw[ov];omega
 have lx:u<=((sizes.map tF).length:Int):=by rw[ov];omega
 obtain⟨m,rfl⟩:∃ m:Nat,u=(m:Int):=⟨u.toNat,om⟩
 clear f4 L e1 e2 e3 e4 e5 e6 e7 e8 d2;generalize f.Y.map tF=y at *;generalize sizes.map tF=S at *;generalize tF f.T=t at *;have hmS:m<=S.length:=om
 have hS1:FR 2 (S.take m):=λz hz=>hZ z (ym hz);have hS2:FR 2 (S.drop m):=λz hz=>hZ z (vu hz);have lS1:(S.take m).length<=3:=by rw[xa];omega
 have lS2:(S.drop m).length<=3:=by rw[uc];omega
 obtain⟨r18,a1,a2⟩:=mar O (xr 129) oz hT hY lY hZ lZ;obtain⟨d,b1,b2⟩:=mar O (xr 129) oz hT hY lY hS1 lS1;rw[a1,sbind,sbind,sbind,Qyy hmS,sbind,b1,sbind];have works:((V4 big).bind λr=>some r)=some true:=by rw[w45];rfl
 rcases a2 with ⟨ak,_⟩ | ⟨a0,hm,z,M,ar,aok,_,_,atr⟩
 . obtain⟨y0,g1,g2,g3,g4⟩:=r18
   rw[Ky ak,ow,bifT,bifT,works]
 rw[a0,Kk,ou,bifF];rcases b2 with ⟨bk,_⟩ | ⟨b0,hm1,s,hM1,br,Q,bT,bY,btr⟩
 . obtain⟨y0,g1,g2,g3,g4⟩:=d
   rw[Ky bk,ow,bifT,works]
 rw[b0,Kk,ou,bifF];have hsd:sub S (m:Int) (S.length:Int)=some (S.drop m):=by rw[Qs7 hmS (xr _),xc]
 rw[hsd,sbind];have hrv:rv S=rv (S.take m)++rv (S.drop m):=by unfold rv;rw[<-xw,ue]
 have hsec:∃ L,marchQ q (rv (S.drop m)) 0 s.2.1 s.2.2 []=.inr L/\z=(s.1++L.1,L.2.1,L.2.2):=by
  rw[hrv,Q94,hM1] at M;simp only[] at M;have hsh:=Q3s (p:=q) (m:=(rv (S.take m)).length) (hs:=rv (S.drop m)) (i:=0) (T:=s.2.1) (Y:=s.2.2) (tr:=[]) (tr':=s.1);rw[uh] at hsh;rw[hsh] at M;cases h2:marchQ q (rv (S.drop m)) 0 s.2.1 s.2.2 [] with
  | inl g=>rw[h2] at M;cases M
  | inr L=>rw[h2] at M;exact⟨L,rfl,(Sum.inr.inj M).symm⟩
 obtain⟨y2,U,hzz⟩:=hsec;have hyD:=hm.2.1;rw[Ji] at hyD;have K:d.1.T=toF s.2.1:=by rw[br]
 have j:d.1.Y=toR s.2.2:=by rw[br]
 have hy1l:s.2.2.length=y.length:=by have:=Q.len;rw[j,Jj] at this;exact this
 obtain⟨r35,c1,c2⟩:=mar (t:=d.1.T) (y:=d.1.Y) (S:=S.drop m) (a:=138) O oz (xr _) (by rw[K];exact Jq om) (by rw[j];exact Vd (Jb bY oz)) (by rw[j,Jj];omega) hS2 lS2;have hfT:fv d.1.T=s.2.1:=by rw[K,Jf]
 have hfY:rv d.1.Y=s.2.2:=by rw[j,Wn]
 rw[c1,sbind];rw[hfT,hfY] at c2;have hpos:posQ (rv (S.drop m)):=by obtain⟨h1,h2⟩:=hm.2.2;refine⟨λh hh=>h1 h ?_,by rw[Ji];omega⟩;rw[hrv];exact uj _ hh
 have hm2:mayQ q s.2.2 (rv (S.drop m)):=⟨hm.1,om,hpos⟩
 rcases c2 with ⟨ck,cno⟩ | ⟨c0,_,y2',J,cr,R,_,_,ctr⟩
 . exact absurd ⟨hm2,y2,U⟩ cno
 rw[U] at J;obtain rfl:y2=y2':=Sum.inr.inj J;rw[j,Jj,hy1l] at R;obtain⟨⟨⟨i1,i2⟩,⟨i3,i4⟩,_⟩,_⟩:=hm.1.1;have hi1:1<=q.Tape.A0:=i1;have hi2:q.Tape.A0<=6:=i2;have hD:q.Tape.A0.toNat=y.length:=om
 have hK:q.P.length=q.Tape.A3.toNat:=by have:=hm.1.2.2;omega
 have E:1<=y.length:=om
 obtain⟨r37,g1,g2⟩:=rowm O E lY aok;obtain⟨r39,j1,j2⟩:=rowm O E lY Q;obtain⟨r41,k1,k2⟩:=rowm O E lY R;rw[g1,sbind,j1,sbind,k1,sbind,c0,Kk,ou,bifF];rcases g2 with e | ⟨g0,Ga,Ra,ga⟩
 . obtain⟨y0,q1,q2,q3,q4⟩:=r37
   rw[Ky e,ow,bifT,bifT,works]
 rw[g0,Kk,ou,bifF];rcases j2 with e | ⟨j0,Gb,Rb,gb⟩
 . obtain⟨y0,q1,q2,q3,q4⟩:=r39
   rw[Ky e,ow,bifT,bifT,works]
 rw[j0,Kk,ou,bifF];rcases k2 with e | ⟨k0,Gc,Rc,gc⟩
 . obtain⟨y0,q1,q2,q3,q4⟩:=r41
   rw[Ky e,ow,bifT,works]
 rw[k0,Kk,ou,bifF];have htr:tri r18.1=tri d.1++tri r35.1:=by rw[atr,btr,ctr,hzz,xw]
 have hj:=Jkd (A:=tri d.1) (B:=tri r35.1) hD hK Rb.len Rc.len (λi g hi=>by obtain⟨u,x2,x3,_⟩:=Rb.g i g hi;exact⟨u,x2,x3⟩) (λi g hi=>by obtain⟨u,x2,x3,_⟩:=Rc.g i g hi;exact⟨u,x2,x3⟩) E;rw[<-htr] at hj;obtain⟨mbY,mbP⟩:=Q8o Rb lY F;obtain⟨mcY,mcP⟩:=Q8o Rc lY F;obtain⟨maY,maP⟩:=Q8o Ra lY F
 have I:∀ {G:List (List Rat×List Rat)}{H:Qt}{f:List Rat×List Rat->List Rat}{k:Nat},RowOK q y.length H G->(∀ g∈G,(f g).length=k)->widM (G.map f)=k/\recM (G.map f):=fun {G H f k} V hf=>by
  obtain⟨g,r,rfl⟩:∃ g r,G=g::r:=by
   cases G with
   | nil=>have:=V.len;simp at this;omega
   | cons g r=>exact⟨g,r,rfl⟩
  have h0:widM ((g::r).map f)=k:=hf g (.head _);refine⟨h0,λb hb=>?_⟩;obtain⟨g',hg',rfl⟩:=xz.1 hb;rw[h0];exact hf g' hg'
 have m1:∀ {G H},RowOK q y.length H G->∀ g∈G,g.1.length=y.length:=λV g hg=>by obtain⟨i,hi⟩:=yg hg;exact(V.g i g hi).2.1
 have m2:∀ {G H},RowOK q y.length H G->∀ g∈G,g.2.length=q.P.length:=λV g hg=>by obtain⟨i,hi⟩:=yg hg;exact(V.g i g hi).2.2.1
 obtain⟨b1w,b1r⟩:=I (f:=(·.1)) Rb (m1 Rb);obtain⟨b2w,b2r⟩:=I (f:=(·.2)) Rb (m2 Rb);obtain⟨c1w,c1r⟩:=I (f:=(·.1)) Rc (m1 Rc);obtain⟨c2w,c2r⟩:=I (f:=(·.2)) Rc (m2 Rc);have hmulY:mulR (Gc.map (·.1)) (Gb.map (·.1))=Ga.map (·.1):=by
  unfold mulR;rw[yo];apply List.ext_getElem?;intro i;rw[xm,xm];by_cases Z:i<y.length
  . have P:Gc[i]?=some (Gc[i]'(by rw[Rc.len];exact Z)):=oi _
    have N:Ga[i]?=some (Ga[i]'(by rw[Ra.len];exact Z)):=oi _;rw[P,N];show some _=some _;rw[(Ra.g i _ N).1];exact yj some (hj i _ P).1
  . rw[xd (by rw[Rc.len];omega),xd (by rw[Ra.len];omega)];rfl
 have hqlen:∀ B:List (List Rat),(mulR (Gc.map (·.1)) B).length=y.length:=λB=>by unfold mulR;rw[ov,ov,Rc.len]
 have hmulP:List.zipWith addQ (mulR (Gc.map (·.1)) (Gb.map (·.2))) (Gc.map (·.2))=Ga.map (·.2):=by
  refine Jfd (by rw[hqlen,Ra.len]) (by rw[hqlen,ov,Rc.len]) λi a b N hb=>?_;have Z:i<y.length:=by have:=(ug.1 N).1;rw[hqlen] at this;exact this
  have P:Gc[i]?=some (Gc[i]'(by rw[Rc.len];exact Z)):=oi _;have X:Ga[i]?=some (Ga[i]'(by rw[Ra.len];exact Z)):=oi _;refine⟨_,X,?_⟩;unfold mulR at N;rw[xm,xm,P] at N;rw[xm,P] at hb;obtain rfl:=Option.some.inj N;obtain rfl:=Option.some.inj hb;rw[(Ra.g i _ X).1];exact(hj i _ P).2
 have hwq:∀ r∈mulR (Gc.map (·.1)) (Gb.map (·.2)),r.length=q.P.length:=λr hr=>by unfold mulR at hr;obtain⟨a,_,rfl⟩:=xz.1 hr;unfold leftR;rw[ov,wo,b2w]
 have hq0:widM (mulR (Gc.map (·.1)) (Gb.map (·.2)))=q.P.length:=by
  cases hh:mulR (Gc.map (·.1)) (Gb.map (·.2)) with
  | nil=>have:=hqlen (Gb.map (·.2));rw[hh] at this;simp at this;omega
  | cons r l=>exact hwq r (by rw[hh];exact .head _)
 have W:chnF (Gb.map (·.1)) (Gb.map (·.2)) (Gc.map (·.1)) (Gc.map (·.2)):=by
  refine⟨⟨⟨c1r,b1r,?_⟩,⟨c1r,b2r,?_⟩⟩,⟨λr hr=>by rw[hq0];exact hwq r hr,c2r,?_,?_⟩⟩
  . rw[c1w,ov,Rb.len]
  . rw[c1w,ov,Rb.len]
  . rw[hqlen,ov,Rc.len]
  . rw[hq0,c2w]
 have C:=Jh3 (x:=⟨toRR (Gb.map (·.1)),toRR (Gb.map (·.2))⟩) (y:=⟨toRR (Gc.map (·.1)),toRR (Gc.map (·.2))⟩) hn (k:=900) oz oz mbY mbP mcY mcP;rw[oq (by simp only[Qxs];exact W)] at C;simp only[Qxs] at C;rw[hmulY,hmulP] at C;rw[gb,gc,C,sbind];simp only[];rw[bifT,ga,Jh4 (x:=⟨toRR (Ga.map (·.1)),toRR (Ga.map (·.2))⟩) (y:=⟨toRR (Ga.map (·.1)),toRR (Ga.map (·.2))⟩) hn (k:=900) oz oz maY maP maY maP,sbind,dP_t ⟨rfl,rfl⟩,bifT,works]
end Go.Proofs.YtbdgngdpkdagoaaGreatDoor
