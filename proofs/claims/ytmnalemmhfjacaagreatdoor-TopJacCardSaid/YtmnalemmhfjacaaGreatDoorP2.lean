import Derived.Test.YtmnalemmhfjacaaGreatDoorP1
namespace Go.Proofs.YtmnalemmhfjacaaGreatDoor
open Go Go.RowKit
def sumQ(l:List Rat):Rat:=l.foldl (λo x=>o+x) 0
theorem Qr4{k:Nat}:∀ {l:List Rat}{b:Nat}{z:Rat},QR k l->qw z<=b->qw (l.foldl (λo x=>o+x) z)<=b+l.length*(k+1)
 | [],b,z,_,h=>by simpa using h
 | x::l,b,z,a,h=>by rw[List.foldl_cons];have:=Qr4 (l:=l) (λq d=>a q (.tail _ d)) (Zt h (a x (.head _)));rw[ow,ua];omega
theorem Qms{n k:Nat}{a:List Qa}(f:big<=n)(q:1<=k)(hk:k<1048576)(e:FR k a)(w:a.length<=1000):Qaf n a=some (toF (sumQ (rv a))):=by
 unfold Qaf;rw[Wr f,sbind,X8 (λi=>toF ((rv (a.take i)).foldl (λo x=>o+x) 0)) a,Wi,yr];rfl;intro i x d;have hi:=Ke d;have j:a.take (i+1)=a.take i++[x]:=by rw[uo,d];rfl
 have m:rv (a.take (i+1))=rv (a.take i)++[fv x]:=by unfold rv;rw[j,xu];rfl
 have hb:=Qr4 (l:=rv (a.take i)) (b:=1) (z:=0) (QR_rv (λy r=>e y (yd r)) q) (by rw[Qaa];exact xd _);have s:(rv (a.take i)).length*(k+1)<=1000*1048576:=ww (by rw[Q4];simp;omega) om;rw[K5 (k:=2000000000) f om om (Qz om) (Kq (e x (Je d)) om),sbind,m,List.foldl_append,Qu];rfl;rfl
def numR(x:Qa):Prop:=x=toF (fv x)/\qz (fv x)<=190
theorem Q2u{n k:Nat}{x:Qa}(j:big<=n)(hk:k<1048576)(a:Fk k x):
 ((Vq n x).bind λd=>bif !d then some true else (V9 n x).bind λf=>some (decide ((190:Int)<f)))=some (!dP (numR x)):=by
 rw[Qi8 j (Fk_Fw a om),sbind,@decP _ (Classical.propDecidable _),bifnP];unfold numR;by_cases h:x=toF (fv x)
 . have l:qw (fv x)<1099511627776:=by
    rcases gn k with h0 | h0
    . subst h0
      have:=qw_fv (Kq a (show 0<=1 by omega)) (xd 1);omega
    . have:=qw_fv a h0;omega
   have e:V9 n x=some (qz (fv x):Int):=by
    conv=>lhs;rw[h]
    exact Qmn j l
   rw[oi h,e,sbind];by_cases i:qz (fv x)<=190
   . rw[dP_t ⟨h,i⟩,oo om];rfl
   . rw[dP_f λg=>i g.2,oj om];rfl
 . rw[oh h,dP_f λg=>h g.1];rfl
theorem Qjg{n k:Nat}{l:List (List Qa)}(A:big<=n)(hk:k<1048576)(w:∀ r∈l,FR k r):Z8 n l=some (dP (∀ r∈l,∀ x∈r,numR x)):=by
 unfold Z8;rw[Xy (λ_ (r:List Qa)=>∀ x∈r,numR x) (r:=false)];rw[Qdd];by_cases h:∀ r∈l,∀ x∈r,numR x;rw[oi h,dP_t h];rw[oh h,dP_f h];intro i r hr
 have key:(rangeL (λ(_:Nat) (q:Qa) (_:Unit)=>
  jn (λ(a:(Bool)->Option _)=>
   (Vq n q).bind λd=>
   bif !d then (
    a true)
   else (
    (V9 n q).bind λf=>
    a (decide ((190:Int)<f)))) (λ(m:Bool)=>
   bif m then (
    some (Lp.out (Lp.out (false))))
   else (
    some (Lp.go ())))) r 0 ()).bind (lpK λ(_:Unit)=>some (Lp.go ()))=@ite _ (∀ x∈r,numR x) (Classical.propDecidable _) (some (Lp.go ())) (some (Lp.out (σ:=Unit) (τ:=Bool) false)):=by
  rw[Xy (λ_ (x:Qa)=>numR x) (r:=Lp.out false),Qdd];intro j x B;have e:=Q2u A hk (w r (Je hr) x (Je B))
  have s:(jn (λ(a:(Bool)->Option (Lp Unit (Lp Unit Bool)))=>
   (Vq n x).bind λd=>
   bif !d then (
    a true)
   else (
    (V9 n x).bind λf=>
    a (decide ((190:Int)<f)))) (λ(m:Bool)=>
   bif m then (
    some (Lp.out (Lp.out (false))))
   else (
    some (Lp.go ()))))=((Vq n x).bind λd=>bif !d then some true else (V9 n x).bind λf=>some (decide ((190:Int)<f))).bind λm=>bif m then (
    some (Lp.out (Lp.out (false))))
   else (
    some (Lp.go ())):=by
   rw[jn_eq];cases Vq n x with
   | none=>rfl
   | some b=>
     rw[sbind,sbind];cases b;rfl;rw[ot,bifF,bifF];cases V9 n x with
     | none=>rfl
     | some z=>rfl
  rw[s,e,sbind];constructor;intro h;rw[dP_t h];rfl;intro h;rw[dP_f h];rfl
 rw[key];constructor;intro h;rw[oi h];intro h;rw[oh h]
def shapeR(s:Qq):Prop:=(1<=s.B.length/\s.B.length<=8)/\s.C.length=s.B.length/\s.A.length=s.B.length/\(s.E.length=s.B.length\/s.E.length=0)/\∀(i:Nat) r,s.A[i]?=some r->r.length=i
theorem Qsh(s:Qq):Qds s=some (dP (shapeR s)):=by
 unfold Qds shapeR;simp only[jn_eq,bifd,bifnd];by_cases c1:(s.B.length:Int)<1
 . rw[oi c1,bifT,dP_f om]
 rw[oh c1];by_cases j:(8:Int)<(s.B.length:Int)
 . rw[oi j,bifT,dP_f om]
 rw[oh j];by_cases l:(s.C.length:Int)=(s.B.length:Int)
 case neg=>rw[oh l,bifT,dP_f om]
 rw[oi l];by_cases m:(s.A.length:Int)=(s.B.length:Int)
 case neg=>rw[oh m,bifT,dP_f om]
 rw[oi m]
 have hr:=Xy (f:=λ(a:Nat) (d:List Qa) (_:Unit)=>bif !decide ((d.length:Int)=(a:Int)) then some (Lp.out false) else some (Lp.go ())) (K:=λ_=>some true) (r:=false) (λi (r:List Qa)=>r.length=i) s.A (λi x B=>by
  constructor
  . intro h;rw[oj om];rfl
  . intro h;rw[oo om];rfl)
 have e:(rangeL (λ(a:Nat) (d:List Qa) (_:Unit)=>if (d.length:Int)=(a:Int) then some (Lp.go ()) else some (Lp.out false)) s.A 0 ()).bind (lpK λ_=>some true)=(rangeL (λ(a:Nat) (d:List Qa) (_:Unit)=>bif !decide ((d.length:Int)=(a:Int)) then some (Lp.out false) else some (Lp.go ())) s.A 0 ()).bind (lpK λ_=>some true):=by simp only[bifnd]
 have fin:(s.E.length=s.B.length\/s.E.length=0)->(rangeL (λ(a:Nat) (d:List Qa) (_:Unit)=>if (d.length:Int)=(a:Int) then some (Lp.go ()) else some (Lp.out false)) s.A 0 ()).bind (lpK λ_=>some true)=some (dP ((1<=s.B.length/\s.B.length<=8)/\s.C.length=s.B.length/\s.A.length=s.B.length/\(s.E.length=s.B.length\/s.E.length=0)/\∀(i:Nat) r,s.A[i]?=some r->r.length=i)):=by
  intro A;rw[e,hr];by_cases h:∀(i:Nat) r,s.A[i]?=some r->r.length=i
  . rw[oi h,dP_t ⟨om,om,om,A,h⟩]
  . rw[oh h,dP_f λg=>h g.2.2.2.2]
 by_cases q:(s.E.length:Int)=(s.B.length:Int)
 . rw[oi q,bifF];exact fin (.inl om)
 . rw[oh q]
   by_cases w:(s.E.length:Int)=0
   . rw[oi w];exact fin (.inr om)
   . rw[oh w,dP_f om]
structure SchW(k:Nat)(s:Qq):Prop where
 a:∀ r∈s.A,FR k r
 b:FR k s.B
 c:FR k s.C
 e:FR k s.E
 n:s.Name.length<=4611686018427387904
def rowsR(s:Qq):Prop:=∀(i:Nat) r,s.A[i]?=some r->sumQ (rv r)=fv (s.C.getD i ⟨⟨false,[]⟩,[]⟩)
theorem Qtq{n k:Nat}{s:Qq}(m:big<=n)(f:1<=k)(hk:k<1048576)(hs:SchW k s)(e:shapeR s):Qev n s=some (dP (rowsR s)):=by
 unfold Qev;obtain⟨⟨g1,A⟩,g3,g4,B,q⟩:=e;rw[Xy (λi (r:List Qa)=>sumQ (rv r)=fv (s.C.getD i ⟨⟨false,[]⟩,[]⟩)) (r:=false)];unfold rowsR;by_cases h:∀(i:Nat) r,s.A[i]?=some r->sumQ (rv r)=fv (s.C.getD i ⟨⟨false,[]⟩,[]⟩);rw[oi h,dP_t h];rw[oh h,dP_f h];intro i r hr;have hi:=Ke hr;have j:s.C[i]?=some (s.C.getD i ⟨⟨false,[]⟩,[]⟩):=by rw[oq,ol (show i<s.C.length by omega)];rfl
 have a:=hs.a r (Je hr);have x:=q i r hr;have d:=hs.c _ (Je j);have hb:=Qr4 (l:=rv r) (b:=1) (z:=0) (QR_rv a f) (by rw[Qaa];exact xd _);have w:(rv r).length*(k+1)<=8*1048576:=ww (by rw[Q4];omega) om;rw[Qms m f hk a om,sbind,Kj j,sbind,Qbm (k:=10000000) m om om (Qz (by unfold sumQ;omega)) (Kq d om),sbind,Qu];constructor;intro h;rw[oj h];rfl;intro h;rw[oo h];rfl
def schR(s:Qq):Prop:=wdB 2 s.Name=true/\shapeR s/\((∀ r∈s.A,∀ x∈r,numR x)/\∀ r∈[s.B,s.C,s.E],∀ x∈r,numR x)/\rowsR s/\sumQ (rv s.B)=1/\(s.E≠[]->sumQ (rv s.E)=1)
theorem Qxy{n k:Nat}{a:List Qa}(j:big<=n)(e:1<=k)(hk:k<1048576)(i:FR k a)(r:a.length<=8){β:Type}(f:Bool->Option β):
 ((Qaf n a).bind λd=>(Xh n d (toF 1)).bind f)=f (decide (sumQ (rv a)=1)):=by
 have hb:=Qr4 (l:=rv a) (b:=1) (z:=0) (QR_rv i e) (by rw[Qaa];exact xd _);have m:(rv a).length*(k+1)<=8*1048576:=ww (by rw[Q4];omega) om;have q:qw 1<=10000000:=by unfold qw;rw[show(1:Rat).num=1 from rfl,show(1:Rat).den=1 from rfl,show(1:Int).natAbs=1 from rfl,toL1];omega
 rw[Qms j e hk i om,sbind,Qbm (k:=10000000) j om om (Qz (by unfold sumQ;omega)) (Qz q),sbind,Qu,Qu]
theorem Qsi{n k:Nat}{s:Qq}(e:big<=n)(A:1<=k)(hk:k<1048576)(hs:SchW k s):∃ v,Qbg n s=some v/\(v=0↔schR s):=by
 unfold Qbg;rw[Zw e,sbind,Qw4 (w:=⟨2,s.Name,0⟩) e hs.n,sbind];simp only[];unfold schR;cases H:wdB 2 s.Name
 . exact⟨1,rfl,oa⟩
 rw[ot,bifF,Qsh,sbind,bifnP];by_cases a:shapeR s
 case neg=>rw[oh a];exact⟨2,rfl,λh=>om,λh=>absurd h.2.1 a⟩
 rw[oi a];have C:=a;obtain⟨⟨g1,E⟩,g3,g4,F,G⟩:=C;simp only[jn_eq];rw[Qjg e hk hs.a,sbind,bifnP]
 have B:∀ r∈[s.B,s.C,s.E],FR k r:=λr hr=>by
  rcases xj.1 hr with rfl | hr
  . exact hs.b
  rcases xj.1 hr with rfl | hr
  . exact hs.c
  rcases xj.1 hr with rfl | hr
  . exact hs.e
  cases hr
 by_cases i:∀ r∈s.A,∀ x∈r,numR x
 case neg=>rw[oh i,bifT];exact⟨3,rfl,λh=>om,λh=>absurd h.2.2.1.1 i⟩
 rw[oi i,Qjg e hk B,sbind,bifnP];by_cases j:∀ r∈[s.B,s.C,s.E],∀ x∈r,numR x
 case neg=>rw[oh j];exact⟨3,rfl,λh=>om,λh=>absurd h.2.2.1.2 j⟩
 rw[oi j,Qtq e A hk hs a,sbind,bifnP];by_cases l:rowsR s
 case neg=>rw[oh l];exact⟨4,rfl,λh=>om,λh=>absurd h.2.2.2.1 l⟩
 rw[oi l,Qxy e A hk hs.b om,bifnd];by_cases f:sumQ (rv s.B)=1
 case neg=>rw[oh f];exact⟨5,rfl,λh=>om,λh=>absurd h.2.2.2.2.1 f⟩
 rw[oi f,bifd];by_cases q:(0:Int)<(s.E.length:Int)
 . have d:s.E≠[]:=λh=>by rw[h] at q;simp at q
   rw[oi q,Qxy e A hk hs.e om,bifnd];by_cases m:sumQ (rv s.E)=1
   . rw[oi m];exact⟨0,rfl,λ_=>⟨by trivial,a,⟨i,j⟩,l,f,λ_=>m⟩,λ_=>rfl⟩
   . rw[oh m];exact⟨6,rfl,λh=>om,λh=>absurd (h.2.2.2.2.2 d) m⟩
 . have d:s.E=[]:=xm om
   rw[oh q,bifF];exact⟨0,rfl,λ_=>⟨by trivial,a,⟨i,j⟩,l,f,λh=>absurd d h⟩,λ_=>rfl⟩
theorem Qkx{n k:Nat}{s:Qq}(f:big<=n)(e:1<=k)(hk:k<1048576)(hs:SchW k s):Qbh n s=some (dP (schR s)):=by obtain⟨v,a,d⟩:=Qsi f e hk hs;unfold Qbh;rw[a,sbind];exact Qby d
def gapQ(s:Qq):List Rat:=if s.E=[] then [] else addQ (rv s.B) (scaleQ (-1) (rv s.E))
theorem Qmt{n k:Nat}{s:Qq}(d:big<=n)(e:1<=k)(hk:k<1048576)(hs:SchW k s)(hr:schR s):Qah n s=some (toR (gapQ s)):=by
 unfold Qah gapQ;simp only[jn_eq];rw[Qkx d e hk hs,sbind,dP_t hr,ot,bifF];obtain⟨⟨g1,j⟩,g3,g4,l,m⟩:=hr.2.1;by_cases a:s.E=[]
 rw[oi a,a];rfl;have q:s.E.length≠0:=λh=>a (xm h);have i:qw (((-1:Int):Int):Rat)<=1:=by unfold qw;rw[Rat.num_intCast,Rat.den_intCast,show(-1:Int).natAbs=1 from rfl,toL1];omega
 have f:(((-1:Int):Int):Rat)=-1:=rfl;rw[oh a,oo om,bifF];unfold Qmg;rw[Qd7 d oy oy,sbind,Xf (k:=k+1) d om om (Qz om) (K9 hs.e om) om,sbind,Qu];rw[Qbx (k:=k+1) d om om (K9 hs.b om) (Kx (Ja (Qjs i (QR_rv hs.e e)) om)) om,sbind,Q3,Yf,Q4,oi om,sbind,Vf,f]
theorem Q6b{k:Nat}{s:Qq}(a:1<=k)(hs:SchW k s):QR (2*k+2) (gapQ s):=by
 unfold gapQ;split;intro x d;cases d;have e:qw (-1:Rat)<=1:=by unfold qw;rw[show(-1:Rat).num=-1 from rfl,show(-1:Rat).den=1 from rfl,show(-1:Int).natAbs=1 from rfl,toL1];omega
 exact Ja (Qn9 (QR_rv hs.b a) (Qjs e (QR_rv hs.e a))) om
theorem Qr5{a:Int}:∀ {l:List Rat}{i j:Nat},fitQ a l i=some j->j<i+l.length
 | [],i,j,h=>by simp[fitQ] at h
 | q::l,i,j,h=>by simp only[fitQ] at h;split at h;have:=Qr5 h;simp;omega;cases h;simp
structure MadeQ where
 ys:List (List Rat)
 ks:List (List Rat)
 next:List Rat
 err:List Rat
def towQ(H:Rat)(m:Nat)(c:List Rat)(kss:List (List Rat)):List Rat:=scaleQ H (mixQ c kss (List.replicate m 0))
def fromQ(H:Rat)(Y c:List Rat)(kss:List (List Rat)):List Rat:=addQ Y (towQ H Y.length c kss)
def stageQ(t:Qk)(d:Int)(T H:Rat)(Y P:List Rat)(a:List Rat)(c:Rat)(i:Nat)(kss:List (List Rat)):Qc ⊕ (List Rat×List Rat):=
 match fitQ d (fromQ H Y a kss) 0 with
 | some j=>.inl ⟨6,0,(i:Int),300+(j:Int)⟩
 | none=>match fieldQ t d (T+H*c) (fromQ H Y a kss) P with
   | .inl e=>.inl ⟨e.1,0,(i:Int),(e.2:Int)⟩
   | .inr k=>.inr (fromQ H Y a kss,k)
def stagesQ(t:Qk)(a:Int)(T H:Rat)(Y P:List Rat):List (List Rat×Rat)->Nat->List (List Rat)->List (List Rat)->Qc ⊕ (List (List Rat)×List (List Rat))
 | [],_,yss,kss=>.inr (yss,kss)
 | x::r,i,yss,kss=>match stageQ t a T H Y P x.1 x.2 i kss with
   | .inl f=>.inl f
   | .inr z=>stagesQ t a T H Y P r (i+1) (yss++[z.1]) (kss++[z.2])
def endQ(s:Qq)(a:Int)(H:Rat)(Y:List Rat)(yss kss:List (List Rat)):Qc ⊕ MadeQ:=
 match fitQ a (fromQ H Y (rv s.B) kss) 0 with
 | some j=>.inl ⟨6,0,(s.B.length:Int),300+(j:Int)⟩
 | none=>match fitQ a (if gapQ s=[] then [] else towQ H Y.length (gapQ s) kss) 0 with
   | some j=>.inl ⟨6,0,(s.B.length:Int)+1,300+(j:Int)⟩
   | none=>.inr ⟨yss,kss,fromQ H Y (rv s.B) kss,if gapQ s=[] then [] else towQ H Y.length (gapQ s) kss⟩
def doQ(t:Qk)(s:Qq)(a:Int)(T H:Rat)(Y P:List Rat):Qc ⊕ MadeQ:=
 match stagesQ t a T H Y P (List.zip (s.A.map rv) (rv s.C)) 0 [] [] with
 | .inl f=>.inl f
 | .inr z=>endQ s a H Y z.1 z.2
def toRR(l:List (List Rat)):List (List Qa):=l.map toR
theorem Vi(l:List (List Rat)):(toRR l).length=l.length:=by unfold toRR;simp
theorem Q2v(l:List (List Rat)):(toRR l).map rv=l:=by
 unfold toRR;rw[uc]
 conv=>rhs;rw[<-List.map_id l]
 exact wn λq _=>Vf q
theorem Qpb{l:List (List Rat)}{P:List Qa->Prop}(h:∀ a∈l,P (toR a)):∀ a∈toRR l,P a:=λa d=>by obtain⟨q,e,rfl⟩:=xa.1 d;exact h q e
theorem Qri(m:Nat):QR 1 (List.replicate m 0):=λq a=>by rw[(gj.1 a).2,Qaa];exact xd _
theorem Qod{k m:Nat}{H:Rat}{c:List Rat}{kss:List (List Rat)}(e:qw H<=k)(f:QR k c)(hk:∀ a∈kss,QR 129 a)(i:kss.length<=8)(h0:129<=k):QR (20*k) (towQ H m c kss):=by have d:=Qoa (z:=List.replicate m 0) f hk (Qri m);have j:kss.length*(k+129+1)<=8*(k+129+1):=xq _ i;exact Ja (Qjs e d) om
theorem Qpc{k:Nat}{H:Rat}{Y c:List Rat}{kss:List (List Rat)}(e:QR k Y)(d:qw H<=k)(f:QR k c)(hk:∀ a∈kss,QR 129 a)(i:kss.length<=8)(h0:129<=k):QR (22*k) (fromQ H Y c kss):=
 Ja (Qn9 e (Qod d f hk i h0)) om
theorem Qoe{m:Nat}{H:Rat}{c:List Rat}{kss:List (List Rat)}(hk:∀ a∈kss,a.length=m):(towQ H m c kss).length=m:=by unfold towQ;rw[Yf];exact Qep hk oa
theorem Qhz{H:Rat}{Y c:List Rat}{kss:List (List Rat)}(hk:∀ a∈kss,a.length=Y.length):(fromQ H Y c kss).length=Y.length:=by unfold fromQ;rw[Qdc,Qoe hk,Nat.min_self]
section
variable {n k:Nat}{p:Qe}{t h:Qa}{y:List Qa}{g:Qg}{ys ks:List (List Qa)}{nx er:List Qa}
theorem Qs0{c:List Qa}{kss:List (List Rat)}(q:big<=n)(h0:129<=k)(hk:k<16384)(r:Fk k h)(m:FR k c)(e:∀ a∈kss,QR 129 a)(s:kss.length<=8)(i:c.length=kss.length)(d:∀ a∈kss,a.length=y.length)(A:y.length<=6):
 Vj n p t h y g ys (toRR kss) nx er c=some (toR (towQ (fv h) y.length (rv c) kss)):=by
 unfold Vj;rw[Ql1,Qrf (j:=k) (k:=129) q om om om om m (Qpb λa f=>Kx (e a f)) om (by rw[Vi];omega),sbind,oi ⟨by rw[Vi,i],Qpb λa f=>by rw[Q3];exact d a f⟩];rw[Q2v];have w:=Qoa (z:=List.replicate y.length 0) (QR_rv m om) e (Qri y.length);have x:kss.length*(k+129+1)<=8*(k+129+1):=xq _ s;have l:=Qep (cs:=rv c) d (show(List.replicate y.length (0:Rat)).length=y.length by simp);rw[Xf (k:=20*k) q om om (Kq r om) (Kx (Ja w om)) (by rw[Q3,l];omega),sbind,Vf];rfl
theorem Qxz{c:List Qa}{kss:List (List Rat)}(s:big<=n)(h0:129<=k)(hk:k<16384)(q:Fk k h)(j:FR k y)(l:FR k c)(e:∀ a∈kss,QR 129 a)(r:kss.length<=8)(f:c.length=kss.length)(d:∀ a∈kss,a.length=y.length)(w:y.length<=6):
 Xp n p t h y g ys (toRR kss) nx er c=some (toR (fromQ (fv h) (rv y) (rv c) kss)):=by
 unfold Xp;have hb:=Qod (m:=y.length) (qw_fv q om) (QR_rv l om) e r h0;have i:=Qoe (H:=fv h) (c:=rv c) d;rw[Qs0 s h0 hk q l e r f d w,sbind,Qbx (k:=20*k) s om om (K9 j om) (Kx hb) om,sbind,Q3,i,oi rfl,Vf];unfold fromQ;rw[Q4]
theorem Qrj{l:List Rat}{x2:Int}(q:big<=n)(i:QR 1099511627775 l)(m:l.length<=1000):
 ∃ a,a.limit=g.limit/\V3 n p t h y g ys ks nx er (toR l) x2=some (match fitQ g.limit l 0 with | none=>(⟨0,0,0,0⟩,a) | some j=>(⟨6,0,x2,300+(j:Int)⟩,a)):=by
 obtain⟨a,d,e⟩:=Ql2 (g:=g) q i;refine⟨a,d,?_⟩;unfold V3;rw[e,sbind];cases f:fitQ g.limit l 0 with
 | none=>rfl
 | some j=>
   have:=Qr5 f;simp only[ov,bifT];rw[w64 om om]
structure PrbOK(n k:Nat)(p:Qe)(t h:Qa)(y:List Qa):Prop where
 tp:Qrh n k p.Tape
 sw:SchW k p.G8
 sr:schR p.G8
 pk:FR k p.P
 pl:(p.P.length:Int)=p.Tape.Ao
 tk:Fk k t
 hk:Fk k h
 yk:FR k y
 yl:(y.length:Int)=p.Tape.Ae
def limQ(bits:Int):Int:=min (max bits 0) 4096
theorem Qnl{i:Nat}{c:Qa}(j:big<=n)(h0:129<=k)(hk:k<16384)(l:Fk k t)(e:Fk k h)(a:Fk k c)(d:p.G8.C[i]?=some c):Qap n p t h (i:Int)=some (toF (fv t+fv h*fv c)):=by have hi:=Ke d;have f:=Xi (qw_fv e om) (qw_fv a om);unfold Qap;simp only[jn_eq];rw[oo (show ¬(i:Int)<0 by omega),bifF,oo (show ¬(p.G8.C.length:Int)<=(i:Int) by omega),bifF,Kj d,sbind,K6 j om om e a,sbind,K5 (k:=4*k) j om om (Kq l om) (Qz om),sbind,Qu]
theorem Q4c{i:Nat}{a:List Qa}{c:Qa}{kss:List (List Rat)}(F:big<=n)(h0:129<=k)(hk:k<16384)(ok:PrbOK n k p t h y)(Q:g.limit=limQ p.Ac)
 (E:p.G8.A[i]?=some a) (J:p.G8.C[i]?=some c) (U:ys.length<=8) (w:∀ a∈kss,QR 129 a) (S:kss.length=i) (s:∀ a∈kss,a.length=y.length) :
 ∃ C,C.limit=g.limit/\∃ r,Xb n p t h y g ys (toRR kss) nx er (i:Int)=some r /\
   match stageQ p.Tape (limQ p.Ac) (fv t) (fv h) (rv y) (rv p.P) (rv a) (fv c) i kss with
   | .inl f=>r.1=f/\f.Ad≠0
   | .inr z=>r=(⟨0,0,0,0⟩,p,t,h,y,nx,er,C,ys++[toR z.1],toRR (kss++[z.2]))/\QR 129 z.2/\z.2.length=y.length:=by
 obtain⟨⟨W,X⟩,⟨Z,d4⟩,d5,d6⟩:=ok.tp.r.1;obtain⟨⟨g1,g2⟩,g3,g4,g5,N⟩:=ok.sr.2.1;have hi:=Ke E;have G:=ok.yl;have d:=ok.sw.a a (Je E);have m:=ok.sw.c c (Je J);have P:=N i a E;have hb:=Qpc (QR_rv ok.yk om) (qw_fv ok.hk om) (QR_rv d om) w om h0;have q:=Qhz (H:=fv h) (Y:=rv y) (c:=rv a) (kss:=kss) (by rw[Q4];exact s);rw[Q4] at q;unfold Xb;rw[Kj E,sbind,Qxz F h0 hk ok.hk ok.yk d w om om s om,sbind];obtain⟨C,L,M⟩:=Qrj (p:=p) (t:=t) (h:=h) (y:=y) (g:=g) (ys:=ys) (ks:=toRR kss) (nx:=nx) (er:=er) (x2:=(i:Int)) F (Ja hb (show 22*k<=1099511627775 by omega)) om;refine⟨C,L,?_⟩;rw[M,sbind,Q];unfold stageQ;cases hf:fitQ (limQ p.Ac) (fromQ (fv h) (rv y) (rv a) kss) 0 with
 | some j=>
   simp only[];rw[Jt oy,ov,bifT];exact⟨_,rfl,rfl,oy⟩
 | none=>
   simp only[];rw[Jv,ot,bifF];unfold Qmf;have B:=Xi (qw_fv ok.hk om) (qw_fv m om);have I:=Zt (qw_fv ok.tk om) B;rw[Qnl F h0 hk ok.tk ok.hk m J,sbind,sbind];have O:=Qw5 (k:=22*k) (t:=p.Tape) (p:=⟨toF (fv t+fv h*fv c),toR (fromQ (fv h) (rv y) (rv a) kss),p.P⟩) (bits:=p.Ac) F om om ⟨ok.tp.r,ok.tp.h,λx T=>Kq (ok.tp.w x T) om⟩ (Qz om) (Kx hb) (K9 ok.pk om) (by simp only[Q3,q];exact G) ok.pl;rw[O,sbind];simp only[];rw[Qu,Vf];have A:limQ p.Ac=min (max p.Ac 0) 4096:=rfl;rw[A];cases K:fieldQ p.Tape (min (max p.Ac 0) 4096) (fv t+fv h*fv c) (fromQ (fv h) (rv y) (rv a) kss) (rv p.P) with
   | inl e=>
     have R:=Qsz K;simp only[];rw[Jt om,ov,bifT];exact⟨_,rfl,rfl,by show e.1≠0;omega⟩
   | inr l=>
     obtain⟨q1,V⟩:=Qxx om K;simp only[];rw[Jv,ot,bifF,K0 oe oe,sbind,K0 (by rw[Vi];simp;omega) (by rw[Vi];simp;omega),sbind];refine⟨_,rfl,?_,V,om⟩;unfold toRR;rw[xu];rfl
end
section
variable {n k:Nat}{p:Qe}{t h:Qa}{y:List Qa}
def pairQ(s:Qq):List (List Rat×Rat):=List.zip (s.A.map rv) (rv s.C)
theorem Q6c{s:Qq}{i:Nat}{a:List Qa}{c:Qa}(e:s.A[i]?=some a)(f:s.C[i]?=some c):(pairQ s).drop i=(rv a,fv c)::(pairQ s).drop (i+1):=by
 have d:(pairQ s)[i]?=some (rv a,fv c):=by unfold pairQ rv;rw[we];simp only[xy];exact⟨by rw[e];rfl,by rw[f];rfl⟩
 have hi:=Ke d;rw[xh hi];congr 1;rw[ol hi] at d;exact Option.some.inj d
theorem Q7z{g:Qg}(L:big<=n)(h0:129<=k)(hk:k<8000)(ok:PrbOK n k p t h y)(R:g.limit=limQ p.Ac):
 ∃ r,Zz n p t h y g [] [] [] []=some r /\
   match doQ p.Tape p.G8 (limQ p.Ac) (fv t) (fv h) (rv y) (rv p.P) with
   | .inl f=>r.1=f/\f.Ad≠0
   | .inr z=>∃ B,r=(⟨0,0,0,0⟩,p,t,h,y,toR z.next,toR z.err,B,toRR z.ys,toRR z.ks)/\z.ys.length=p.G8.B.length/\z.ks.length=p.G8.B.length:=by
 obtain⟨⟨d1,d2⟩,⟨d3,d4⟩,d5,d6⟩:=ok.tp.r.1;obtain⟨⟨g1,g2⟩,g3,g4,N,g6⟩:=ok.sr.2.1;have hyl:=ok.yl;unfold Zz
 have key:∀(G:List Qa) (i:Nat) (g:Qg) (yss kss:List (List Rat)) (K:(Qe×Qa×Qa×(List Qa)×Qg×(List (List Qa))×(List (List Qa))×(List Qa)×(List Qa))->Option (Qc×Qe×Qa×Qa×(List Qa)×(List Qa)×(List Qa)×Qg×(List (List Qa))×(List (List Qa)))),
  i+G.length=p.G8.B.length->yss.length=i->kss.length=i->(∀ a∈kss,QR 129 a)->(∀ a∈kss,a.length=y.length)->g.limit=limQ p.Ac ->
  match stagesQ p.Tape (limQ p.Ac) (fv t) (fv h) (rv y) (rv p.P) ((pairQ p.G8).drop i) i yss kss with
  | .inl f=>∃ r,(rangeL (λ(C:Nat) (_:Qa) (l:Qe×Qa×Qa×(List Qa)×Qg×(List (List Qa))×(List (List Qa))×(List Qa)×(List Qa))=>
  (Xb n l.1 l.2.1 l.2.2.1 l.2.2.2.1 l.2.2.2.2.1 l.2.2.2.2.2.1 l.2.2.2.2.2.2.1 l.2.2.2.2.2.2.2.1 l.2.2.2.2.2.2.2.2 (C:Int)).bind λe=>
  bif !(Qo e.1 (⟨0,0,0,0⟩:Qc)) then (
   some (Lp.out ((e.1,e.2.1,e.2.2.1,e.2.2.2.1,e.2.2.2.2.1,e.2.2.2.2.2.1,e.2.2.2.2.2.2.1,e.2.2.2.2.2.2.2.1,e.2.2.2.2.2.2.2.2.1,e.2.2.2.2.2.2.2.2.2))))
  else (
   some (Lp.go (e.2.1,e.2.2.1,e.2.2.2.1,e.2.2.2.2.1,e.2.2.2.2.2.2.2.1,e.2.2.2.2.2.2.2.2.1,e.2.2.2.2.2.2.2.2.2,e.2.2.2.2.2.1,e.2.2.2.2.2.2.1)))) G i (p,t,h,y,g,toRR yss,toRR kss,[],[])).bind (lpK K)=some r/\r.1=f/\f.Ad≠0
   | .inr z=>∃ B,B.limit=limQ p.Ac/\(rangeL (λ(C:Nat) (_:Qa) (l:Qe×Qa×Qa×(List Qa)×Qg×(List (List Qa))×(List (List Qa))×(List Qa)×(List Qa))=>
  (Xb n l.1 l.2.1 l.2.2.1 l.2.2.2.1 l.2.2.2.2.1 l.2.2.2.2.2.1 l.2.2.2.2.2.2.1 l.2.2.2.2.2.2.2.1 l.2.2.2.2.2.2.2.2 (C:Int)).bind λe=>
  bif !(Qo e.1 (⟨0,0,0,0⟩:Qc)) then (
   some (Lp.out ((e.1,e.2.1,e.2.2.1,e.2.2.2.1,e.2.2.2.2.1,e.2.2.2.2.2.1,e.2.2.2.2.2.2.1,e.2.2.2.2.2.2.2.1,e.2.2.2.2.2.2.2.2.1,e.2.2.2.2.2.2.2.2.2))))
  else (
   some (Lp.go (e.2.1,e.2.2.1,e.2.2.2.1,e.2.2.2.2.1,e.2.2.2.2.2.2.2.1,e.2.2.2.2.2.2.2.2.1,e.2.2.2.2.2.2.2.2.2,e.2.2.2.2.2.1,e.2.2.2.2.2.2.1)))) G i (p,t,h,y,g,toRR yss,toRR kss,[],[])).bind (lpK K)=K (p,t,h,y,B,toRR z.1,toRR z.2,[],[])/\z.1.length=p.G8.B.length/\z.2.length=p.G8.B.length/\(∀ a∈z.2,QR 129 a)/\∀ a∈z.2,a.length=y.length:=by
  intro G
  induction G with
  | nil=>
    intro i g yss kss K hi hy1 T hq hl R;have w:(pairQ p.G8).drop i=[]:=by apply List.drop_eq_nil_of_le;unfold pairQ;simp only[yx,xf] at hi;rw[List.length_zip,Q4,xr];omega
    rw[w];simp only[stagesQ];simp only[yx,xf] at hi;exact⟨g,R,rfl,om,om,hq,hl⟩
  | cons b G ih=>
    intro i g yss kss K hi hy1 T hq hl R;rw[ow] at hi;have m:p.G8.A[i]?=some (p.G8.A[i]' om):=ol om;have hc:p.G8.C[i]?=some (p.G8.C[i]' om):=ol om;rw[Q6c m hc];generalize p.G8.A[i]' om=a at m;generalize p.G8.C[i]' om=c at hc;simp only[stagesQ,rangeL];obtain⟨B,e1,r,e2,M⟩:=Q4c (g:=g) (ys:=toRR yss) (nx:=[]) (er:=[]) L h0 om ok R m hc (by rw[Vi];omega) hq T hl;rw[e2,sbind];cases hs:stageQ p.Tape (limQ p.Ac) (fv t) (fv h) (rv y) (rv p.P) (rv a) (fv c) i kss with
    | inl f=>
      rw[hs] at M;obtain⟨I,e5⟩:=M;obtain⟨⟨f1,f2,f3,f4⟩,r⟩:=r;simp only[] at I;subst I;simp only[];rw[Jt e5,ov,bifT,sbind];exact⟨_,rfl,rfl,e5⟩
    | inr z=>
      rw[hs] at M;obtain⟨I,e5,e6⟩:=M;subst I;simp only[];rw[Jv,ot,bifF,sbind]
      have:=ih (i+1) B (yss++[z.1]) (kss++[z.2]) K om oe oe (λa m=>by
       rcases xw.1 m with m | m
       . exact hq a m
       . rw[xl.1 m];exact e5) (λa m=>by
       rcases xw.1 m with m | m
       . exact hl a m
       . rw[xl.1 m];exact e6) om
      have e7:toRR yss++[toR z.1]=toRR (yss++[z.1]):=by unfold toRR;rw[xu];rfl
      rw[e7];exact this
 generalize hK:(λ(d:Qe×Qa×Qa×(List Qa)×Qg×(List (List Qa))×(List (List Qa))×(List Qa)×(List Qa))=>
  (Xp n d.1 d.2.1 d.2.2.1 d.2.2.2.1 d.2.2.2.2.1 d.2.2.2.2.2.1 d.2.2.2.2.2.2.1 d.2.2.2.2.2.2.2.1 d.2.2.2.2.2.2.2.2 p.G8.B).bind λq=>
 (V3 n d.1 d.2.1 d.2.2.1 d.2.2.2.1 d.2.2.2.2.1 d.2.2.2.2.2.1 d.2.2.2.2.2.2.1 q d.2.2.2.2.2.2.2.2 q (p.G8.B.length:Int)).bind λA=>
 bif !(Qo A.1 (⟨0,0,0,0⟩:Qc)) then (
  some (A.1,d.1,d.2.1,d.2.2.1,d.2.2.2.1,q,d.2.2.2.2.2.2.2.2,A.2,d.2.2.2.2.2.1,d.2.2.2.2.2.2.1))
 else (
  jn (λ(U:((List Qa))->Option _)=>
   (Qah n p.G8).bind λX=>
   bif decide ((0:Int)<(X.length:Int)) then (
    (Vj n d.1 d.2.1 d.2.2.1 d.2.2.2.1 A.2 d.2.2.2.2.2.1 d.2.2.2.2.2.2.1 q d.2.2.2.2.2.2.2.2 X).bind λE=>
    U E)
   else (
    U d.2.2.2.2.2.2.2.2)) (λ(F:(List Qa))=>
   (V3 n d.1 d.2.1 d.2.2.1 d.2.2.2.1 A.2 d.2.2.2.2.2.1 d.2.2.2.2.2.2.1 q F F (wrap64 ((p.G8.B.length:Int)+(1:Int)))).bind λZ=>
   some (Z.1,d.1,d.2.1,d.2.2.1,d.2.2.2.1,q,F,Z.2,d.2.2.2.2.2.1,d.2.2.2.2.2.2.1))))=K
 have J:=key p.G8.B 0 g [] [] K om rfl rfl (λ_ h=>by cases h) (λ_ h=>by cases h) R;unfold doQ;rw[List.drop_zero] at J;unfold pairQ at J;cases hs:stagesQ p.Tape (limQ p.Ac) (fv t) (fv h) (rv y) (rv p.P) (List.zip (p.G8.A.map rv) (rv p.G8.C)) 0 [] [] with
 | inl f=>
   rw[hs] at J;exact J
 | inr z=>
   rw[hs] at J;obtain⟨B,q1,q2,q3,q4,V,W⟩:=J;obtain⟨yss,kss⟩:=z;simp only[] at q2 q3 q4 V W |-;have e0:toRR []=[]:=rfl;rw[e0] at q2;rw[q2,<-hK];simp only[];have hbB:=Qpc (QR_rv ok.yk om) (qw_fv ok.hk om) (QR_rv ok.sw.b om) V om h0;have hlB:=Qhz (H:=fv h) (Y:=rv y) (c:=rv p.G8.B) (kss:=kss) (by rw[Q4];exact W);rw[Q4] at hlB;have S:=Q6b (k:=k) (s:=p.G8) om ok.sw;rw[Qxz L h0 om ok.hk ok.yk ok.sw.b V om om W om,sbind];obtain⟨x,e1,e2⟩:=Qrj (p:=p) (t:=t) (h:=h) (y:=y) (g:=B) (ys:=toRR yss) (ks:=toRR kss) (nx:=toR (fromQ (fv h) (rv y) (rv p.G8.B) kss)) (er:=[]) (x2:=(p.G8.B.length:Int)) L (Ja hbB (show 22*k<=1099511627775 by omega)) om;rw[e2,sbind,q1];unfold endQ;cases hf:fitQ (limQ p.Ac) (fromQ (fv h) (rv y) (rv p.G8.B) kss) 0 with
   | some j=>
     simp only[];rw[Jt oy,ov,bifT];exact⟨_,rfl,rfl,oy⟩
   | none=>
     simp only[];rw[Jv,ot,bifF,jn_eq,Qmt L om om ok.sw ok.sr,sbind,Q3];have hE:((Vj n p t h y x (toRR yss) (toRR kss) (toR (fromQ (fv h) (rv y) (rv p.G8.B) kss)) [] (toR (gapQ p.G8)))=some (toR (towQ (fv h) y.length (gapQ p.G8) kss))\/gapQ p.G8=[])/\QR (41*k+1000) (if gapQ p.G8=[] then [] else towQ (fv h) y.length (gapQ p.G8) kss)/\(if gapQ p.G8=[] then [] else towQ (fv h) y.length (gapQ p.G8) kss).length<=1000:=by
      by_cases w:gapQ p.G8=[]
      . rw[oi w];exact⟨.inr w,λ_ h=>(by cases h),oa⟩
      . have Q:p.G8.E.length=p.G8.B.length:=by
         rcases N with N | N
         . exact N
         . exact absurd (by unfold gapQ;rw[oi (xm N)]) w
        have hgl:(gapQ p.G8).length=p.G8.B.length:=by unfold gapQ;rw[oh (λh=>by rw[h] at Q;simp at Q;omega),Qdc,Yf,Q4,Q4];omega
        rw[oh w];have ht:=Qs0 (k:=2*k+2) (p:=p) (t:=t) (h:=h) (y:=y) (g:=x) (ys:=toRR yss) (nx:=toR (fromQ (fv h) (rv y) (rv p.G8.B) kss)) (er:=[]) (c:=toR (gapQ p.G8)) (kss:=kss) L om om (Kq ok.hk om) (Kx S) V om (by rw[Q3];omega) W om;rw[Vf] at ht;refine⟨.inl ht,Ja (Qod (k:=2*k+2) (xx (qw_fv ok.hk om) om) S V om om) om,?_⟩;rw[Qoe W];omega
     obtain⟨hE1,O,P⟩:=hE;have hj:∀ {β:Type}(f:List Qa->Option β),(bif decide ((0:Int)<((gapQ p.G8).length:Int)) then (Vj n p t h y x (toRR yss) (toRR kss) (toR (fromQ (fv h) (rv y) (rv p.G8.B) kss)) [] (toR (gapQ p.G8))).bind λE=>f E else f [])=f (toR (if gapQ p.G8=[] then [] else towQ (fv h) y.length (gapQ p.G8) kss)):=by
      intro β f;by_cases w:gapQ p.G8=[]
      . rw[oi w,w];rfl
      . have:(gapQ p.G8).length≠0:=λh=>w (xm h)
        rw[oh w,oj om,bifT,hE1.resolve_right w,sbind]
     rw[hj,w1 om,Q4];generalize (if gapQ p.G8=[] then [] else towQ (fv h) y.length (gapQ p.G8) kss)=er at O P |-;obtain⟨g3',M,I⟩:=Qrj (p:=p) (t:=t) (h:=h) (y:=y) (g:=x) (ys:=toRR yss) (ks:=toRR kss) (nx:=toR (fromQ (fv h) (rv y) (rv p.G8.B) kss)) (er:=toR er) (x2:=((p.G8.B.length+1:Nat):Int)) L (Ja O (show 41*k+1000<=1099511627775 by omega)) P;rw[I,sbind,show x.limit=limQ p.Ac by omega];cases hf2:fitQ (limQ p.Ac) er 0 with
     | some j=>exact⟨_,rfl,rfl,by show(6:Int)≠0;decide⟩
     | none=>exact⟨_,rfl,g3',rfl,q3,q4⟩
theorem Qu7(d:big<=n)(e:1<=k)(hk:k<1048576)(f:TW p.Tape)(hd:-9223372036854775808<=p.Tape.Ae/\p.Tape.Ae<=9223372036854775807)(hs:SchW k p.G8):
 Yt n p=some (dP (tapeR p.Tape/\schR p.G8/\(p.P.length:Int)=p.Tape.Ao)):=by
 unfold Yt;simp only[jn_eq];rw[Qmp d f hd,sbind,bifP];by_cases c1:tapeR p.Tape;rw[oi c1,Qkx d e hk hs,sbind,bifP];by_cases a:schR p.G8;rw[oi a];exact Qby ⟨λh=>⟨c1,a,h⟩,λh=>h.2.2⟩
 rw[oh a,dP_f λh=>a h.2.1];rw[oh c1,dP_f λh=>c1 h.1]
end
def tI(x:Kt):Qt:=⟨x.Op,x.A,x.B,⟨⟨x.N.Neg,x.N.N⟩,x.N.D⟩⟩
theorem Qfi(f:Ql)(k:Nat):Jc f (k:Int)=some (!decide (f.N.length<=k/\f.D.length<=k)):=by unfold Jc;simp only[jn_eq,bifd];by_cases h:(k:Int)<(f.N.length:Int);rw[oi h,oo om];rfl;rw[oh h];by_cases g:(k:Int)<(f.D.length:Int);rw[oj g,oo om];rfl;rw[oo g,oj om];rfl
theorem Qu8{n:Nat}{t:K8}{many k:Nat}(j:big<=n)(m:many<=1000000):∃ v,Yv n t (many:Int) (k:Int)=some v/\(v=false->t.Code.length<=many/\t.Af.length<=many/\∀ c∈t.Code,c.N.N.length<=k/\c.N.D.length<=k):=by unfold Yv;rw[Qtl (λi=>∀ c,t.Code[i]?=some c->c.N.N.length<=k/\c.N.D.length<=k) (min t.Code.length many) (r:=true)];by_cases h:∀ i,i<min t.Code.length many->∀ c,t.Code[i]?=some c->c.N.N.length<=k/\c.N.D.length<=k;rw[oi h];simp only[jn_eq,bifd];by_cases e:(many:Int)<(t.Code.length:Int);rw[oi e];exact⟨true,rfl,λh=>by cases h⟩;rw[oh e];refine⟨_,rfl,λl=>⟨om,by have:=of_decide_eq_false l;omega,λc f=>?_⟩⟩;obtain⟨i,hi⟩:=ut f;exact h i (by have:=Ke hi;omega) c hi;rw[oh h];exact⟨true,rfl,λh=>by cases h⟩;intro i hi;have a:t.Code[i]?=some t.Code[i]:=ol om;generalize t.Code[i]=c at a;simp only[jn_eq,bifd];rw[oi om,oi om,Kj a,sbind,Qfi,sbind];by_cases h:c.N.N.length<=k/\c.N.D.length<=k;rw[oj h,ot,bifF,w1 om];exact⟨λ_=>rfl,λg=>absurd (λd hd=>by rw[a] at hd;cases hd;exact h) g⟩;rw[oo h,ov,bifT];exact⟨λg=>absurd (g c a) h,λ_=>rfl⟩;simp only[jn_eq,bifd];by_cases h:min t.Code.length many<t.Code.length;rw[oi om,oh om];rw[oh om,bifF];unfold big at j;omega
theorem Qy1{n:Nat}{t:K8}(d:big<=n)(e:t.Code.length<=1000000)(f:t.Af.length<=1000000):Zm n t=some ⟨t.Code.map tI,t.Af,t.Ae,t.Ao⟩:=by unfold Zm;rw[K0 oe oe,sbind];rw[Qlz (λi=>((t.Code.take i).map tI,(i:Int))) t.Code.length (t.Code.map tI)];rfl;intro i hi;have a:t.Code[i]?=some t.Code[i]:=ol hi;generalize t.Code[i]=p at a;simp only[bifd,J2,sbind];rw[oi om,Kj a,sbind,K0 oe oe,sbind,w1 om,Qau tI a];rfl;simp only[bifd];rw[oh om,yr];unfold big at d;omega;rfl
def tF(x:Ql):Qa:=⟨⟨x.Neg,x.N⟩,x.D⟩
theorem Qcc{n:Nat}{l:List Ql}(d:big<=n)(e:l.length<=1000000):Vn n l=some (l.map tF):=by unfold Vn;rw[Qlz (λi=>((l.take i).map tF,(i:Int))) l.length (l.map tF)];intro i hi;have a:l[i]?=some l[i]:=ol hi;generalize l[i]=p at a;simp only[bifd,J2,sbind];rw[oi om,Kj a,sbind,K0 oe oe,sbind,w1 om,Qau tF a];rfl;simp only[bifd];rw[oh om,yr];unfold big at d;omega;rfl
theorem Qy2{n:Nat}{l:List (List Ql)}(d:big<=n)(f:l.length<=1000000)(e:∀ r∈l,r.length<=1000000):Zl n l=some (l.map (·.map tF)):=by unfold Zl;rw[Qlz (λi=>((l.take i).map (·.map tF),(i:Int))) l.length (l.map (·.map tF))];intro i hi;have a:l[i]?=some l[i]:=ol hi;generalize l[i]=p at a;simp only[bifd];rw[oi om,Kj a,sbind,Qcc d (e p (Je a)),sbind,K0 oe oe,sbind,w1 om,Qau (·.map tF) a];simp only[bifd];rw[oh om,yr];unfold big at d;omega;rfl
def FL(many k:Nat)(l:List Ql):Prop:=l.length<=many/\∀ x∈l,x.N.length<=k/\x.D.length<=k
theorem Qan{n:Nat}{l:List Ql}{many k:Nat}(j:big<=n)(m:many<=1000000):∃ v,Jq n l (many:Int) (k:Int)=some v/\(v=false->FL many k l):=by unfold Jq;rw[Qtl (λi=>∀ c,l[i]?=some c->c.N.length<=k/\c.D.length<=k) (min l.length many) (r:=true)];by_cases h:∀ i,i<min l.length many->∀ c,l[i]?=some c->c.N.length<=k/\c.D.length<=k;rw[oi h];refine⟨_,rfl,λe=>⟨by have:=of_decide_eq_false e;omega,λc f=>?_⟩⟩;have:=of_decide_eq_false e;obtain⟨i,hi⟩:=ut f;exact h i (by have:=Ke hi;omega) c hi;rw[oh h];exact⟨true,rfl,λh=>by cases h⟩;intro i hi;have a:l[i]?=some l[i]:=ol om;generalize l[i]=c at a;simp only[jn_eq,bifd];rw[oi om,oi om,Kj a,sbind,Qfi,sbind];by_cases h:c.N.length<=k/\c.D.length<=k;rw[oj h,ot,bifF,w1 om];exact⟨λ_=>rfl,λg=>absurd (λd hd=>by rw[a] at hd;cases hd;exact h) g⟩;rw[oo h,ov,bifT];exact⟨λg=>absurd (g c a) h,λ_=>rfl⟩;simp only[jn_eq,bifd];by_cases h:min l.length many<l.length;rw[oi om,oh om];rw[oh om,bifF];unfold big at j;omega
theorem Qu9{n:Nat}{s:Ku}{many k:Nat}(j:big<=n)(m:many<=1000000):∃ v,Yw n s (many:Int) (k:Int)=some v /\
 (v=false->s.Name.length<=50/\s.A.length<=many/\FL many k s.B/\FL many k s.C/\FL many k s.E/\∀ r∈s.A,FL many k r):=by
 unfold Yw;simp only[jn_eq,bifd];by_cases B:(50:Int)<(s.Name.length:Int)
 . rw[oi B];exact⟨true,rfl,λh=>by cases h⟩
 rw[oh B];by_cases C:(many:Int)<(s.A.length:Int)
 . rw[oi C];exact⟨true,rfl,λh=>by cases h⟩
 rw[oh C];obtain⟨b,E,F⟩:=Qan (l:=s.B) (k:=k) j m;rw[E,sbind];cases b
 case true=>exact⟨true,rfl,λh=>by cases h⟩
 rw[bifF];obtain⟨c,G,H⟩:=Qan (l:=s.C) (k:=k) j m;rw[G,sbind];cases c
 case true=>exact⟨true,rfl,λh=>by cases h⟩
 rw[bifF];obtain⟨e,I,J⟩:=Qan (l:=s.E) (k:=k) j m;rw[I,sbind];cases e
 case true=>exact⟨true,rfl,λh=>by cases h⟩
 rw[bifF];have hb:∀ r,∃ v,Jq n r (many:Int) (k:Int)=some v/\(v=false->FL many k r):=λr=>Qan j m
 have L:=Qtl (f:=λ(a:Int)=>
  if a<(s.A.length:Int) then (
   (getI s.A a).bind λx=>
   (Jq n x (many:Int) (k:Int)).bind λw=>
   bif w then (
    some (Lp.out (Lp.out (true))))
   else (
    some (Lp.go (wrap64 (a+(1:Int))))))
  else (
   some (Lp.out (Lp.go ())))) (n:=n) (K:=λ(_:Unit)=>some false) (r:=true) (λi=>∀ r,s.A[i]?=some r->Jq n r (many:Int) (k:Int)=some false) s.A.length (λi hi=>by
  have q:s.A[i]?=some s.A[i]:=ol hi;generalize s.A[i]=r at q;obtain⟨v,g1,A⟩:=hb r;rw[oi om,Kj q,sbind,g1,sbind];cases v
  . rw[bifF,w1 om]
    exact⟨λ_=>rfl,λg=>absurd (λd hd=>by rw[q] at hd;cases hd;exact g1) g⟩
  . rw[bifT]
    exact⟨λg=>(by have:=g r q;rw[g1] at this;cases this),λ_=>rfl⟩) (by rw[oh om]) (by unfold big at j;omega)
 rw[L];by_cases h:∀ i,i<s.A.length->∀ r,s.A[i]?=some r->Jq n r (many:Int) (k:Int)=some false
 . rw[oi h]
   refine⟨false,rfl,λ_=>⟨om,om,F rfl,H rfl,J rfl,λr hr=>?_⟩⟩;obtain⟨i,hi⟩:=ut hr;obtain⟨v,g1,A⟩:=hb r;have:=h i (Ke hi) r hi;rw[g1] at this;exact A (Option.some.inj this)
 . rw[oh h];exact⟨true,rfl,λh=>by cases h⟩
theorem Qmu{n:Nat}{p:Jr}{a b k:Nat}(d:big<=n)(w:a<=1000000)(hb:b<=1000000):∃ v,Yx n p (a:Int) (b:Int) (k:Int)=some v /\
 (v=false->(p.Tape.Code.length<=a/\p.Tape.Af.length<=a/\∀ c∈p.Tape.Code,c.N.N.length<=k/\c.N.D.length<=k)/\(p.G8.Name.length<=50/\p.G8.A.length<=b/\FL b 4 p.G8.B/\FL b 4 p.G8.C/\FL b 4 p.G8.E/\∀ r∈p.G8.A,FL b 4 r)/\FL 6 k p.P):=by
 unfold Yx;simp only[jn_eq];obtain⟨u,i,j⟩:=Qu8 (t:=p.Tape) (k:=k) d w;rw[i,sbind];cases u
 case true=>exact⟨true,rfl,λh=>by cases h⟩
 rw[bifF];obtain⟨u,e,m⟩:=Qu9 (s:=p.G8) (k:=4) d hb;rw[show((4:Nat):Int)=4 from rfl] at e;rw[e,sbind];cases u
 case true=>exact⟨true,rfl,λh=>by cases h⟩
 rw[bifF];obtain⟨u,f,q⟩:=Qan (l:=p.P) (many:=6) (k:=k) d oy;rw[show((6:Nat):Int)=6 from rfl] at f;rw[f,sbind];exact⟨u,rfl,λh=>⟨j rfl,m rfl,q h⟩⟩
def tS(s:Ku):Qq:=⟨s.Name,s.C.map tF,s.A.map (·.map tF),s.B.map tF,s.E.map tF⟩
def tT(t:K8):Qk:=⟨t.Code.map tI,t.Af,t.Ae,t.Ao⟩
def tP(p:Jr):Qe:=⟨tT p.Tape,tS p.G8,p.P.map tF,p.Ac⟩
theorem Qy3{n:Nat}{p:Jr}(a:big<=n)(d:p.Tape.Code.length<=1000000)(e:p.Tape.Af.length<=1000000)(f:p.G8.A.length<=1000000)(i:p.G8.B.length<=1000000)(j:p.G8.C.length<=1000000)(l:p.G8.E.length<=1000000)
 (m:∀ r∈p.G8.A,r.length<=1000000) (q:p.P.length<=1000000):Zn n p=some (tP p):=by
 unfold Zn Qa6;rw[Qy1 a d e,sbind,Qcc a j,sbind,Qy2 a f m,sbind,Qcc a i,sbind,Qcc a l,sbind,sbind,Qcc a q,sbind];rfl
structure PrbW(k:Nat)(p:Qe):Prop where
 t:∀ c∈p.Tape.Code,Fk k c.N
 d:-9223372036854775808<=p.Tape.Ae/\p.Tape.Ae<=9223372036854775807
 s:SchW k p.G8
 p:FR k p.P
def prbR(p:Qe):Prop:=tapeR p.Tape/\schR p.G8/\(p.P.length:Int)=p.Tape.Ao
theorem PrbW.tw{k:Nat}{p:Qe}(h:PrbW k p)(hk:k<1048576):TW p.Tape:=λc a=>Fk_Fw (h.t c a) om
theorem Qgu{n k:Nat}{p:Qe}(d:big<=n)(h0:129<=k)(hk:k<8000)(a:PrbW k p):Yt n p=some (dP (prbR p)):=
 Qu7 d om om (a.tw om) a.d a.s
theorem PrbW.ok{n k:Nat}{p:Qe}{t h:Qa}{y:List Qa}(a:PrbW k p)(f:big<=n)(hk:k<8000)(hr:prbR p)(i:Fk k t)(d:Fk k h)(j:FR k y)(e:(y.length:Int)=p.Tape.Ae):PrbOK n k p t h y:=
 ⟨⟨hr.1,by rw[Qmp f (a.tw om) a.d,dP_t hr.1],a.t⟩,a.s,hr.2.1,a.p,hr.2.2,i,d,j,e⟩
def toM(z:MadeQ):Qy:=⟨toRR z.ys,toRR z.ks,toR z.next,toR z.err⟩
def noM:Qy:=⟨[],[],[],[]⟩
noncomputable def stepQ(p:Qe)(T H:Rat)(Y:List Rat):Qc ⊕ MadeQ:=
 @ite _ (prbR p/\(Y.length:Int)=p.Tape.Ae) (Classical.propDecidable _) (doQ p.Tape p.G8 (limQ p.Ac) T H Y (rv p.P)) (.inl ⟨2,0,0,0⟩)
theorem Qi9{n k:Nat}{p:Qe}{t h:Qa}{y:List Qa}(j:big<=n)(h0:129<=k)(hk:k<8000)(m:PrbW k p)(w:Fk k t)(s:Fk k h)(x:FR k y):
 Qcm n p t h y=some (match stepQ p (fv t) (fv h) (rv y) with | .inl f=>(noM,f) | .inr z=>(toM z,⟨0,0,0,0⟩))/\∀ f,stepQ p (fv t) (fv h) (rv y)=.inl f->f.Ad≠0:=by
 unfold Qcm stepQ;simp only[jn_eq];rw[Qgu j h0 hk m,sbind,bifnP,Q4];by_cases hr:prbR p
 case neg=>rw[oh hr,oh (λh=>hr h.1),bifT];exact⟨rfl,λf h=>by cases h;decide⟩
 rw[oi hr];by_cases a:(y.length:Int)=p.Tape.Ae
 case neg=>rw[oo a,oh (λh=>a h.2),ov,bifT];exact⟨rfl,λf h=>by cases h;decide⟩
 rw[oj a,oi ⟨hr,a⟩,ot,bifF];have ok:=m.ok j hk hr w s x a;unfold Vx;rw[sbind];obtain⟨r,q,d⟩:=Q7z (g:=⟨⟨0,0⟩,min (max p.Ac 0) 4096⟩) j h0 hk ok rfl;rw[q,sbind];cases hd:doQ p.Tape p.G8 (limQ p.Ac) (fv t) (fv h) (rv y) (rv p.P) with
 | inl f=>
   rw[hd] at d;obtain⟨e,l⟩:=d;refine⟨?_,λg i=>by cases i;exact l⟩;rw[e];obtain⟨A,B,f3,C⟩:=f;rw[Jt l,ov,bifT];rfl
 | inr z=>
   rw[hd] at d;obtain⟨E,e,_⟩:=d;subst e;simp only[];rw[Jv,ot,bifF];exact⟨rfl,λg i=>by cases i⟩
theorem Qrk{t:Qk}{j:Int}{T H:Rat}{Y P:List Rat}{m:Nat}(l:j<=4096)(C:t.Af.length=m)(A:Y.length=m):∀ {r:List (List Rat×Rat)}{i:Nat}{yss kss:List (List Rat)}{z},(∀ a∈kss,a.length=m)->(∀ a∈yss,a.length=m)->stagesQ t j T H Y P r i yss kss=.inr z ->
 (∀ a∈z.2,a.length=m)/\(∀ a∈z.1,a.length=m)/\(∃ e,z.1=yss++e)/\∃ e,z.2=kss++e
 | [],i,yss,kss,z,q,s,h=>by simp only[stagesQ] at h;cases h;exact⟨q,s,⟨[],oa⟩,[],oa⟩
 | x::r,i,yss,kss,z,q,s,h=>by
   simp only[stagesQ] at h;cases hs:stageQ t j T H Y P x.1 x.2 i kss with
   | inl f=>rw[hs] at h;cases h
   | inr w=>
     rw[hs] at h;have E:w.2.length=m/\w.1.length=m:=by
      unfold stageQ at hs;split at hs;cases hs;cases B:fieldQ t j (T+H*x.2) (fromQ H Y x.1 kss) P with
      | inl e=>rw[B] at hs;cases hs
      | inr k=>
        rw[B] at hs;cases hs;exact⟨by rw[(Qxx l B).1,C],by show(fromQ H Y x.1 kss).length=m;rw[Qhz (by rw[A];exact q),A]⟩
     obtain⟨g1,G,⟨e,g3⟩,F,g4⟩:=Qrk l C A (λa d=>by
      rcases xw.1 d with d | d;exact q a d;rw[xl.1 d];exact E.1) (λa d=>by
      rcases xw.1 d with d | d;exact s a d
      rw[xl.1 d];exact E.2) h
     exact⟨g1,G,⟨w.1::e,by rw[g3];simp⟩,w.2::F,by rw[g4];simp⟩
set_option maxRecDepth 100000
def toD(v d:Rat):Qs:=⟨toF v,toF d⟩
def toDD(vs ds:List Rat):List Qs:=List.zipWith toD vs ds
theorem Qjt{vs ds:List Rat}(h:ds.length=vs.length):(toDD vs ds).length=vs.length:=by unfold toDD;rw[List.length_zipWith,h,Nat.min_self]
theorem Qx0{vs ds:List Rat}{v d:Rat}(h:ds.length=vs.length):toDD vs ds++[toD v d]=toDD (vs++[v]) (ds++[d]):=by unfold toDD;rw[List.zipWith_append h.symm];rfl
theorem Qkh{vs ds:List Rat}{r:Int}(h:ds.length=vs.length)(d:0<=r)(e:r<(vs.length:Int)):getI (toDD vs ds) r=some (toD (vs.getD r.toNat 0) (ds.getD r.toNat 0)):=by
 obtain⟨k,rfl⟩:∃ k:Nat,r=(k:Int):=⟨r.toNat,om⟩
 have hk:k<vs.length:=om
 have a:k<ds.length:=om
 rw[Qge,yz];unfold toDD;rw[List.getElem?_zipWith,ol hk,ol a,oq,ol hk,oq,ol a];rfl
def turnQ(a q:Rat)(e:Int):Rat:=if 0<e then a ^ (e - 1) else if e<0 then q / a else 0
def slopeQ(x:Qt)(q T:Rat)(Y P vs ds:List Rat):Rat:=
 if x.Op=6 then -ds.getD x.A.toNat 0 else
 if x.Op=11 then ((x.B:Rat)*turnQ (vs.getD x.A.toNat 0) q x.B)*ds.getD x.A.toNat 0 else
 if x.Op=7 then ds.getD x.A.toNat 0+ds.getD x.B.toNat 0 else
 if x.Op=8 then ds.getD x.A.toNat 0 - ds.getD x.B.toNat 0 else
 if x.Op=9 then ds.getD x.A.toNat 0*vs.getD x.B.toNat 0+vs.getD x.A.toNat 0*ds.getD x.B.toNat 0 else
 if x.Op=10 then (ds.getD x.A.toNat 0 - q*ds.getD x.B.toNat 0) / vs.getD x.B.toNat 0 else
 if x.Op=1 then 0 else
 if x.Op=3 then Y.getD x.A.toNat 0 else
 if x.Op=4 then P.getD x.A.toNat 0 else T
theorem Q0u{z:Int}(h:z.natAbs<=8):qw (z:Rat)<=1:=by unfold qw;rw[Rat.num_intCast,Rat.den_intCast];have l1:(toL z.natAbs).length<=1:=Ye (n:=z.natAbs) (k:=1) (by rw[We,Zg];omega);have a:(toL 1).length<=1:=Ye (n:=1) (k:=1) (by rw[We,Zg];omega);omega
theorem Q4d{n k:Nat}{g:Qg}{z:Int}{t:Qk}{x:Qt}{T T':Rat}{Y P Y' P' vs ds:List Rat}(f:big<=n)(j:1<=k)(hk:k<1048576)(I:mayR t vs.length x)(R:Fk k x.N)
 (hT:qw T<=k) (hY:QR k Y) (hP:QR k P) (S:QR k vs) (hT':qw T'<=k) (E:QR k Y') (C:QR k P') (Q:QR k ds) (U:ds.length=vs.length) (J:Y'.length=Y.length) (G:P'.length=P.length) (hy:(Y.length:Int)=t.Ae) (hp:(P.length:Int)=t.Ao) :
 ∃ v,J8 n g z x ⟨toD T T',toDD Y Y',toDD P P'⟩ (toDD vs ds)=some (match opQ x T Y P vs with | none=>(v,false) | some q=>(toD q (slopeQ x q T' Y' P' vs ds),true))/\∀ q,opQ x T Y P vs=some q->qw q<=8*k+1/\qw (slopeQ x q T' Y' P' vs ds)<=20*k+10:=by
 unfold J8 opQ slopeQ;have B:=Qob I;have dA:x.Op=6\/x.Op=11\/x.Op=7\/x.Op=8\/x.Op=9\/x.Op=10->getI (toDD vs ds) x.A=some (toD (vs.getD x.A.toNat 0) (ds.getD x.A.toNat 0)):=λh=>Qkh U (B _ (rdT_A h)).1 (B _ (rdT_A h)).2;have dB:x.Op=7\/x.Op=8\/x.Op=9\/x.Op=10->getI (toDD vs ds) x.B=some (toD (vs.getD x.B.toNat 0) (ds.getD x.B.toNat 0)):=λh=>Qkh U (B _ (rdT_B h)).1 (B _ (rdT_B h)).2;have qA:qw (vs.getD x.A.toNat 0)<=k:=Xg S j;have qB:qw (vs.getD x.B.toNat 0)<=k:=Xg S j;have qA':qw (ds.getD x.A.toNat 0)<=k:=Xg Q j;have qB':qw (ds.getD x.B.toNat 0)<=k:=Xg Q j;generalize vs.getD x.A.toNat 0=a at dA qA |-;generalize vs.getD x.B.toNat 0=b at dB qB |-;generalize ds.getD x.A.toNat 0=a' at dA qA' |-;generalize ds.getD x.B.toNat 0=b' at dB qB' |-;have fA:Fk k (toF a):=Qz qA;have fB:Fk k (toF b):=Qz qB;have fA':Fk k (toF a'):=Qz qA';have fB':Fk k (toF b'):=Qz qB';have pV:∀ u w:Rat,(toD u w).V=toF u:=λ_ _=>rfl;have pD:∀ u w:Rat,(toD u w).D=toF w:=λ_ _=>rfl;simp only[bifd];by_cases X:x.Op=6;simp only[oi X];unfold Qcq;rw[dA om,sbind,pV,pD,Qcb f (Fk_Fw fA om),sbind,Qcb f (Fk_Fw fA' om),sbind,sbind,Qu,Qu];exact⟨toD 0 0,rfl,λq d=>by cases d;rw[Qkg,Qkg];omega⟩;simp only[oh X];by_cases r:x.Op=11;simp only[oi r];unfold Qcr;simp only[jn_eq];rw[dA om,sbind,pV,pD,Qhs f j om fA,sbind,Qu];by_cases F:x.B < -8\/8<x.B\/(x.B<0/\a=0)
 simp only[oi F];exact⟨_,rfl,λq d=>by cases d⟩;simp only[oh F];rw[ot,bifF,Wr f,sbind];have d:=Qr1 qA (e:=x.B) om
 have key:∀ w:Rat,qw w<=16*k+2->turnQ a (a ^ x.B) x.B=w->((Jj n x.B).bind λM=>(Ki n M (toF w)).bind λN=>(Ki n N (toF a')).bind λO=>(some ((⟨toF (a ^ x.B),O⟩:Qs),true):Option (Qs×Bool)))=some (toD (a ^ x.B) (((x.B:Rat)*turnQ a (a ^ x.B) x.B)*a'),true)/\qw (((x.B:Rat)*turnQ a (a ^ x.B) x.B)*a')<=20*k+10:=λw V e=>by have qi:=Q0u (z:=x.B) om;have s:=Xi qi V;have A:=Xi s qA';rw[Qd7 f om om,sbind,K6 (k:=16*k+2) f om om (Qz om) (Qz V),sbind,K6 (k:=20*k) f om om (Qz (by rw[Qu,Qu];omega)) (Qz om),sbind,Qu,Qu,Qu,Qu,e];exact⟨rfl,om⟩
 simp only[bifd];by_cases h0:0<x.B;have H:=Qr1 qA (e:=x.B - 1) om;obtain⟨k1,k2⟩:=key (a ^ (x.B - 1)) om (by unfold turnQ;rw[oi h0]);rw[oi h0,w64 om om,Qhs f j om fA,sbind,Qu,oh (show ¬(x.B - 1 < -8\/8<x.B - 1\/(x.B - 1<0/\a=0)) by omega)];simp only[];rw[k1,sbind];exact⟨toD 0 0,rfl,λq d=>by cases d;exact⟨d,k2⟩⟩;rw[oh h0];by_cases l:x.B<0;have ha:¬ a=0:=λg=>F (.inr (.inr ⟨l,g⟩));have H:=Ql0 d qA;obtain⟨k1,k2⟩:=key (a ^ x.B / a) om (by unfold turnQ;rw[oh h0,oi l]);rw[oi l,Qav (k:=8*k+1) f om om (Qz d) (Qz om),sbind,Qu,Qu,oh ha];simp only[];rw[k1,sbind];exact⟨toD 0 0,rfl,λq d=>by cases d;exact⟨d,k2⟩⟩;obtain⟨k1,k2⟩:=key 0 (by rw[Qaa];omega) (by unfold turnQ;rw[oh h0,oh l]);rw[oh l,k1,sbind];exact⟨toD 0 0,rfl,λq d=>by cases d;exact⟨d,k2⟩⟩;simp only[oh r];by_cases Z:x.Op=7;simp only[oi Z];unfold Qcs;rw[dA om,sbind,dB om,sbind,pV,pV,pD,pD,K5 f j om fA fB,sbind,K5 f j om fA' fB',sbind,sbind,Qu,Qu,Qu,Qu];exact⟨toD 0 0,rfl,λq d=>by cases d;have:=Zt qA qB;have:=Zt qA' qB';omega⟩;simp only[oh Z];by_cases o8:x.Op=8;simp only[oi o8];unfold Qct;rw[dA om,sbind,dB om,sbind,pV,pV,pD,pD,Qe3 f j om fA fB,sbind,Qe3 f j om fA' fB',sbind,sbind,Qu,Qu,Qu,Qu];exact⟨toD 0 0,rfl,λq d=>by cases d;have:=Qn8 qA qB;have:=Qn8 qA' qB';omega⟩;simp only[oh o8];by_cases o9:x.Op=9;simp only[oi o9];unfold Qcu;have s:=Xi qA' qB;have A:=Xi qA qB';have q3:=Xi qA qB;have q4:=Zt s A;rw[dA om,sbind,dB om,sbind,pV,pV,pD,pD,K6 f j om fA fB,sbind,K6 f j om fA' fB,sbind,K6 f j om fA fB',sbind,Qu,Qu,Qu,Qu,K5 (k:=2*k) f om om (Qz om) (Qz om),sbind,sbind,Qu,Qu];exact⟨toD 0 0,rfl,λq d=>by cases d;omega⟩;simp only[oh o9];by_cases m:x.Op=10;simp only[oi m];unfold Qcv;rw[dA om,sbind,dB om,sbind,pV,pV,pD,pD,Qav f j om fA fB,sbind,Qu,Qu];by_cases hb:b=0;simp only[oi hb];exact⟨_,rfl,λq d=>by cases d⟩;simp only[oh hb];have q0:=Ql0 qA qB;have s:=Xi q0 qB';have A:=Qn8 qA' s;have q3:=Ql0 A qB;rw[ot,bifF,K6 (k:=2*k) f om om (Qz om) (Qz om),sbind,Qu,Qu,Qe3 (k:=3*k) f om om (Qz om) (Qz om),sbind,Qu,Qu,Qav (k:=4*k+1) f om om (Qz om) (Qz om),sbind,Qu,Qu,oh hb,sbind];exact⟨toD 0 0,rfl,λq d=>by cases d;omega⟩;simp only[oh m];unfold Vs;simp only[bifd];by_cases W:x.Op=1;simp only[oi W];unfold Qdn;rw[Ju f (Fk_Fw R om),sbind,Wr f,sbind,sbind,sbind];exact⟨toD 0 0,rfl,λq d=>by cases d;have:=qw_fv R j;rw[Qaa];omega⟩;simp only[oh W];by_cases K:x.Op=3;simp only[oi K];obtain⟨a1,a2⟩:=Qu5 I K;rw[Qkh J a1 om,sbind,sbind]
 exact⟨toD 0 0,rfl,λq d=>by cases d;have:=Xg (i:=x.A.toNat) hY j;have:=Xg (i:=x.A.toNat) E j;omega⟩;simp only[oh K];by_cases L:x.Op=4;simp only[oi L];obtain⟨a1,a2⟩:=Qu6 I L;rw[Qkh G a1 om,sbind,sbind];exact⟨toD 0 0,rfl,λq d=>by cases d;have:=Xg (i:=x.A.toNat) hP j;have:=Xg (i:=x.A.toNat) C j;omega⟩;simp only[oh L];exact⟨toD 0 0,rfl,λq d=>by cases d;omega⟩
def prunQ(a:Int)(T:Rat)(Y P:List Rat)(T':Rat)(Y' P':List Rat):List Qt->Nat->List Rat->List Rat->(Int×Int×Nat) ⊕ (List Rat×List Rat)
 | [],_,vs,ds=>.inr (vs,ds)
 | x::c,i,vs,ds=>match opQ x T Y P vs with
   | none=>.inl (3,0,i)
   | some q=>if (qz q:Int)<=a then (if (qz (slopeQ x q T' Y' P' vs ds):Int)<=a then prunQ a T Y P T' Y' P' c (i+1) (vs++[q]) (ds++[slopeQ x q T' Y' P' vs ds]) else .inl (6,1,i)) else .inl (6,0,i)
theorem Q6d{n k:Nat}{g:Qg}{t:Qk}{T T':Rat}{Y P Y' P':List Rat}(S:big<=n)(h1:129<=k)(hk:k<1048576)(ht:tapeR t)(hR:X5 n t=some true)(H:∀ c∈t.Code,Fk k c.N)
 (hT:qw T<=k) (hY:QR k Y) (hP:QR k P) (L:qw T'<=k) (M:QR k Y') (J:QR k P') (F:Y'.length=Y.length) (E:P'.length=P.length) (C:(Y.length:Int)=t.Ae) (hp:(P.length:Int)=t.Ao) (Q:g.limit<=4096) :
 ∃ s,Kz n g 0 t ⟨toD T T',toDD Y Y',toDD P P'⟩=some (match prunQ g.limit T Y P T' Y' P' t.Code 0 [] [] with | .inl e=>([],⟨e.1,0,0,(e.2.2:Int)⟩,s,e.2.1) | .inr l=>(toDD l.1 l.2,⟨0,0,0,0⟩,s,0)):=by
 unfold Kz;simp only[jn_eq,hR,sbind,ot,bifF];rw[Qjt F,Qjt E,oj C,oj hp,ot,bifF,bifF]
 have key:∀(c:List Qt) (vs ds:List Rat) (g:Qg) (K:Qg×Int×List Qs->Option (List Qs×Qc×Qg×Int)),(∀(j:Nat) x,c[j]?=some x->mayR t (vs.length+j) x)->(∀ x∈c,Fk k x.N)->QR k vs->QR k ds->ds.length=vs.length->g.limit<=4096->vs.length+c.length<=300 ->
  ∃ s,(rangeL (λ(G:Nat) (V:Qt) (a:Qg×Int×(List Qs))=>
    (J8 n a.1 a.2.1 V ⟨toD T T',toDD Y Y',toDD P P'⟩ a.2.2).bind λA=>
    bif !A.2 then (
     some (Lp.out ((([]:List Qs),(⟨(3:Int),0,0,(G:Int)⟩:Qc),a.1,a.2.1))))
    else (
     (Z1 n a.1 a.2.1 A.1).bind λr=>
     bif !r.1 then (
      some (Lp.out ((([]:List Qs),(⟨(6:Int),0,0,(G:Int)⟩:Qc),r.2.1,r.2.2))))
     else (
      (appM 112 a.2.2 ([A.1]:List Qs)).bind λW=>
      some (Lp.go (r.2.1,r.2.2,W))))) c vs.length (g,0,toDD vs ds)).bind (lpK K)=match prunQ g.limit T Y P T' Y' P' c vs.length vs ds with | .inl e=>some ([],⟨e.1,0,0,(e.2.2:Int)⟩,s,e.2.1) | .inr l=>K (s,0,toDD l.1 l.2):=by
  intro c
  induction c with
  | nil=>intro vs ds g K _ _ _ _ _ _ _;exact⟨g,rfl⟩
  | cons x c ih=>
    intro vs ds g K hm H Z X f Q R;simp only[rangeL,prunQ];obtain⟨v,e1,e2⟩:=Q4d (g:=g) (z:=0) S om hk (by have:=hm 0 x rfl;rwa [xf] at this) (H x (.head _)) hT hY hP Z L M J X f F E C hp;rw[e1,sbind];cases hq:opQ x T Y P vs with
    | none=>exact⟨g,rfl⟩
    | some q=>
      obtain⟨hqk,O⟩:=e2 q hq;simp only[ot,bifF];generalize slopeQ x q T' Y' P' vs ds=d at O |-;unfold Z1;rw[show(toD q d).V=toF q from rfl,show(toD q d).D=toF d from rfl,Qh7 S om,sbind];simp only[];by_cases I:(qz q:Int)<=g.limit;rw[oj I,oi I,ot,bifF,Qh7 S om,sbind];simp only[];by_cases w:(qz d:Int)<=g.limit;rw[oj (show(qz d:Int)<=(noteG g q).limit from w),oi w,ot,bifF,sbind];simp only[ot,bifF];rw[K0 (by rw[Qjt f];simp at R |-;omega) (by rw[Qjt f];simp at R |-;omega),sbind,sbind];simp only[];have U:qw q<=k:=by
       have:=qw_qz (q:=q) (b:=4096) om;omega
      have N:qw d<=k:=by have:=qw_qz (q:=d) (b:=4096) om;omega
      have i:(vs++[q]).length=vs.length+1:=oa
      obtain⟨s,h⟩:=ih (vs++[q]) (ds++[d]) (noteG (noteG g q) d) K (λj y C=>by
       rw[i,show vs.length+1+j=vs.length+(j+1) by omega];exact hm (j+1) y (by simpa using C)) (λy C=>H y (.tail _ C)) (λz m=>by
       rcases xw.1 m with m | m;exact Z z m;rw[xl.1 m];exact U) (λz m=>by
       rcases xw.1 m with m | m;exact X z m
       rw[xl.1 m];exact N) (by simp;exact f) Q (by rw[i];simp at R;omega)
      refine⟨s,?_⟩;rw[i] at h;rw[Qx0 f];exact h;rw[oo (show ¬(qz d:Int)<=(noteG g q).limit from w),oh w,ov,bifT];unfold Qhm;rw[sbind,sbind];exact⟨noteG (noteG g q) d,rfl⟩;rw[oo I,oh I,ov,bifT,sbind];exact⟨noteG g q,rfl⟩
 obtain⟨⟨d1,d2,d3,d4⟩,m1,m2⟩:=ht;obtain⟨s,h⟩:=key t.Code [] [] g (λB=>some (B.2.2,(⟨0,0,0,0⟩:Qc),B.1,B.2.1)) (λj x hx=>by rw[show([]:List Rat).length+j=j by simp];exact m1 j x hx) H (λ_ h=>by cases h) (λ_ h=>by cases h) rfl Q (by simpa using d4);refine⟨s,?_⟩;rw[show(([]:List Rat).length)=0 from rfl,show toDD [] []=[] from rfl] at h;rw[h];cases prunQ g.limit T Y P T' Y' P' t.Code 0 [] []<;>rfl
theorem Qx1{d:Int}:∀ {l:List Rat}{i:Nat},fitQ d l i=none->∀ q∈l,(qz q:Int)<=d
 | [],_,_,q,a=>by cases a
 | x::l,i,h,q,a=>by simp only[fitQ] at h;split at h;rename_i e;rcases xj.1 a with rfl | a;exact e;exact Qx1 h q a;cases h
theorem Qh8{a:Int}{l:List Rat}(d:a<=4096)(h:fitQ a l 0=none):QR 129 l:=λq e=>by have f:=Qx1 h q e;have i:=qw_qz (q:=q) (b:=4096) om;omega
theorem Qeq{p:Qe}{T H:Rat}{Y:List Rat}{z:MadeQ}(h:stepQ p T H Y=.inr z):prbR p/\(Y.length:Int)=p.Tape.Ae/\QR 129 z.next/\z.next.length=Y.length/\QR 129 z.err:=by
 unfold stepQ at h;by_cases d:prbR p/\(Y.length:Int)=p.Tape.Ae
 case neg=>rw[oh d] at h;cases h
 rw[oi d] at h;refine⟨d.1,d.2,?_⟩;have f:=d.1.1.1;unfold doQ at h;cases j:stagesQ p.Tape (limQ p.Ac) T H Y (rv p.P) (List.zip (p.G8.A.map rv) (rv p.G8.C)) 0 [] [] with
 | inl e=>rw[j] at h;cases h
 | inr w=>
   rw[j] at h;simp only[] at h;obtain⟨g1,q,g3,g4⟩:=Qrk (m:=Y.length) (by unfold limQ;omega) (by have:=f.2.2.1;omega) rfl (λ_ h=>by cases h) (λ_ h=>by cases h) j;unfold endQ at h;have a:limQ p.Ac<=4096:=by unfold limQ;omega
   split at h
   . cases h
   . rename_i l
     split at h
     . cases h
     . rename_i i
       cases h;exact⟨Qh8 a l,Qhz g1,Qh8 a i⟩
def noH:Qp:=⟨[],⟨⟨false,[]⟩,[]⟩,[]⟩
theorem Qof{l:List Rat}:scaleQ 1 l=l:=by
 unfold scaleQ
 conv=>rhs;rw[<-List.map_id l]
 exact wn λq _=>by show 1*q=q;grind
theorem Qx2{k:Nat}{l:List Rat}(d:1<=k)(h:QR k l):qw (normQ l)<=k:=by
 have key:∀(l:List Rat) (b:Rat),QR k l->qw b<=k->qw (l.foldl (λb x=>maxQ b (absQ x)) b)<=k:=by
  intro l
  induction l with
  | nil=>intro b _ hb;exact hb
  | cons x l f=>intro b a hb;exact f _ (λq e=>a q (.tail _ e)) (Q6a hb (by rw[Q0s];exact a x (.head _)))
 exact key l 0 h (by rw[Qaa];exact d)
theorem Ql3:qw 1=1:=by unfold qw;rw[show(1:Rat).num=1 from rfl,show(1:Rat).den=1 from rfl,show(1:Int).natAbs=1 from rfl,toL1];rfl
set_option maxRecDepth 100000
theorem Qw6{α:Type}{l:List α}{i:Nat}{x:α}(h:l[i]?=some x):l.take (i+1)=l.take i++[x]:=by rw[uo,h];rfl
theorem Qtr{e T Y P T' Y' P'}(j:e<=4096):∀ {c:List Qt}{i:Nat}{vs ds:List Rat}{l:List Rat×List Rat},QR 129 vs->QR 129 ds->ds.length=vs.length->prunQ e T Y P T' Y' P' c i vs ds=.inr l->l.1.length=vs.length+c.length/\l.2.length=l.1.length/\QR 129 l.1/\QR 129 l.2
 | [],i,vs,ds,l,r,hd,m,h=>by simp only[prunQ] at h;cases h;exact⟨rfl,m,r,hd⟩
 | x::c,i,vs,ds,l,r,hd,m,h=>by
   simp only[prunQ] at h;cases w:opQ x T Y P vs with
   | none=>rw[w] at h;cases h
   | some q=>
     rw[w] at h;simp only[] at h;generalize slopeQ x q T' Y' P' vs ds=d at h;by_cases s:(qz q:Int)<=e
     case neg=>rw[oh s] at h;cases h
     rw[oi s] at h;by_cases f:(qz d:Int)<=e
     case neg=>rw[oh f] at h;cases h
     rw[oi f] at h;have F:=qw_qz (q:=q) (b:=4096) om;have G:=qw_qz (q:=d) (b:=4096) om
     obtain⟨A,B,C,E⟩:=Qtr j (λz a=>by
      rcases xw.1 a with a | a
      . exact r z a
      . rw[xl.1 a];omega) (λz a=>by
      rcases xw.1 a with a | a
      . exact hd z a
      . rw[xl.1 a];omega) (by simp;exact m) h
     exact⟨by rw[A];simp;omega,B,C,E⟩
theorem Qpd{a T Y P T' Y' P'}:∀ {c:List Qt}{i:Nat}{vs ds:List Rat}{e},prunQ a T Y P T' Y' P' c i vs ds=.inl e->e.1=3\/e.1=6
 | [],i,vs,ds,e,h=>by simp only[prunQ] at h;cases h
 | x::c,i,vs,ds,e,h=>by
   simp only[prunQ] at h;cases d:opQ x T Y P vs with
   | none=>rw[d] at h;cases h;exact .inl rfl
   | some q=>
     rw[d] at h;simp only[] at h;split at h;split at h;exact Qpd h;cases h;exact .inr rfl;cases h;exact .inr rfl
def pfieldQ(t:Qk)(a:Int)(T:Rat)(Y P:List Rat)(T':Rat)(Y' P':List Rat):(Int×Int×Nat) ⊕ (List Rat×List Rat):=
 match prunQ a T Y P T' Y' P' t.Code 0 [] [] with
 | .inl e=>.inl e
 | .inr l=>.inr (t.Af.map λo=>l.1.getD o.toNat 0,t.Af.map λo=>l.2.getD o.toNat 0)
theorem Qog{vs ds:List Rat}(h:ds.length=vs.length)(q:vs.length<=1000000):Qe9 (toR vs) (toR ds)=some (toDD vs ds,true):=by
 unfold Qe9;rw[Q3,Q3,oj om,ot,bifF];rw[X8 (λi=>toDD (vs.take i) (ds.take i)) (toR vs)];rw[Q3,yr,<-h,yr];show some _=_;rfl;intro i x e;have hi:=Ke e;rw[Q3] at hi;have f:vs[i]?=some vs[i]:=ol hi;have j:ds[i]?=some (ds[i]' om):=ol _;generalize vs[i]=v at f;generalize ds[i]' om=d at j;have l:x=toF v:=by
  unfold toR at e;rw[xy,f] at e;exact(Option.some.inj e).symm
 have a:(ds.take i).length=(vs.take i).length:=by rw[xg,xg,h]
 have m:(vs.take i).length<=vs.length:=by rw[xg];omega
 rw[Kj (show(toR ds)[i]?=some (toF d) by unfold toR;rw[xy,j];rfl),sbind,K0 (by rw[Qjt a];simp;omega) (by rw[Qjt a];simp;omega),sbind,l,show(⟨toF v,toF d⟩:Qs)=toD v d from rfl,Qx0 a,Qw6 f,Qw6 j];rfl
theorem Qva{n k:Nat}{t:Qk}{p q:Km}{bits:Int}(a:big<=n)(E:129<=k)(hk:k<1048576)(G:Qrh n k t)(B:Fk k p.T)(C:FR k p.Y)(A:FR k p.P)(f:Fk k q.T)(j:FR k q.Y)(d:FR k q.P)(H:(p.Y.length:Int)=t.Ae)(F:(p.P.length:Int)=t.Ao)(s:q.Y.length=p.Y.length)(m:q.P.length=p.P.length):
 Qf1 n t p q bits=some (match pfieldQ t (min (max bits 0) 4096) (fv p.T) (rv p.Y) (rv p.P) (fv q.T) (rv q.Y) (rv q.P) with | .inl e=>([],[],⟨e.1,0,e.2.1,(e.2.2:Int)⟩) | .inr l=>(toR l.1,toR l.2,⟨0,0,0,0⟩)):=by
 obtain⟨r,h,w⟩:=G;have hd:=r.1;obtain⟨⟨J,K⟩,⟨L,M⟩,N,O⟩:=hd;have eT:=qw_fv B om;have eY:=QR_rv C om;have eP:=QR_rv A om;have eT':=qw_fv f om;have eY':=QR_rv j om;have eP':=QR_rv d om;unfold Qf1 Qjz Qbe Vx;simp only[jn_eq];rw[Ju a (Fk_Fw B om),sbind,Yp a om C om,sbind,Yp a om A om,sbind,sbind,Ju a (Fk_Fw f om),sbind,Yp a om j om,sbind,Yp a om d om,sbind,sbind];simp only[];rw[Qog (by rw[Q4,Q4];exact s) (by rw[Q4];omega),sbind,Qog (by rw[Q4,Q4];exact m) (by rw[Q4];omega),sbind];simp only[ot,bifF,sbind];obtain⟨P,e⟩:=Q6d (g:=⟨⟨0,0⟩,min (max bits 0) 4096⟩) a E hk r h w eT eY eP eT' eY' eP' (by rw[Q4,Q4];exact s) (by rw[Q4,Q4];exact m) (by rw[Q4];exact H) (by rw[Q4];exact F) (by simp only[];omega);rw[show(⟨toF (fv p.T),toF (fv q.T)⟩:Qs)=toD (fv p.T) (fv q.T) from rfl,e,sbind];unfold pfieldQ;simp only[];cases hr:prunQ (min (max bits 0) 4096) (fv p.T) (rv p.Y) (rv p.P) (fv q.T) (rv q.Y) (rv q.P) t.Code 0 [] [] with
 | inl q=>
   have hk:=Qpd hr;simp only[];rw[sbind];simp only[];rw[Jt om,ov,bifT]
 | inr l=>
   obtain⟨l1,I,R,S⟩:=Qtr om (λ_ h=>by cases h) (λ_ h=>by cases h) rfl hr;have Q:l.1.length=t.Code.length:=by simpa using l1
   simp only[];rw[sbind];simp only[];rw[Jv,ot,bifF];rw[X8 (λi=>(toR ((t.Af.take i).map λo=>l.1.getD o.toNat 0),toR ((t.Af.take i).map λo=>l.2.getD o.toNat 0))) t.Af];rw[yr];rfl;intro i o x;have hb:=r.2.2 o (Je x);have hi:=Ke x;rw[Qkh I hb.1 om,sbind,K0 (by simp only[Q3,xr,xg,ow,yx];omega) (by simp only[Q3,xr,xg,ow,yx];omega),sbind,sbind,K0 (by simp only[Q3,xr,xg,ow,yx];omega) (by simp only[Q3,xr,xg,ow,yx];omega),sbind,Qw6 x];simp only[xu,xp,List.map_nil];rw[<-Qtp,<-Qtp];rfl;rfl
theorem Qvb{t:Qk}{a T Y P T' Y' P' l}(d:a<=4096)(h:pfieldQ t a T Y P T' Y' P'=.inr l):l.1.length=t.Af.length/\l.2.length=t.Af.length/\QR 129 l.1/\QR 129 l.2:=by
 unfold pfieldQ at h;cases hr:prunQ a T Y P T' Y' P' t.Code 0 [] [] with
 | inl q=>rw[hr] at h;cases h
 | inr l'=>
   rw[hr] at h;cases h;obtain⟨l1,j,f,i⟩:=Qtr d (λ_ h=>by cases h) (λ_ h=>by cases h) rfl hr;refine⟨oa,oa,λq e=>?_,λq e=>?_⟩;obtain⟨o,_,rfl⟩:=xa.1 e;exact Xg f om;obtain⟨o,_,rfl⟩:=xa.1 e;exact Xg i om
theorem Qrl{t:Qk}{a T Y P T' Y' P' e}(h:pfieldQ t a T Y P T' Y' P'=.inl e):e.1=3\/e.1=6:=by
 unfold pfieldQ at h;cases hr:prunQ a T Y P T' Y' P' t.Code 0 [] [] with
 | inl q=>rw[hr] at h;cases h;exact Qpd hr
 | inr l'=>rw[hr] at h;cases h
theorem Qx3{t:Qk}{d:Int}{T H:Rat}{Y P:List Rat}(l:d<=4096):∀ {r:List (List Rat×Rat)}{i:Nat}{yss kss:List (List Rat)}{z},(∀ a∈yss,QR 129 a)->stagesQ t d T H Y P r i yss kss=.inr z->∀ a∈z.1,QR 129 a
 | [],i,yss,kss,z,s,h=>by simp only[stagesQ] at h;cases h;exact s
 | x::r,i,yss,kss,z,s,h=>by
   simp only[stagesQ] at h;cases hs:stageQ t d T H Y P x.1 x.2 i kss with
   | inl f=>rw[hs] at h;cases h
   | inr w=>
     rw[hs] at h;have B:QR 129 w.1:=by
      unfold stageQ at hs;cases A:fitQ d (fromQ H Y x.1 kss) 0 with
      | some j=>rw[A] at hs;cases hs
      | none=>
        rw[A] at hs;simp only[] at hs;cases q:fieldQ t d (T+H*x.2) (fromQ H Y x.1 kss) P with
        | inl e=>rw[q] at hs;cases hs
        | inr k=>rw[q] at hs;cases hs;exact Qh8 l A
     exact Qx3 l (λa m=>by
      rcases xw.1 m with m | m;exact s a m
      rw[xl.1 m];exact B) h
theorem Qts{p:Qe}{T H:Rat}{Y:List Rat}{z:MadeQ}(h:stepQ p T H Y=.inr z):(∀ a∈z.ys,QR 129 a/\a.length=Y.length)/\z.ys.length=p.G8.B.length:=by
 obtain⟨hr,q,_⟩:=Qeq h;have hd:=hr.1.1;unfold stepQ at h;rw[oi ⟨hr,q⟩] at h;unfold doQ at h;cases j:stagesQ p.Tape (limQ p.Ac) T H Y (rv p.P) (List.zip (p.G8.A.map rv) (rv p.G8.C)) 0 [] [] with
 | inl e=>rw[j] at h;cases h
 | inr w=>
   rw[j] at h;simp only[] at h;have d:limQ p.Ac<=4096:=by unfold limQ;omega
   have A:=Qx3 d (λ_ h=>by cases h) j;obtain⟨_,B,_,_⟩:=Qrk d (m:=Y.length) (by have:=hd.2.2.1;omega) rfl (λ_ h=>by cases h) (λ_ h=>by cases h) j;have C:∀ {r:List (List Rat×Rat)}{i:Nat}{yss kss:List (List Rat)}{z},stagesQ p.Tape (limQ p.Ac) T H Y (rv p.P) r i yss kss=.inr z->z.1.length=yss.length+r.length:=by
    intro r
    induction r with
    | nil=>intro i yss kss z h;simp only[stagesQ] at h;cases h;rfl
    | cons x r s=>
      intro i yss kss z h;simp only[stagesQ] at h;cases hs:stageQ p.Tape (limQ p.Ac) T H Y (rv p.P) x.1 x.2 i kss with
      | inl f=>rw[hs] at h;cases h
      | inr w=>rw[hs] at h;rw[s h];simp;omega
   have E:=C j;obtain⟨⟨g1,F⟩,g3,g4,G,I⟩:=hr.2.1.2.1;have e:z.ys=w.1:=by unfold endQ at h;split at h;cases h;split at h;cases h;cases h;rfl
   rw[e];refine⟨λa l=>⟨A a l,B a l⟩,?_⟩;rw[E,List.length_zip,xr,Q4];simp;omega
set_option maxRecDepth 100000
def tstageQ(t:Qk)(d:Int)(T H:Rat)(U V P:List Rat)(y a:List Rat)(c:Rat)(i:Nat)(kss:List (List Rat)):Qc ⊕ List Rat:=
 match fitQ d (fromQ H U a kss) 0 with
 | some j=>.inl ⟨6,0,(i:Int),300+(j:Int)⟩
 | none=>match pfieldQ t d (T+H*c) y P 0 (fromQ H U a kss) V with
   | .inl e=>.inl ⟨e.1,0,(i:Int),(e.2.2:Int)⟩
   | .inr k=>.inr k.2
def tstagesQ(t:Qk)(a:Int)(T H:Rat)(U V P:List Rat):List ((List Rat×Rat)×List Rat)->Nat->List (List Rat)->Qc ⊕ List (List Rat)
 | [],_,kss=>.inr kss
 | x::r,i,kss=>match tstageQ t a T H U V P x.2 x.1.1 x.1.2 i kss with
   | .inl f=>.inl f
   | .inr k=>tstagesQ t a T H U V P r (i+1) (kss++[k])
def tendQ(s:Qq)(a:Int)(H:Rat)(U:List Rat)(kss:List (List Rat)):Qc ⊕ (List Rat×List Rat):=
 match fitQ a (fromQ H U (rv s.B) kss) 0 with
 | some j=>.inl ⟨6,0,(s.B.length:Int),300+(j:Int)⟩
 | none=>match fitQ a (if gapQ s=[] then [] else towQ H U.length (gapQ s) kss) 0 with
   | some j=>.inl ⟨6,0,(s.B.length:Int)+1,300+(j:Int)⟩
   | none=>.inr (fromQ H U (rv s.B) kss,if gapQ s=[] then [] else towQ H U.length (gapQ s) kss)
def tdoQ(t:Qk)(s:Qq)(a:Int)(T H:Rat)(U V P:List Rat)(yss:List (List Rat)):Qc ⊕ (List Rat×List Rat):=
 match tstagesQ t a T H U V P (List.zip (pairQ s) yss) 0 [] with
 | .inl f=>.inl f
 | .inr kss=>tendQ s a H U kss
section
variable {n k:Nat}{p:Qe}{t h:Qa}{y u v:List Qa}{g:Qg}{md:Qy}{ks:List (List Qa)}
theorem Qx4{c:List Qa}{kss:List (List Rat)}(q:big<=n)(h0:129<=k)(hk:k<16384)(r:Fk k h)(m:FR k c)(e:∀ a∈kss,QR 129 a)(s:kss.length<=8)(i:c.length=kss.length)(d:∀ a∈kss,a.length=u.length)(A:u.length<=6):
 Vm n p t h u v md (toRR kss) g c=some (toR (towQ (fv h) u.length (rv c) kss)):=by
 unfold Vm;rw[Ql1,Qrf (j:=k) (k:=129) q om om om om m (Qpb λa f=>Kx (e a f)) om (by rw[Vi];omega),sbind,oi ⟨by rw[Vi,i],Qpb λa f=>by rw[Q3];exact d a f⟩];rw[Q2v];have w:=Qoa (z:=List.replicate u.length 0) (QR_rv m om) e (Qri u.length);have x:kss.length*(k+129+1)<=8*(k+129+1):=xq _ s;have l:=Qep (cs:=rv c) d (show(List.replicate u.length (0:Rat)).length=u.length by simp);rw[Xf (k:=20*k) q om om (Kq r om) (Kx (Ja w om)) (by rw[Q3,l];omega),sbind,Vf];rfl
theorem Qvc{c:List Qa}{kss:List (List Rat)}(s:big<=n)(h0:129<=k)(hk:k<16384)(q:Fk k h)(j:FR k u)(l:FR k c)(e:∀ a∈kss,QR 129 a)(r:kss.length<=8)(f:c.length=kss.length)(d:∀ a∈kss,a.length=u.length)(w:u.length<=6):
 Xr n p t h u v md (toRR kss) g c=some (toR (fromQ (fv h) (rv u) (rv c) kss)):=by
 unfold Xr;have hb:=Qod (m:=u.length) (qw_fv q om) (QR_rv l om) e r h0;have i:=Qoe (H:=fv h) (c:=rv c) d;rw[Qx4 s h0 hk q l e r f d w,sbind,Qbx (k:=20*k) s om om (K9 j om) (Kx hb) om,sbind,Q3,i,oi rfl,Vf];unfold fromQ;rw[Q4]
theorem Qpe{l:List Rat}{x2:Int}(q:big<=n)(i:QR 1099511627775 l)(m:l.length<=1000):
 ∃ a,a.limit=g.limit/\V4 n p t h u v md ks g (toR l) x2=some (match fitQ g.limit l 0 with | none=>(⟨0,0,0,0⟩,a) | some j=>(⟨6,0,x2,300+(j:Int)⟩,a)):=by
 obtain⟨a,d,e⟩:=Ql2 (g:=g) q i;refine⟨a,d,?_⟩;unfold V4;rw[e,sbind];cases f:fitQ g.limit l 0 with
 | none=>rfl
 | some j=>
   have:=Qr5 f;simp only[ov,bifT];rw[w64 om om]
theorem Jby{k:Nat}:Fk k ⟨⟨false,[]⟩,[]⟩:=⟨(λ_ h=>by cases h),xo _,(λ_ h=>by cases h),xo _⟩
theorem Jbz:fv ⟨⟨false,[]⟩,[]⟩=0:=by decide +kernel
theorem Q17{i:Nat}{a:List Qa}{c:Qa}{m:List Rat}{kss yss:List (List Rat)}{ks0:List (List Qa)}{nx er:List Qa}(G:big<=n)(h0:129<=k)(hk:k<16384)(ok:PrbOK n k p t h y)(R:FR k u)(K:u.length=y.length)(hv:FR k v)(L:v.length=p.P.length)(Z:g.limit=limQ p.Ac)
 (s:p.G8.A[i]?=some a) (P:p.G8.C[i]?=some c) (M:yss[i]?=some m) (N:QR 129 m) (S:m.length=y.length) (B:∀ a∈kss,QR 129 a) (hki:kss.length=i) (J:∀ a∈kss,a.length=y.length) :
 ∃ F,F.limit=g.limit/\∃ r,X2 n p t h u v ⟨toRR yss,ks0,nx,er⟩ (toRR kss) g (i:Int)=some r /\
   match tstageQ p.Tape (limQ p.Ac) (fv t) (fv h) (rv u) (rv v) (rv p.P) m (rv a) (fv c) i kss with
   | .inl f=>r.1=f/\f.Ad≠0
   | .inr z=>r=(⟨0,0,0,0⟩,p,t,h,u,v,⟨toRR yss,ks0,nx,er⟩,toRR (kss++[z]),F)/\QR 129 z/\z.length=y.length:=by
 obtain⟨⟨d1,d2⟩,⟨d3,d4⟩,d5,d6⟩:=ok.tp.r.1;obtain⟨⟨g1,g2⟩,g3,g4,g5,V⟩:=ok.sr.2.1;have hi:=Ke s;have hyl:=ok.yl;have hpl:=ok.pl;have w:=ok.sw.a a (Je s);have A:=ok.sw.c c (Je P);have X:=V i a s;have d:∀ a∈kss,a.length=u.length:=λa s=>by rw[K];exact J a s
 have hb:=Qpc (QR_rv R om) (qw_fv ok.hk om) (QR_rv w om) B om h0;have I:=Qhz (H:=fv h) (Y:=rv u) (c:=rv a) (kss:=kss) (by rw[Q4];exact d);rw[Q4] at I;unfold X2;rw[Kj s,sbind,Qvc G h0 hk ok.hk R w B om om d om,sbind];obtain⟨F,T,U⟩:=Qpe (p:=p) (t:=t) (h:=h) (u:=u) (v:=v) (g:=g) (md:=⟨toRR yss,ks0,nx,er⟩) (ks:=toRR kss) (x2:=(i:Int)) G (Ja hb (show 22*k<=1099511627775 by omega)) om;refine⟨F,T,?_⟩;rw[U,sbind,Z];unfold tstageQ;cases hf:fitQ (limQ p.Ac) (fromQ (fv h) (rv u) (rv a) kss) 0 with
 | some j=>
   simp only[];rw[Jt oy,ov,bifT];exact⟨_,rfl,rfl,oy⟩
 | none=>
   simp only[];rw[Jv,ot,bifF];have E:=Xi (qw_fv ok.hk om) (qw_fv A om);have O:=Zt (qw_fv ok.tk om) E;rw[Qnl G h0 hk ok.tk ok.hk A P,sbind,Kj (show(toRR yss)[i]?=some (toR m) by unfold toRR;rw[xy,M];rfl),sbind];have W:=Qva (k:=22*k) (t:=p.Tape) (p:=⟨toF (fv t+fv h*fv c),toR m,p.P⟩) (q:=⟨⟨⟨false,[]⟩,[]⟩,toR (fromQ (fv h) (rv u) (rv a) kss),v⟩) (bits:=p.Ac) G om om ⟨ok.tp.r,ok.tp.h,λx hx=>Kq (ok.tp.w x hx) om⟩ (Qz om) (Kx (Ja N om)) (K9 ok.pk om) Jby (Kx hb) (K9 hv om) (by simp only[Q3];omega) ok.pl (by simp only[Q3];omega) L;rw[W,sbind];simp only[];rw[Qu,Vf,Vf,Jbz];have C:limQ p.Ac=min (max p.Ac 0) 4096:=rfl;rw[C];cases Q:pfieldQ p.Tape (min (max p.Ac 0) 4096) (fv t+fv h*fv c) m (rv p.P) 0 (fromQ (fv h) (rv u) (rv a) kss) (rv v) with
   | inl e=>
     have hkd:=Qrl Q;simp only[];rw[Jt om,ov,bifT];exact⟨_,rfl,rfl,by show e.1≠0;omega⟩
   | inr l=>
     obtain⟨q1,q2,q3,q4⟩:=Qvb om Q;simp only[];rw[Jv,ot,bifF,K0 (by rw[Vi];simp;omega) (by rw[Vi];simp;omega),sbind];refine⟨_,rfl,?_,q4,om⟩;unfold toRR;rw[xu];rfl
theorem Q6e{s:Qq}{yss:List (List Rat)}{i:Nat}{a:List Qa}{c:Qa}{e:List Rat}(f:s.A[i]?=some a)(j:s.C[i]?=some c)(l:yss[i]?=some e):(List.zip (pairQ s) yss).drop i=((rv a,fv c),e)::(List.zip (pairQ s) yss).drop (i+1):=by
 have d:(List.zip (pairQ s) yss)[i]?=some ((rv a,fv c),e):=by rw[we];refine⟨?_,l⟩;unfold pairQ rv;rw[we];simp only[xy];exact⟨by rw[f];rfl,by rw[j];rfl⟩
 have hi:=Ke d;rw[xh hi];congr 1;rw[ol hi] at d;exact Option.some.inj d
abbrev TiS:=Qe×Qa×Qa×(List Qa)×(List Qa)×Qy×(List (List Qa))×Qg
abbrev TiR:=Jf×Qc×Qe×Qa×Qa×(List Qa)×(List Qa)×Qy×(List (List Qa))×Qg
def noMv:Jf:=⟨[],[],⟨[],[],[],[]⟩⟩
def tiBody(n:Nat)(e:Nat)(_:Qa)(d:TiS):Option (Lp TiS TiR):=
    (X2 n d.1 d.2.1 d.2.2.1 d.2.2.2.1 d.2.2.2.2.1 d.2.2.2.2.2.1 d.2.2.2.2.2.2.1 d.2.2.2.2.2.2.2 (e:Int)).bind λa=>
    bif !(Qo a.1 (⟨0,0,0,0⟩:Qc)) then (
     some (Lp.out (((⟨[],[],(⟨[],[],[],[]⟩:Qy)⟩:Jf),a.1,a.2.1,a.2.2.1,a.2.2.2.1,a.2.2.2.2.1,a.2.2.2.2.2.1,a.2.2.2.2.2.2.1,a.2.2.2.2.2.2.2.1,a.2.2.2.2.2.2.2.2))))
    else (
     some (Lp.go (a.2.1,a.2.2.1,a.2.2.2.1,a.2.2.2.2.1,a.2.2.2.2.2.1,a.2.2.2.2.2.2.1,a.2.2.2.2.2.2.2.1,a.2.2.2.2.2.2.2.2)))
def tiFin(n:Nat)(x0_p:Qe)(a:TiS)(g:Qg)(e:Jf):Option TiR:=
 (V4 n a.1 a.2.1 a.2.2.1 a.2.2.2.1 a.2.2.2.2.1 a.2.2.2.2.2.1 a.2.2.2.2.2.2.1 g e.Err (wrap64 ((x0_p.G8.B.length:Int)+(1:Int)))).bind λd=>
 bif !(Qo d.1 (⟨0,0,0,0⟩:Qc)) then (
  some ((⟨[],[],(⟨[],[],[],[]⟩:Qy)⟩:Jf),d.1,a.1,a.2.1,a.2.2.1,a.2.2.2.1,a.2.2.2.2.1,a.2.2.2.2.2.1,a.2.2.2.2.2.2.1,d.2))
 else (
  some (e,(⟨0,0,0,0⟩:Qc),a.1,a.2.1,a.2.2.1,a.2.2.2.1,a.2.2.2.2.1,a.2.2.2.2.2.1,a.2.2.2.2.2.2.1,d.2))
def tiEnd(n:Nat)(x0_p:Qe)(x0_made:Qy)(a:TiS):Option TiR:=
 (Xr n a.1 a.2.1 a.2.2.1 a.2.2.2.1 a.2.2.2.2.1 a.2.2.2.2.2.1 a.2.2.2.2.2.2.1 a.2.2.2.2.2.2.2 x0_p.G8.B).bind λe=>
 (V4 n a.1 a.2.1 a.2.2.1 a.2.2.2.1 a.2.2.2.2.1 a.2.2.2.2.2.1 a.2.2.2.2.2.2.1 a.2.2.2.2.2.2.2 e (x0_p.G8.B.length:Int)).bind λd=>
 bif !(Qo d.1 (⟨0,0,0,0⟩:Qc)) then (
  some ((⟨[],[],(⟨[],[],[],[]⟩:Qy)⟩:Jf),d.1,a.1,a.2.1,a.2.2.1,a.2.2.2.1,a.2.2.2.2.1,a.2.2.2.2.2.1,a.2.2.2.2.2.2.1,d.2))
 else (
  jn (λ(f:(Jf)->Option _)=>
   (Qah n x0_p.G8).bind λi=>
   bif decide ((0:Int)<(i.length:Int)) then (
    (Vm n a.1 a.2.1 a.2.2.1 a.2.2.2.1 a.2.2.2.2.1 a.2.2.2.2.2.1 a.2.2.2.2.2.2.1 d.2 i).bind λj=>
    f ⟨e,j,x0_made⟩)
   else (
    f ⟨e,[],x0_made⟩)) (tiFin n x0_p a d.2))
theorem Q6f(ks):Z2 n p t h u v md ks g=(rangeL (tiBody n) p.G8.B 0 (p,t,h,u,v,md,ks,g)).bind (lpK (tiEnd n p md)):=vj (vj rfl)
theorem Q6g{yss:List (List Rat)}{ks0:List (List Qa)}{nx er:List Qa}(C:big<=n)(h0:129<=k)(hk:k<8000)(ok:PrbOK n k p t h y)(hu:FR k u)(Q:u.length=y.length)(hv:FR k v)(hvl:v.length=p.P.length)(M:g.limit=limQ p.Ac)
 (hys:∀ a∈yss,QR 129 a/\a.length=y.length) (hysl:yss.length=p.G8.B.length) :
 ∃ r,Z2 n p t h u v ⟨toRR yss,ks0,nx,er⟩ [] g=some r /\
   match tdoQ p.Tape p.G8 (limQ p.Ac) (fv t) (fv h) (rv u) (rv v) (rv p.P) yss with
   | .inl f=>r.1=noMv/\r.2.1=f/\f.Ad≠0
   | .inr z=>r.1=⟨toR z.1,toR z.2,⟨toRR yss,ks0,nx,er⟩⟩/\r.2.1=⟨0,0,0,0⟩/\QR 129 z.1/\z.1.length=u.length:=by
 obtain⟨⟨d1,d2⟩,⟨d3,d4⟩,d5,d6⟩:=ok.tp.r.1;obtain⟨⟨g1,g2⟩,g3,g4,F,g6⟩:=ok.sr.2.1;have hyl:=ok.yl;rw[Q6f]
 have key:∀(A:List Qa) (i:Nat) (g:Qg) (kss:List (List Rat)) (K:TiS->Option TiR),
  i+A.length=p.G8.B.length->kss.length=i->(∀ a∈kss,QR 129 a)->(∀ a∈kss,a.length=y.length)->g.limit=limQ p.Ac ->
  match tstagesQ p.Tape (limQ p.Ac) (fv t) (fv h) (rv u) (rv v) (rv p.P) ((List.zip (pairQ p.G8) yss).drop i) i kss with
  | .inl f=>∃ r,(rangeL (tiBody n) A i (p,t,h,u,v,⟨toRR yss,ks0,nx,er⟩,toRR kss,g)).bind (lpK K)=some r/\r.1=noMv/\r.2.1=f/\f.Ad≠0
  | .inr z=>∃ q,q.limit=limQ p.Ac/\(rangeL (tiBody n) A i (p,t,h,u,v,⟨toRR yss,ks0,nx,er⟩,toRR kss,g)).bind (lpK K)=K (p,t,h,u,v,⟨toRR yss,ks0,nx,er⟩,toRR z,q)/\z.length=p.G8.B.length/\(∀ a∈z,QR 129 a)/\∀ a∈z,a.length=y.length:=by
  intro A
  induction A with
  | nil=>
    intro i g kss K hi O T S M;simp only[yx,xf] at hi;have l:(List.zip (pairQ p.G8) yss).drop i=[]:=by apply List.drop_eq_nil_of_le;rw[List.length_zip];omega
    rw[l];simp only[tstagesQ];exact⟨g,M,rfl,om,T,S⟩
  | cons b A ih=>
    intro i g kss K hi O T S M;rw[ow] at hi;have d:p.G8.A[i]?=some (p.G8.A[i]' om):=ol om;have Z:p.G8.C[i]?=some (p.G8.C[i]' om):=ol om;have w:yss[i]?=some (yss[i]' om):=ol om;have x:=hys (yss[i]' om) (wb _);generalize p.G8.A[i]' om=a at d;generalize p.G8.C[i]' om=c at Z;generalize yss[i]' om=yi at w x;rw[Q6e d Z w];simp only[tstagesQ,rangeL];obtain⟨q,e1,r,V,E⟩:=Q17 (g:=g) (ks0:=ks0) (nx:=nx) (er:=er) C h0 om ok hu Q hv hvl M d Z w x.1 x.2 T O S
    have eb:tiBody n i b (p,t,h,u,v,⟨toRR yss,ks0,nx,er⟩,toRR kss,g)=(bif !(Qo r.1 (⟨0,0,0,0⟩:Qc)) then (
     some (Lp.out ((noMv,r.1,r.2.1,r.2.2.1,r.2.2.2.1,r.2.2.2.2.1,r.2.2.2.2.2.1,r.2.2.2.2.2.2.1,r.2.2.2.2.2.2.2.1,r.2.2.2.2.2.2.2.2))))
     else (
      some (Lp.go (r.2.1,r.2.2.1,r.2.2.2.1,r.2.2.2.2.1,r.2.2.2.2.2.1,r.2.2.2.2.2.2.1,r.2.2.2.2.2.2.2.1,r.2.2.2.2.2.2.2.2)))):=by
     unfold tiBody;rw[V,sbind];rfl
    rw[eb];cases hs:tstageQ p.Tape (limQ p.Ac) (fv t) (fv h) (rv u) (rv v) (rv p.P) yi (rv a) (fv c) i kss with
    | inl f=>
      rw[hs] at E;obtain⟨B,R⟩:=E;obtain⟨⟨f1,f2,f3,f4⟩,r⟩:=r;simp only[] at B;subst B;simp only[];rw[Jt R,ov,bifT,sbind];exact⟨_,rfl,rfl,rfl,R⟩
    | inr z=>
      rw[hs] at E;obtain⟨B,R,e6⟩:=E;subst B;simp only[];rw[Jv,ot,bifF,sbind]
      exact ih (i+1) q (kss++[z]) K om oe (λa d=>by
       rcases xw.1 d with d | d;exact T a d;rw[xl.1 d];exact R) (λa d=>by
       rcases xw.1 d with d | d;exact S a d
       rw[xl.1 d];exact e6) om
 have G:=key p.G8.B 0 g [] (tiEnd n p ⟨toRR yss,ks0,nx,er⟩) om rfl (λ_ h=>by cases h) (λ_ h=>by cases h) M;unfold tdoQ;rw[List.drop_zero] at G;cases hs:tstagesQ p.Tape (limQ p.Ac) (fv t) (fv h) (rv u) (rv v) (rv p.P) (List.zip (pairQ p.G8) yss) 0 [] with
 | inl f=>
   rw[hs] at G;exact G
 | inr kss=>
   rw[hs] at G;obtain⟨q,q1,q2,q4,U,q6⟩:=G;simp only[];rw[show([]:List (List Qa))=toRR [] from rfl,q2];unfold tiEnd;simp only[];have m:∀ a∈kss,a.length=u.length:=λa d=>by rw[Q];exact q6 a d
   have X:=Qpc (QR_rv hu om) (qw_fv ok.hk om) (QR_rv ok.sw.b om) U om h0;have P:=Qhz (H:=fv h) (Y:=rv u) (c:=rv p.G8.B) (kss:=kss) (by rw[Q4];exact m);rw[Q4] at P;have N:=Q6b (k:=k) (s:=p.G8) om ok.sw;rw[Qvc C h0 om ok.hk hu ok.sw.b U om om m om,sbind];obtain⟨e,e1,V⟩:=Qpe (p:=p) (t:=t) (h:=h) (u:=u) (v:=v) (g:=q) (md:=⟨toRR yss,ks0,nx,er⟩) (ks:=toRR kss) (x2:=(p.G8.B.length:Int)) C (Ja X (show 22*k<=1099511627775 by omega)) om;rw[V,sbind,q1];unfold tendQ;cases hf:fitQ (limQ p.Ac) (fromQ (fv h) (rv u) (rv p.G8.B) kss) 0 with
   | some j=>
     simp only[];rw[Jt oy,ov,bifT];exact⟨_,rfl,rfl,rfl,oy⟩
   | none=>
     simp only[];rw[Jv,ot,bifF,jn_eq,Qmt C om om ok.sw ok.sr,sbind,Q3];have hE:((Vm n p t h u v ⟨toRR yss,ks0,nx,er⟩ (toRR kss) e (toR (gapQ p.G8)))=some (toR (towQ (fv h) u.length (gapQ p.G8) kss))\/gapQ p.G8=[])/\QR (41*k+1000) (if gapQ p.G8=[] then [] else towQ (fv h) u.length (gapQ p.G8) kss)/\(if gapQ p.G8=[] then [] else towQ (fv h) u.length (gapQ p.G8) kss).length<=1000:=by
      by_cases l:gapQ p.G8=[]
      rw[oi l];exact⟨.inr l,λ_ h=>(by cases h),oa⟩;have L:p.G8.E.length=p.G8.B.length:=by rcases F with F | F;exact F;exact absurd (by unfold gapQ;rw[oi (xm F)]) l
      have hgl:(gapQ p.G8).length=p.G8.B.length:=by unfold gapQ;rw[oh (λh=>by rw[h] at L;simp at L;omega),Qdc,Yf,Q4,Q4];omega
      rw[oh l];have ht:=Qx4 (k:=2*k+2) (p:=p) (t:=t) (h:=h) (u:=u) (v:=v) (g:=e) (md:=⟨toRR yss,ks0,nx,er⟩) (c:=toR (gapQ p.G8)) (kss:=kss) C om om (Kq ok.hk om) (Kx N) U om (by rw[Q3];omega) m om;rw[Vf] at ht;refine⟨.inl ht,Ja (Qod (k:=2*k+2) (xx (qw_fv ok.hk om) om) N U om om) om,?_⟩;rw[Qoe m];omega
     obtain⟨W,I,J⟩:=hE;have hj:∀ {β:Type}(f:Jf->Option β),(bif decide ((0:Int)<((gapQ p.G8).length:Int)) then (Vm n p t h u v ⟨toRR yss,ks0,nx,er⟩ (toRR kss) e (toR (gapQ p.G8))).bind λr34=>f ⟨toR (fromQ (fv h) (rv u) (rv p.G8.B) kss),r34,⟨toRR yss,ks0,nx,er⟩⟩ else f ⟨toR (fromQ (fv h) (rv u) (rv p.G8.B) kss),[],⟨toRR yss,ks0,nx,er⟩⟩)=f ⟨toR (fromQ (fv h) (rv u) (rv p.G8.B) kss),toR (if gapQ p.G8=[] then [] else towQ (fv h) u.length (gapQ p.G8) kss),⟨toRR yss,ks0,nx,er⟩⟩:=by
      intro β f;by_cases l:gapQ p.G8=[]
      rw[oi l,l];rfl;have:(gapQ p.G8).length≠0:=λh=>l (xm h);rw[oh l,oj om,bifT,W.resolve_right l,sbind]
     rw[hj (tiFin n p (p,t,h,u,v,⟨toRR yss,ks0,nx,er⟩,toRR kss,q) e)];unfold tiFin;rw[w1 om,Q4];generalize (if gapQ p.G8=[] then [] else towQ (fv h) u.length (gapQ p.G8) kss)=er' at I J |-;simp only[];obtain⟨g3',E,B⟩:=Qpe (p:=p) (t:=t) (h:=h) (u:=u) (v:=v) (g:=e) (md:=⟨toRR yss,ks0,nx,er⟩) (ks:=toRR kss) (x2:=((p.G8.B.length+1:Nat):Int)) C (Ja I (show 41*k+1000<=1099511627775 by omega)) J;rw[B,sbind,show e.limit=limQ p.Ac by omega];cases hf2:fitQ (limQ p.Ac) er' 0 with
     | some j=>
       simp only[];rw[Jt oy,ov,bifT];exact⟨_,rfl,rfl,rfl,by show(6:Int)≠0;decide⟩
     | none=>
       simp only[];rw[Jv,ot,bifF];exact⟨_,rfl,rfl,rfl,Qh8 (by unfold limQ;omega) hf,P⟩
end
noncomputable def tiltQ(p:Qe)(T H:Rat)(Y U V:List Rat):Qc ⊕ (MadeQ×List Rat×List Rat):=
 match stepQ p T H Y with
 | .inl f=>if f.Ad=2\/U.length≠Y.length\/V.length≠p.P.length then .inl ⟨2,0,0,0⟩ else .inl f
 | .inr z=>if U.length≠Y.length\/V.length≠p.P.length then .inl ⟨2,0,0,0⟩ else match tdoQ p.Tape p.G8 (limQ p.Ac) T H U V (rv p.P) z.ys with
   | .inl f=>.inl f
   | .inr w=>.inr (z,w.1,w.2)
theorem Qsj{n k:Nat}{p:Qe}{t h:Qa}{y u v:List Qa}(q:big<=n)(h0:129<=k)(hk:k<8000)(B:PrbW k p)(A:Fk k t)(x:Fk k h)(C:FR k y)(L:FR k u)(M:FR k v):
 Qbi n p t h y u v=some (match tiltQ p (fv t) (fv h) (rv y) (rv u) (rv v) with | .inl f=>(noMv,f) | .inr z=>(⟨toR z.2.1,toR z.2.2,toM z.1⟩,⟨0,0,0,0⟩))/\(∀ f,tiltQ p (fv t) (fv h) (rv y) (rv u) (rv v)=.inl f->f.Ad≠0)/\∀ z,tiltQ p (fv t) (fv h) (rv y) (rv u) (rv v)=.inr z->stepQ p (fv t) (fv h) (rv y)=.inr z.1/\QR 129 z.2.1/\z.2.1.length=y.length/\u.length=y.length/\v.length=p.P.length:=by
 obtain⟨F,G⟩:=Qi9 q h0 hk B A x C;unfold Qbi tiltQ;simp only[jn_eq];rw[F,sbind];cases hs:stepQ p (fv t) (fv h) (rv y) with
 | inl f=>
   have s:=G f hs;obtain⟨J,Q,f3,R⟩:=f;simp only[];rw[Q4,Q4,Q4,bifd];by_cases c1:J=2
   . rw[oi c1,oi (Or.inl c1)]
     exact⟨rfl,(λf h=>by cases h;show(2:Int)≠0;decide),λz h=>by cases h⟩
   rw[oh c1];by_cases d:u.length=y.length
   case neg=>
    rw[oo (show ¬(u.length:Int)=(y.length:Int) by omega),oi (.inr (.inl d))];exact⟨rfl,(λf h=>by cases h;show(2:Int)≠0;decide),λz h=>by cases h⟩
   rw[oj (show(u.length:Int)=(y.length:Int) by omega),ot,bifF];by_cases e:v.length=p.P.length
   case neg=>
    rw[oo (show ¬(v.length:Int)=(p.P.length:Int) by omega),oi (.inr (.inr e))];exact⟨rfl,(λf h=>by cases h;show(2:Int)≠0;decide),λz h=>by cases h⟩
   rw[oj (show(v.length:Int)=(p.P.length:Int) by omega),ot,bifF,Jt s,ov,bifT,oh (by rintro(g | g | g)<;>contradiction)];exact⟨rfl,(λf h=>by cases h;exact s),λz h=>by cases h⟩
 | inr z=>
   obtain⟨N,E,S,T,U⟩:=Qeq hs;obtain⟨O,P⟩:=Qts hs;rw[Q4] at E;simp only[];rw[Q4,Q4,Q4,show decide ((0:Int)=2)=false from rfl,bifF];by_cases d:u.length=y.length
   case neg=>
    rw[oo (show ¬(u.length:Int)=(y.length:Int) by omega),oi (.inl d)];exact⟨rfl,(λf h=>by cases h;show(2:Int)≠0;decide),λz h=>by cases h⟩
   rw[oj (show(u.length:Int)=(y.length:Int) by omega),ot,bifF];by_cases e:v.length=p.P.length
   case neg=>
    rw[oo (show ¬(v.length:Int)=(p.P.length:Int) by omega),oi (.inr e)];exact⟨rfl,(λf h=>by cases h;show(2:Int)≠0;decide),λz h=>by cases h⟩
   rw[oj (show(v.length:Int)=(p.P.length:Int) by omega),ot,bifF,Jv,ot,bifF,oh (by rintro(g | g)<;>contradiction)];unfold Vx;rw[sbind];have ok:=B.ok q hk N A x C E;obtain⟨r,H,i⟩:=Q6g (g:=⟨⟨0,0⟩,min (max p.Ac 0) 4096⟩) (yss:=z.ys) (ks0:=toRR z.ks) (nx:=toR z.next) (er:=toR z.err) q h0 hk ok L d M e rfl (λa K=>by have:=O a K;rwa [Q4] at this) P;rw[show toM z=⟨toRR z.ys,toRR z.ks,toR z.next,toR z.err⟩ from rfl,H,sbind];cases hd:tdoQ p.Tape p.G8 (limQ p.Ac) (fv t) (fv h) (rv u) (rv v) (rv p.P) z.ys with
   | inl f=>
     rw[hd] at i;obtain⟨j,l,m⟩:=i;refine⟨by simp only[];rw[j,l],(λf h=>by cases h;exact m),λz h=>by cases h⟩
   | inr w=>
     rw[hd] at i;obtain⟨j,l,m,I⟩:=i;refine⟨by simp only[];rw[j,l];rfl,(λf h=>by cases h),λz h=>by cases h;exact⟨rfl,m,I.trans d,d,e⟩⟩
def rF(q:Rat):Ql:=⟨decide (q.num<0),toL q.num.natAbs,toL q.den⟩
def rR(l:List Rat):List Ql:=l.map rF
theorem Qrm{α:Type}{l:List α}{i:Nat}{x:α}(h:l[i]?=some x):l.take (i+1)=l.take i++[x]:=by rw[uo,h];rfl
def fresh(out:List Qm0)(i:Nat)(s:List UInt8):Prop:=∀ w,out.getLast?=some w->w.At+w.Text.length<=i/\∀ c r,s=c::r->w.At+w.Text.length=(i:Int)->goC w.Ad c.toNat=false
def FKs(k:Nat)(l:List Ql):Prop:=∀ f∈l,Fk k (tF f)
structure SchWr(k:Nat)(s:Ku):Prop where
 a:∀ r∈s.A,FKs k r
 al:∀ r∈s.A,r.length<=1000000
 b:FKs k s.B
 bl:s.B.length<=1000000
 c:FKs k s.C
 cl:s.C.length<=1000000
 e:FKs k s.E
 el:s.E.length<=1000000
 nl:s.Name.length<=1000000
structure PrbWr(k:Nat)(p:Jr):Prop where
 t:∀ x∈p.Tape.Code,Fk k (tF x.N)
 o:p.Tape.Af.length<=1000000
 s:SchWr k p.G8
 pk:FKs k p.P
 pl:p.P.length<=1000000
theorem Q0v{α:Type}{l:List α}{i:Nat}{x:α}(h:l[i]?=some x):l.drop i=x::l.drop (i+1):=by have hi:=Ke h;rw[xh hi];congr 1;rw[ol hi] at h;exact Option.some.inj h
set_option maxRecDepth 100000
theorem Fk_tF{k:Nat}{x:Ql}(a:Kg x)(h:x.N.length<=k/\x.D.length<=k):Fk k (tF x):=⟨a.2.1.2,h.1,a.2.2.1.2,h.2⟩
theorem FR_tF{many k:Nat}{l:List Ql}(d:Vp l)(h:FL many k l):FR k (l.map tF):=λx e=>by obtain⟨y,a,rfl⟩:=xa.1 e;exact Fk_tF (d.2 y a) (h.2 y a)
theorem Q9u{a b k:Nat}{p:Jr}{bits:Int}(i:Qa1 p)(hk:k<=129)
 (h:(p.Tape.Code.length<=a/\p.Tape.Af.length<=a/\∀ c∈p.Tape.Code,c.N.N.length<=k/\c.N.D.length<=k)/\(p.G8.Name.length<=50/\p.G8.A.length<=b/\FL b 4 p.G8.B/\FL b 4 p.G8.C/\FL b 4 p.G8.E/\∀ r∈p.G8.A,FL b 4 r)/\FL 6 k p.P) :
 PrbW 129 ⟨tT p.Tape,tS p.G8,p.P.map tF,bits⟩:=by
 obtain⟨f,e,bp,_⟩:=i;obtain⟨⟨A,B,t3⟩,⟨s1,x,m,q,s,w⟩,l⟩:=h;refine⟨λc j=>?_,f.2.2.1,⟨λr hr=>?_,K9 (FR_tF e.2.2.2.1 m) om,K9 (FR_tF e.2.1 q) om,K9 (FR_tF e.2.2.2.2.1 s) om,by show p.G8.Name.length<=_;omega⟩,K9 (FR_tF bp l) hk⟩;obtain⟨d,hd,rfl⟩:=xa.1 j;exact Kq (Fk_tF (f.1.2 d hd).2.2.2.1 (t3 d hd)) hk;obtain⟨d,hd,rfl⟩:=xa.1 hr;exact K9 (FR_tF (e.2.2.1.2 d hd) (w d hd)) om
theorem PrbW.mono{j k:Nat}{p:Qe}(h:PrbW j p)(hk:j<=k):PrbW k p:=
 ⟨λc a=>Kq (h.t c a) hk,h.d,⟨λr hr=>K9 (h.s.a r hr) hk,K9 h.s.b hk,K9 h.s.c hk,K9 h.s.e hk,h.s.n⟩,K9 h.p hk⟩
set_option maxRecDepth 100000
theorem Q4e{t:Qk}{d:Int}{T H:Rat}{Y P a:List Rat}{c:Rat}{i:Nat}{kss:List (List Rat)}{f}(h:stageQ t d T H Y P a c i kss=.inl f):f.Ad≠0:=by
 unfold stageQ at h;split at h;cases h;show(6:Int)≠0;decide;cases j:fieldQ t d (T+H*c) (fromQ H Y a kss) P with
 | inl e=>rw[j] at h;cases h;have:=Qsz j;show e.1≠0;omega
 | inr k=>rw[j] at h;cases h
theorem Qs1{t:Qk}{a:Int}{T H:Rat}{Y P:List Rat}:∀ {r:List (List Rat×Rat)}{i:Nat}{yss kss:List (List Rat)}{f},stagesQ t a T H Y P r i yss kss=.inl f->f.Ad≠0
 | [],i,yss,kss,f,h=>by simp only[stagesQ] at h;cases h
 | x::r,i,yss,kss,f,h=>by
   simp only[stagesQ] at h;cases hs:stageQ t a T H Y P x.1 x.2 i kss with
   | inl g=>rw[hs] at h;cases h;exact Q4e hs
   | inr w=>rw[hs] at h;exact Qs1 h
theorem Q70{t:Qk}{s:Qq}{d:Int}{T H:Rat}{Y P:List Rat}{f}(h:doQ t s d T H Y P=.inl f):f.Ad≠0:=by
 unfold doQ at h;cases a:stagesQ t d T H Y P (List.zip (s.A.map rv) (rv s.C)) 0 [] [] with
 | inl g=>rw[a] at h;cases h;exact Qs1 a
 | inr z=>
   rw[a] at h;simp only[] at h;unfold endQ at h;split at h;cases h;show(6:Int)≠0;decide;split at h;cases h;show(6:Int)≠0;decide;cases h
theorem PrbWr.mono{j k:Nat}{p:Jr}(h:PrbWr j p)(hk:j<=k):PrbWr k p:=
 ⟨λx d=>Kq (h.t x d) hk,h.o,⟨λr hr f a=>Kq (h.s.a r hr f a) hk,h.s.al,λf a=>Kq (h.s.b f a) hk,h.s.bl,λf a=>Kq (h.s.c f a) hk,h.s.cl,λf a=>Kq (h.s.e f a) hk,h.s.el,h.s.nl⟩,λf a=>Kq (h.pk f a) hk,h.pl⟩
set_option maxRecDepth 100000
def linQ(c:Rat)(a b:List Rat):List Rat:=List.zipWith (λx y=>c*x+y) a b
theorem Qr6{c:Rat}{a b:List Rat}(h:b.length=a.length):(linQ c a b).length=a.length:=by unfold linQ;rw[List.length_zipWith,h,Nat.min_self]
theorem Qju{c:Rat}{a b:List Rat}{i:Nat}(h:b.length=a.length):(linQ c a b).getD i 0=c*a.getD i 0+b.getD i 0:=by unfold linQ;rw[oq,oq,oq,List.getElem?_zipWith];by_cases hi:i<a.length;rw[ol hi,ol (show i<b.length by omega)];rfl;rw[xn (show a.length<=i by omega),xn (show b.length<=i by omega)];show(0:Rat)=c*0+0;grind
theorem Qx5{c:Rat}:∀ m:Nat,List.replicate m (0:Rat)=linQ c (List.replicate m 0) (List.replicate m 0)
 | 0=>rfl
 | m+1=>by have:=Qx5 (c:=c) m;unfold linQ at this |-;rw[ug,List.zipWith_cons_cons,<-this];congr 1;grind
theorem Qx6{s:Qq}{a:Int}{H:Rat}{U:List Rat}{kss:List (List Rat)}{w}(h:tendQ s a H U kss=.inr w):w.1=fromQ H U (rv s.B) kss:=by unfold tendQ at h;split at h;cases h;split at h;cases h;cases h;rfl
theorem Qs2{t:Qk}{d:Int}{T H:Rat}{P U V:List Rat}(l:d<=4096)(C:t.Af.length=U.length):∀ {r:List ((List Rat×Rat)×List Rat)}{i:Nat}{k z},(∀ a∈k,a.length=U.length)->tstagesQ t d T H U V P r i k=.inr z->∀ a∈z,a.length=U.length
 | [],i,k,z,g,h=>by simp only[tstagesQ] at h;cases h;exact g
 | x::r,i,k,z,g,h=>by
   simp only[tstagesQ] at h;cases s:tstageQ t d T H U V P x.2 x.1.1 x.1.2 i k with
   | inl f=>rw[s] at h;cases h
   | inr w=>
     rw[s] at h;have E:w.length=U.length:=by
      unfold tstageQ at s;cases B:fitQ d (fromQ H U x.1.1 k) 0 with
      | some j=>rw[B] at s;cases s
      | none=>
        rw[B] at s;simp only[] at s;cases A:pfieldQ t d (T+H*x.1.2) x.2 P 0 (fromQ H U x.1.1 k) V with
        | inl e=>rw[A] at s;cases s
        | inr q=>rw[A] at s;cases s;rw[(Qvb l A).2.1];exact C
     exact Qs2 l C (λa m=>by
      rcases xw.1 m with m | m;exact g a m
      rw[xl.1 m];exact E) h
theorem Q2w{p:Qe}{T H:Rat}{Y U V:List Rat}{z}(h:tiltQ p T H Y U V=.inr z):stepQ p T H Y=.inr z.1/\U.length=Y.length/\V.length=p.P.length/\tdoQ p.Tape p.G8 (limQ p.Ac) T H U V (rv p.P) z.1.ys=.inr z.2:=by
 unfold tiltQ at h;cases hs:stepQ p T H Y with
 | inl f=>
   rw[hs] at h;simp only[] at h;split at h<;>cases h
 | inr w=>
   rw[hs] at h;simp only[] at h;split at h;cases h;rename_i a;cases hd:tdoQ p.Tape p.G8 (limQ p.Ac) T H U V (rv p.P) w.ys with
   | inl f=>rw[hd] at h;cases h
   | inr x=>
     rw[hd] at h;cases h;refine⟨rfl,?_,?_,hd⟩;exact Decidable.not_not.1 λg=>a (.inl g);exact Decidable.not_not.1 λg=>a (.inr g)
set_option maxRecDepth 100000
def okT(l:List Qv):List Qv:=l.filter (·.Ok)
def nT(t:Qv):Qv:=⟨toF (fv t.T),toF (fv t.Al),toF (fv t.H),toF (fv t.Err),toR (rv t.Y),true⟩
def FT(k:Nat)(t:Qv):Prop:=FR k [t.T,t.Al,t.H,t.Err]/\FR k t.Y/\t.Y.length<=1000000
theorem Qh0{n k:Nat}{l:List Qa}(d:big<=n)(a:1<=k)(hk:k<1099511627776)(h:FR k l)(e:l.length<=1000000):Qar n l=some (toR (rv l)):=by unfold Qar;rw[Zw d,sbind,Xf (k:=k) d a hk (Qz (by rw[Ql3];exact a)) h e,sbind,Qu,Qof]
theorem Qki(l:List Qv):(okT l).length<=l.length:=List.length_filter_le _ _
theorem Qgh{n k:Nat}{h:Qp}(f:big<=n)(e:1<=k)(hk:k<1099511627776)(r:h.Aa.length<=1000000)(q:∀ t∈h.Aa,FT k t):Zk n h=some ((okT h.Aa).map nT):=by unfold Zk;rw[X8 (λi=>(okT (h.Aa.take i)).map nT) h.Aa];rw[yr];rfl;intro i x d;obtain⟨g1,m,g3⟩:=q x (Je d);have hi:=Ke d;have a:=Qki (h.Aa.take i);rw[xg] at a;rw[Qrm d];have l:okT (h.Aa.take i++[x])=okT (h.Aa.take i)++okT [x]:=List.filter_append _ _;rw[l,xu];cases j:x.Ok;rw[bifF,show okT [x]=[] from by unfold okT;simp[j],List.map_nil,yj];rw[bifT,show okT [x]=[x] from by unfold okT;simp[j]];unfold Yc;rw[sbind,Qh0 f e hk g1 oa,sbind,show getI (toR (rv [x.T,x.Al,x.H,x.Err])) 0=some (toF (fv x.T)) from rfl,sbind,show getI (toR (rv [x.T,x.Al,x.H,x.Err])) 1=some (toF (fv x.Al)) from rfl,sbind,show getI (toR (rv [x.T,x.Al,x.H,x.Err])) 2=some (toF (fv x.H)) from rfl,sbind,show getI (toR (rv [x.T,x.Al,x.H,x.Err])) 3=some (toF (fv x.Err)) from rfl,sbind,Qh0 f e hk m g3,sbind,K0 oe oe,sbind];rfl;rfl
def szs(h:Qp):List Rat:=(okT h.Aa).map (fv ·.H)
set_option maxRecDepth 100000
theorem Q9v(q:Rat):0<=(absQ q).num:=by unfold absQ;split;show 0<=-q.num;omega;omega
theorem Q71(l:List Rat):0<=(normQ l).num:=by
 have key:∀(l:List Rat) (b:Rat),0<=b.num->0<=(l.foldl (λb x=>maxQ b (absQ x)) b).num:=by
  intro l
  induction l with
  | nil=>intro b hb;exact hb
  | cons x l a=>
    intro b hb;refine a _ ?_;show 0<=(maxQ b (absQ x)).num;unfold maxQ;split;exact Q9v x;exact hb
 exact key l 0 (Int.le_refl _)
theorem Qx7{α R:Type}{f:Nat->α->Unit->Option (Lp Unit R)}{K:Unit->Option R}(xs:List α)(hb:∀ i x,xs[i]?=some x->f i x ()=some (.go ())):(rangeL f xs 0 ()).bind (lpK K)=K ():=X8 (λ_=>()) xs hb rfl
set_option maxRecDepth 100000
theorem fl_eq{z q d:Int}(h0:0<d)(a:q*d<=z)(e:z<q*d+d):z / d=q:=by apply Int.le_antisymm;have:z / d<q+1:=(Int.ediv_lt_iff_lt_mul h0).2 (by rw[Int.add_mul,Int.one_mul];exact e);omega;exact(Int.le_ediv_iff_mul_le h0).2 a
theorem Q72(s:Bool)(x d:Nat)(hd:0<d)(z v:Int)(f:z=if s=true then -((x / d:Nat):Int) else ((x / d:Nat):Int))(e:v=if s=true then -(x:Int) else (x:Int)):
 z.natAbs<=x/\(z*(d:Int)).natAbs<=x/\(v - z*(d:Int)).natAbs<=x/\(v - z*(d:Int)<0->v / (d:Int)=z - 1)/\(0<=v - z*(d:Int)->v / (d:Int)=z):=by
 have l:=Nat.div_mul_le_self x d;have j:x<x / d*d+d:=Nat.lt_div_mul_add hd;have i:=wj x d;generalize x / d=q at *;have a:z*(d:Int)=if s=true then -((q*d:Nat):Int) else ((q*d:Nat):Int):=by rw[f];cases s;rw[oh oy,oh oy,Int.natCast_mul];rw[oi rfl,oi rfl,Int.natCast_mul,Int.neg_mul]
 have k1:v - z*(d:Int)<0->v / (d:Int)=z - 1:=λh=>fl_eq om (by
  rw[Int.sub_mul,Int.one_mul];rw[a] at h |-;rw[e] at h |-;cases s;rw[oh oy,oh oy] at h;omega
  rw[oi rfl,oi rfl];omega) (by rw[Int.sub_mul,Int.one_mul];omega)
 have k2:0<=v - z*(d:Int)->v / (d:Int)=z:=λh=>fl_eq om om (by
  rw[a] at h |-;rw[e] at h |-;cases s;rw[oh oy,oh oy];omega
  rw[oi rfl,oi rfl] at h |-;omega)
 refine⟨?_,?_,?_,k1,k2⟩;rw[f];cases s;rw[oh oy];omega;rw[oi rfl];omega;rw[a];cases s;rw[oh oy];omega;rw[oi rfl];omega;rw[a,e];cases s;rw[oh oy,oh oy];omega;rw[oi rfl,oi rfl];omega
theorem Q0w{z:Int}{a:Qf}(d:Ww a)(h:z.natAbs<=val a.An):Ww (toW z):=⟨Z3 _,by
 show(toL z.natAbs).length<_
 exact ye (xx (Wl h) (Jo d.1)) d.2⟩
theorem Qtt{n:Nat}{a:Qf}{d:List Nat}(f:big<=n)(i:Ww a)(hd:Wd d)(l:d.length<4398046511104)(h0:val d≠0):∃ r,Qew n a ⟨false,d⟩=some (toW (wv a / (val d:Int)),r):=by
 unfold Qew;simp only[jn_eq];have l1:=i.2;have hb:Ww ⟨false,d⟩:=⟨hd,l⟩
 rw[Qe2 f l1 l i.1 hd,oh h0,sbind];simp only[];rw[ot,bifF,W8,sbind];have m:wv (⟨false,d⟩:Qf)=(val d:Int):=rfl;have hs:(a.Neg != false)=a.Neg:=by cases a.Neg<;>rfl
 rw[hs];obtain⟨g1,s,g3,g4,w⟩:=Q72 a.Neg (val a.An) (val d) om _ (wv a) rfl rfl;have j:(0:Int)<(val d:Int):=om
 generalize (if a.Neg=true then -((val a.An / val d:Nat):Int) else ((val a.An / val d:Nat):Int))=z at *;have q:=Q0w i g1;have A:=Q0w i s;have wr:=Q0w i g3
 have tri:∀ x:Int,-1<=x.sign/\x.sign<=1:=λx=>by rcases Int.lt_trichotomy x 0 with h | h | h;rw[gy h];omega;rw[h];decide;rw[wy h];omega
 have B:=tri (wv a - z*(val d:Int));rw[Qjq f q hb,sbind,Yl,m,Qgt f i A,sbind,Yl,Qcz f wr,sbind,Qcz f hb,sbind,Yl,m,wy j,Int.mul_one,w64 om om];by_cases e:(wv a - z*(val d:Int)).sign<0;rw[oj e,bifT,Qkw f oy oy,sbind,Qgt f q ⟨Z3 _,by show(toL 1).length<_;rw[toL1];decide⟩,sbind,Yl,Yl,Qjr f wr hb,sbind,g4 (Int.sign_neg_iff.1 e)];exact⟨_,rfl⟩;rw[oo e,bifF,w (Int.not_lt.1 λh=>e (Int.sign_neg_iff.2 h))];exact⟨_,rfl⟩
def floorQ(q:Rat):Int:=q.num / (q.den:Int)
theorem Q73{z:Int}{d:Nat}(hd:d≠0):floorQ (mkRat z d)=z / (d:Int):=by obtain⟨a,e⟩:=Qb9 (z:=z) hd;unfold floorQ;rw[a,e];have g1:(Nat.gcd z.natAbs d:Int) ∣ z:=Int.dvd_natAbs.1 (Int.natCast_dvd_natCast.2 (Nat.gcd_dvd_left _ _));have f:Nat.gcd z.natAbs d ∣ d:=Nat.gcd_dvd_right _ _;have i:0<Nat.gcd z.natAbs d:=Nat.gcd_pos_of_pos_right _ om;generalize Nat.gcd z.natAbs d=g at *;obtain⟨x,rfl⟩:=g1;obtain⟨y,rfl⟩:=f;rw[Int.mul_ediv_cancel_left _ om,Nat.mul_div_cancel_left _ i,Int.natCast_mul,Int.mul_ediv_mul_of_pos _ _ om]
theorem Qvd{n k:Nat}{f:Qa}(i:big<=n)(s:1<=k)(hk:k<1099511627776)(x:Fk k f):Qfx n f=some (toW (floorQ (fv f))):=by obtain⟨w,d,j,l,A,m,B,e,q⟩:=Qca i x s om;unfold Qfx;obtain⟨r,hr⟩:=Qtt i (a:=w) (d:=d) ⟨l,om⟩ m om e;rw[j,sbind,hr,sbind,<-q,Q73 e]
theorem Qy4{n:Nat}{w:Qf}{d:List Nat}(a:big<=n)(f:Ww w)(hd:Wd d)(e:d.length<4398046511104)(h0:val d≠0):Qcn n w d=some (toF (mkRat (wv w) (val d)),true):=by unfold Qcn;rw[Qkt a om hd,sbind,oo h0,bifF,Z9 a f hd e h0,sbind]
set_option maxRecDepth 100000
def fracsR(r:Q7):Prop:=∀ x∈[r.Tol,r.Aq,r.Low,r.Ap,r.Ak],numR x
structure RulR(r:Q7):Prop where
 f:fracsR r
 tol:0<=(fv r.Tol).num.sign
 safe:0<(fv r.Aq).num.sign
 safe1:(fv r.Aq - 1).num.sign<=0
 low:0<(fv r.Low).num.sign
 low1:(fv r.Low - 1).num.sign<0
 high:0<=(fv r.Ap - 1).num.sign
 least:0<(fv r.Ak).num.sign
 fine:1<=r.Fine/\r.Fine<=1024
 most:1<=r.Ai/\r.Ai<=200
def RulW(k:Nat)(r:Q7):Prop:=FR k [r.Tol,r.Aq,r.Low,r.Ap,r.Ak]
theorem RulW.all{k:Nat}{r:Q7}(h:RulW k r):Fk k r.Tol/\Fk k r.Aq/\Fk k r.Low/\Fk k r.Ap/\Fk k r.Ak:=
 ⟨h _ oa,h _ oa,h _ oa,h _ oa,h _ oa⟩
theorem Qsk{n k:Nat}{l:List Qa}(w:big<=n)(hk:k<1048576)(q:FR k l):Qdy n l=some (dP (∀ x∈l,numR x)):=by
 unfold Qdy;rw[Xy (λ_ (x:Qa)=>numR x) (r:=false),Qdd];by_cases h:∀ x∈l,numR x;rw[oi h,dP_t h];rw[oh h,dP_f h];intro i x A;simp only[jn_eq];have e:=Q2u w hk (q x (Je A));have m:∀(K:Bool->Option (Lp Unit Bool)),((Vq n x).bind λa=>bif !a then K true else (V9 n x).bind λd=>K (decide ((190:Int)<d)))=(((Vq n x).bind λf=>bif !f then some true else (V9 n x).bind λj=>some (decide ((190:Int)<j))).bind K):=by
  intro K;cases Vq n x with
  | none=>rfl
  | some v=>
    cases v;rfl;rw[yn,yn];cases V9 n x<;>rfl
 refine⟨λh=>?_,λh=>?_⟩;refine(m λs=>bif s then some (Lp.out false) else some (Lp.go ())).trans ?_;rw[e,dP_t h];rfl;refine(m λs=>bif s then some (Lp.out false) else some (Lp.go ())).trans ?_;rw[e,dP_f h];rfl
theorem Qja{n k:Nat}{f:Qa}(e:big<=n)(a:1<=k)(hk:k<1099511627776)(d:Fk k f):Qbq n f=some (decide (0<(fv f).num.sign)):=by unfold Qbq;rw[Xx e a hk d,sbind]
theorem Qve{n k:Nat}{r:Q7}(d:big<=n)(e:1<=k)(hk:k<1048576)(hr:RulW k r):Qf5 n r=some (dP (RulR r)):=by
 obtain⟨w1,E,F,G,H⟩:=hr.all;have k1:Fk k (toF 1):=Qz (by rw[Ql3];exact e);have a:k<1099511627776:=om
 unfold Qf5 Qiu;simp only[jn_eq];rw[Zw d,sbind,Qsk d hk hr,sbind,bifnP];by_cases c1:∀ x∈[r.Tol,r.Aq,r.Low,r.Ap,r.Ak],numR x
 case neg=>rw[oh c1,sbind,dP_f λh=>c1 h.f];rfl
 rw[oi c1,Xx d e a w1,sbind];by_cases s:(fv r.Tol).num.sign<0
 . rw[oj s,bifT,sbind,dP_f λh=>by have:=h.tol;omega];rfl
 rw[oo s,bifF,Qja d e a E,sbind];by_cases l:0<(fv r.Aq).num.sign
 case neg=>rw[oo l,ov,bifT,bifT,sbind,dP_f λh=>l h.safe];rfl
 rw[oj l,ot,bifF,Xa (k:=k) d e a E k1,sbind,Qu];by_cases w:0<(fv r.Aq - 1).num.sign
 . rw[oj w,bifT,sbind,dP_f λh=>by have:=h.safe1;omega];rfl
 rw[oo w,bifF,Qja d e a F,sbind];by_cases m:0<(fv r.Low).num.sign
 case neg=>rw[oo m,ov,bifT,bifT,sbind,dP_f λh=>m h.low];rfl
 rw[oj m,ot,bifF,Xa (k:=k) d e a F k1,sbind,Qu];by_cases A:0<=(fv r.Low - 1).num.sign
 . rw[oj A,bifT,sbind,dP_f λh=>by have:=h.low1;omega];rfl
 rw[oo A,bifF,Xa (k:=k) d e a G k1,sbind,Qu];by_cases B:(fv r.Ap - 1).num.sign<0
 . rw[oj B,bifT,sbind,dP_f λh=>by have:=h.high;omega];rfl
 rw[oo B,bifF,Qja d e a H,sbind];by_cases q:0<(fv r.Ak).num.sign
 case neg=>rw[oo q,ov,bifT,sbind,dP_f λh=>q h.least];rfl
 rw[oj q,ot,bifF];by_cases C:r.Fine<1
 . rw[oj C,bifT,bifT,sbind,dP_f λh=>by have:=h.fine;omega];rfl
 rw[oo C,bifF];by_cases f:1024<r.Fine
 . rw[oj f,bifT,sbind,dP_f λh=>by have:=h.fine;omega];rfl
 rw[oo f,bifF];by_cases i:r.Ai<1
 . rw[oj i,bifT,bifT,sbind,dP_f λh=>by have:=h.most;omega];rfl
 rw[oo i,bifF];by_cases j:200<r.Ai
 . rw[oj j,bifT,sbind,dP_f λh=>by have:=h.most;omega];rfl
 rw[oo j,bifF,sbind,dP_t ⟨c1,om,l,om,m,om,om,q,om,om⟩];rfl
def accQ(r:Q7)(e:Rat):Prop:=(e - fv r.Tol).num.sign<=0
def underQ(r:Q7)(w:Rat):Prop:=(w - fv r.Ak).num.sign<0
def cutQ(T E W:Rat):Rat:=if 0<(W - (E - T)).num.sign then E - T else W
def downQ(x:Rat)(fine:Int):Rat:=mkRat (floorQ (x*(fine:Rat))) fine.toNat
def factorQ(r:Q7)(e:Rat):Rat:=
 if e=0 then fv r.Ap else
 if (downQ (fv r.Aq*fv r.Tol / e) r.Fine - fv r.Low).num.sign<0 then fv r.Low else
 if 0<(downQ (fv r.Aq*fv r.Tol / e) r.Fine - fv r.Ap).num.sign then fv r.Ap else downQ (fv r.Aq*fv r.Tol / e) r.Fine
theorem Qsl{n k:Nat}{r:Q7}{e:Rat}(f:big<=n)(a:1<=k)(hk:k<1099511627776)(hr:Fk k r.Tol)(d:qw e<=k):Qdu n r (toF e)=some (dP (accQ r e)):=by unfold Qdu;rw[Xa f a hk (Qz d) hr,sbind,Qu,decP];rfl
theorem Qmv{n k:Nat}{r:Q7}{e:Rat}(f:big<=n)(a:1<=k)(hk:k<1099511627776)(hr:Fk k r.Ak)(d:qw e<=k):Qfy n r (toF e)=some (dP (underQ r e)):=by unfold Qfy;rw[Xa f a hk (Qz d) hr,sbind,Qu,decP];rfl
theorem Qp5{n k:Nat}{e:Qa}{T W:Rat}(a:big<=n)(d:1<=k)(hk:k<100000000)(i:qw T<=k)(f:Fk k e)(j:qw W<=k):Qii n (toF T) e (toF W)=some (toF (cutQ T (fv e) W)):=by unfold Qii cutQ;have l:=Qn8 (qw_fv f d) i;rw[Qe3 (k:=k) a d om f (Qz i),sbind,Qu,Xa (k:=k+k+1) a om om (Qz om) (Qz l),sbind,Qu,Qu];by_cases h:0<(W - (fv e - T)).num.sign;rw[oj h,oi h];rfl;rw[oo h,oh h,bifF,Ju a (Fk_Fw (Qz j) om),sbind,Qu]
theorem Q2x{z:Int}{k:Nat}(a:1<=k)(h:(toL z.natAbs).length<=k):qw (z:Rat)<=k:=by unfold qw;rw[show((z:Rat)).num=z from rfl,show((z:Rat)).den=1 from rfl,toL1];omega
theorem Qpf{fine:Int}(h:1<=fine/\fine<=1024):(toL fine.natAbs).length<=1:=Ye (n:=fine.natAbs) (k:=1) (by rw[We,Zg];omega)
theorem Qx8(q:Rat):(floorQ q).natAbs<=q.num.natAbs:=by unfold floorQ;exact Int.natAbs_ediv_le_natAbs _ _
theorem Qw7{n k:Nat}{x:Rat}{fine:Int}(a:big<=n)(l:1<=k)(hk:k<100000000)(j:qw x<=k)(e:1<=fine/\fine<=1024):Qhd n (toF x) fine=some (toF (downQ x fine)):=by
 unfold Qhd downQ;have q:qw (fine:Rat)<=1:=Q2x om (Qpf e);have f:=Xi j q;rw[Qd7 a om om,sbind,K6 (k:=k) a l om (Qz j) (Qz om),sbind,Qu,Qu,Qvd (k:=k+1) a om om (Qz f),sbind,Qu,Qkw a om om,sbind];have m:(toL (floorQ (x*(fine:Rat))).natAbs).length<=k+1:=xx (Wl (Qx8 _)) (xx (Qkf _) f);have i:val (toW fine).An=fine.toNat:=by
  show val (toL fine.natAbs)=_;rw[Jh];omega
 rw[Qy4 a (w:=toW (floorQ (x*(fine:Rat)))) (d:=(toW fine).An) ⟨Z3 _,by show(toL (floorQ (x*(fine:Rat))).natAbs).length<_;omega⟩ (Z3 _) (by show(toL fine.natAbs).length<_;have:=Qpf e;omega) (by rw[i];omega),sbind,Yl,i]
theorem Q9w{x:Rat}{fine:Int}{k:Nat}(f:qw x<=k)(a:1<=fine/\fine<=1024):qw (downQ x fine)<=k+1:=by unfold downQ;have e:qw (fine:Rat)<=1:=Q2x om (Qpf a);have d:=Xi f e;refine Qpa om (xx (Wl (Qx8 _)) (xx (Qkf _) d)) ?_;have:=Qpf a;rw[show fine.toNat=fine.natAbs by omega];omega
theorem Qtu{n k:Nat}{r:Q7}{e:Rat}(a:big<=n)(i:1<=k)(hk:k<1000000)(hr:RulW k r)(l:1<=r.Fine/\r.Fine<=1024)(w:qw e<=k):Qex n r (toF e)=some (toF (factorQ r e)):=by obtain⟨w1,q,s,j,A⟩:=hr.all;have m:=Xi (qw_fv q i) (qw_fv w1 i);have hd:=Ql0 m w;have d:=Q9w hd l;unfold Qex factorQ;rw[K6 (k:=k) a i om q w1,sbind,Qav (k:=k+k) a om om (Qz m) (Qz om),sbind,Qu,Qu];by_cases h0:e=0;rw[oi h0,oi h0];simp only[];rw[ov,bifT,Ju a (Fk_Fw j om),sbind];rw[oh h0,oh h0];simp only[];rw[ot,bifF,Qw7 (k:=k+k+k) a om om hd l,sbind,Xa (k:=k+k+k+1) a om om (Qz d) (Kq s om),sbind,Qu];generalize downQ (fv r.Aq*fv r.Tol / e) r.Fine=x at *;by_cases g1:(x - fv r.Low).num.sign<0;rw[oj g1,oi g1,bifT,Ju a (Fk_Fw s om),sbind];rw[oo g1,oh g1,bifF,Xa (k:=k+k+k+1) a om om (Qz d) (Kq j om),sbind,Qu];by_cases f:0<(x - fv r.Ap).num.sign;rw[oj f,oi f,bifT,Ju a (Fk_Fw j om),sbind];rw[oo f,oh f,bifF]
set_option maxRecDepth 100000
theorem sg_lt{a b:Rat}:(a - b).num.sign<0↔a<b:=by rw[Int.sign_neg_iff,<-Int.not_le,Rat.num_nonneg,<-Rat.le_iff_sub_nonneg,Rat.not_le]
theorem sg_gt{a b:Rat}:0<(a - b).num.sign↔b<a:=by
 have e:(a - b).num=-(b - a).num:=by rw[<-Qrz,Rat.neg_sub]
 rw[Int.sign_pos_iff,e,<-sg_lt,Int.sign_neg_iff];omega
theorem sg_le{a b:Rat}:(a - b).num.sign<=0↔a<=b:=by rw[<-Int.not_lt,sg_gt,Rat.not_lt]
theorem sg_ge{a b:Rat}:0<=(a - b).num.sign↔b<=a:=by rw[<-Int.not_lt,sg_lt,Rat.not_lt]
theorem Qjb{a:Rat}:0<a.num.sign↔0<a:=by have:=@sg_gt a 0;rwa [show a - 0=a by grind] at this
theorem Qx9{a:Rat}:0<=a.num.sign↔0<=a:=by have:=@sg_ge a 0;rwa [show a - 0=a by grind] at this
theorem Q74{x h:Rat}{fine:Int}{j:Nat}(q:1<=fine/\fine<=1024)(h0:0<downQ x fine)(i:downQ x fine<=h)(l:qw h<=j):qw (downQ x fine)<=j+1:=by
 have f:(downQ x fine).den<=1024:=by unfold downQ;rw[(Qb9 (z:=floorQ (x*(fine:Rat))) (d:=fine.toNat) om).2];exact xx (wj _ _) om
 generalize downQ x fine=y at *;have m:0<y.num:=by have:=Qjb.2 h0;exact Int.sign_pos_iff.1 this
 rw[Rat.le_iff] at i;have e:(1:Int)<=(h.den:Int):=by have:=h.den_nz;omega
 have a1:y.num<=y.num*(h.den:Int):=by have:=Int.mul_le_mul_of_nonneg_left e (Int.le_of_lt m);rwa [Int.mul_one] at this
 have a:0<=h.num:=by rcases Int.lt_or_le h.num 0 with g | g;have:=Int.mul_neg_of_neg_of_pos g (show(0:Int)<(y.den:Int) by have:=y.den_nz;omega);omega;exact g
 have a2:h.num*(y.den:Int)<=h.num*1024:=Int.mul_le_mul_of_nonneg_left om a;have a3:y.num.natAbs<=h.num.natAbs*1024:=om
 have l1:(toL y.num.natAbs).length<=j+1:=by refine xx (Wl a3) (xx Qbl ?_);have:=xx (Qkf h) l;have:(toL 1024).length<=1:=Ye (n:=1024) (k:=1) (by rw[We,Zg];omega);omega
 have r:(toL y.den).length<=1:=Ye (n:=y.den) (k:=1) (by rw[We,Zg];omega);unfold qw;omega
theorem Q4f{r:Q7}(hr:RulR r)(e:Rat):0<factorQ r e:=by have a:=Qjb.1 hr.low;have d:=sg_ge.1 hr.high;unfold factorQ;split;grind;split;exact a;rename_i g1;split;grind;have g3:=Rat.not_lt.1 (λh=>g1 (sg_lt.2 h));grind
theorem Qvf{r:Q7}(hr:RulR r){j:Nat}(i:qw (fv r.Low)<=j)(d:qw (fv r.Ap)<=j)(e:Rat):qw (factorQ r e)<=j+1:=by have f:=Qjb.1 hr.low;unfold factorQ;split;omega;split;omega;rename_i g1;split;omega;rename_i a;have g3:=Rat.not_lt.1 (λh=>g1 (sg_lt.2 h));exact Q74 hr.fine (by grind) (Rat.not_lt.1 λh=>a (sg_gt.2 h)) d
structure TryA where
 T:Rat
 Al:Rat
 H:Rat
 Err:Rat
 Y:List Rat
 Ok:Bool
def toTryA(t:TryA):Qv:=⟨toF t.T,toF t.Al,toF t.H,toF t.Err,toR t.Y,t.Ok⟩
noncomputable def tryA(r:Q7)(E T:Rat)(Y:List Rat)(W:Rat)(z:MadeQ):TryA:=⟨T,W,cutQ T E W,normQ z.err,Y,dP (accQ r (normQ z.err))⟩
noncomputable def adaptQ(p:Qe)(r:Q7)(E:Rat):Nat->List TryA->Rat->List Rat->Rat->(List TryA×Rat×List Rat)×Qc
 | 0,tr,T,Y,_=>if T=E then ((tr,T,Y),⟨0,0,0,0⟩) else ((tr,T,Y),⟨5,(tr.length:Int)+1,0,0⟩)
 | m+1,tr,T,Y,W=>if T=E then ((tr,T,Y),⟨0,0,0,0⟩) else
   bif dP (underQ r W) then ((tr,T,Y),⟨4,(tr.length:Int)+1,0,0⟩) else
   match stepQ p T (cutQ T E W) Y with
   | .inl f=>((tr,T,Y),⟨f.Ad,(tr.length:Int)+1,f.Am,f.At⟩)
   | .inr z=>adaptQ p r E m (tr++[tryA r E T Y W z]) (bif dP (accQ r (normQ z.err)) then T+cutQ T E W else T) (bif dP (accQ r (normQ z.err)) then z.next else Y) (cutQ T E W*factorQ r (normQ z.err))
def gA:Nat->Nat×Nat
 | 0=>(2,2)
 | n+1=>((gA n).1+(gA n).2+1,max ((gA n).1+3) (gA n).2+3)
theorem gA_le:∀ n,n<=12->(gA n).1<=3000/\(gA n).2<=3000:=oy
theorem Q0x:∀ n,2<=(gA n).1/\2<=(gA n).2
 | 0=>⟨xd _,xd _⟩
 | n+1=>by obtain⟨a,b⟩:=Q0x n;exact⟨by show 2<=(gA n).1+(gA n).2+1;omega,by show 2<=max ((gA n).1+3) (gA n).2+3;omega⟩
theorem Q2y{T E W:Rat}{a b:Nat}(d:qw T<=a)(e:qw E<=2)(f:qw W<=b):qw (cutQ T E W)<=max (a+3) b/\qw (T+cutQ T E W)<=max 2 (a+b+1):=by unfold cutQ;split;have:=Qn8 e d;refine⟨om,?_⟩;rw[show T+(E - T)=E by grind];omega;have:=Zt d f;exact⟨om,om⟩
set_option maxRecDepth 100000
abbrev AdS:=Jl×(List Qv)×Qa×(List Qa)×Qa×Qc
def adBody(n:Nat)(a:AdS):Option (Lp AdS AdS):=
 (Xt n a.1 a.2.1 a.2.2.1 a.2.2.2.1 a.2.2.2.2.1).bind λl=>
 bif !l then (
  jn (λ(i:(Jl×(List Qv)×Qa×(List Qa)×Qa×Qc×Bool)->Option _)=>
   (Wm n a.1 a.2.1 a.2.2.1 a.2.2.2.1 a.2.2.2.2.1).bind λm=>
   (Xv m a.2.2.2.2.2).bind λf=>
   bif f.1 then (
    i (a.1,a.2.1,a.2.2.1,a.2.2.2.1,a.2.2.2.2.1,f.2,true))
   else (
    (W0 n a.1 a.2.1 a.2.2.1 a.2.2.2.1 a.2.2.2.2.1).bind λe=>
    (Xv e.1 f.2).bind λj=>
    i (e.2.1,e.2.2.2.2.2,e.2.2.1,e.2.2.2.1,e.2.2.2.2.1,j.2,j.1))) (λ(d:Jl×(List Qv)×Qa×(List Qa)×Qa×Qc×Bool)=>
   bif d.2.2.2.2.2.2 then (
    some (Lp.out (d.1,d.2.1,d.2.2.1,d.2.2.2.1,d.2.2.2.2.1,d.2.2.2.2.2.1)))
   else (
    some (Lp.go (d.1,d.2.1,d.2.2.1,d.2.2.2.1,d.2.2.2.2.1,d.2.2.2.2.2.1)))))
 else (
  some (Lp.out (a.1,a.2.1,a.2.2.1,a.2.2.2.1,a.2.2.2.2.1,a.2.2.2.2.2)))
theorem Q6h(n:Nat)(x0:Jl):Qf6 n x0=(Qb4 n x0).bind λd=>
 bif !d then (
  some ((⟨[],(⟨(⟨false,[]⟩:Qf),[]⟩:Qa),[]⟩:Qp),(⟨(2:Int),0,0,0⟩:Qc)))
 else (
  (Jy n x0.Ah).bind λe=>
  (Jj n (1:Int)).bind λf=>
  (Wa n f x0.Y).bind λi=>
  (Jy n x0.Aj).bind λj=>
  (loopM (adBody n) n (x0,([]:List Qv),e,i,j,(⟨0,0,0,0⟩:Qc))).bind λ(a:AdS)=>
  some ((⟨a.2.1,a.2.2.1,a.2.2.2.1⟩:Qp),a.2.2.2.2.2)):=vj (vj rfl)
structure TskW(k:Jl):Prop where
 p:PrbW 4000 k.G9
 r:RulW 2 k.Ab
 s:Fk 2 k.Ah
 e:Fk 2 k.Ar
 f:Fk 2 k.Aj
 y:FR 2 k.Y
def TskR(k:Jl):Prop:=prbR k.G9/\RulR k.Ab/\(k.Y.length:Int)=k.G9.Tape.Ae/\fv k.Ah<=fv k.Ar/\0<fv k.Aj
theorem Qtv{n:Nat}{k:Jl}(j:big<=n)(a:TskW k):Qb4 n k=some (dP (TskR k)):=by
 unfold Qb4 TskR;simp only[jn_eq];rw[Qgu j oy oy a.p,sbind,bifP];by_cases c1:prbR k.G9
 case neg=>rw[oh c1,dP_f λh=>c1 h.1]
 rw[oi c1,Qve j oy oy a.r,sbind,bifP];by_cases d:RulR k.Ab
 case neg=>rw[oh d,dP_f λh=>d h.2.1]
 rw[oi d];by_cases e:(k.Y.length:Int)=k.G9.Tape.Ae
 case neg=>rw[oo e,bifF,dP_f λh=>e h.2.2.1]
 rw[oj e,bifT,Xa (k:=2) j oy oy a.e a.s,sbind];by_cases f:0<=(fv k.Ar - fv k.Ah).num.sign
 case neg=>rw[oo f,bifF,dP_f λh=>f (sg_ge.2 h.2.2.2.1)]
 rw[oj f,bifT,Xx (k:=2) j oy oy a.f,sbind];by_cases i:0<(fv k.Aj).num.sign
 . rw[oj i,dP_t ⟨c1,d,e,sg_ge.1 f,Qjb.1 i⟩]
 . rw[oo i,dP_f λh=>i (Qjb.2 h.2.2.2.2)]
theorem Qya{f:Qc}(h:f.Ad≠0):Qo f ⟨0,0,0,0⟩=false:=by obtain⟨a,b,c,d⟩:=f;exact Jt h
theorem Q9x{n:Nat}{k:Jl}(i:big<=n)(C:TskW k)(_:prbR k.G9)(hr:RulR k.Ab):∀(m:Nat) (a:List TryA) (T:Rat) (Y:List Rat) (W:Rat) (A:Nat),
 ((a.length+m:Nat):Int)=k.Ab.Ai->a.length+m<=12->m<A->qw T<=(gA a.length).1->qw W<=(gA a.length).2->QR 129 Y->(Y.length:Int)=k.G9.Tape.Ae ->
 ∃ w,loopM (adBody n) A (k,a.map toTryA,toF T,toR Y,toF W,⟨0,0,0,0⟩) =
   some (k,(adaptQ k.G9 k.Ab (fv k.Ar) m a T Y W).1.1.map toTryA,toF (adaptQ k.G9 k.Ab (fv k.Ar) m a T Y W).1.2.1,toR (adaptQ k.G9 k.Ab (fv k.Ar) m a T Y W).1.2.2,w,(adaptQ k.G9 k.Ab (fv k.Ar) m a T Y W).2):=by
 obtain⟨v1,v2,v3,v4,v5⟩:=C.r.all;have U:qw (fv k.Ar)<=2:=qw_fv C.e oy
 have over:∀ {a:List TryA}{T:Rat}{Y:List Rat}{W:Rat},qw T<=3000->Xt n k (a.map toTryA) (toF T) (toR Y) (toF W)=some (decide (T=fv k.Ar)):=λH=>by unfold Xt;rw[Qbm (k:=3000) i oy oy (Qz H) (Kq C.e oy),sbind,Qu]
 intro m
 induction m with
 | zero=>
   intro a T Y W A V J N H P K B;obtain⟨Q,R⟩:=gA_le a.length om;refine⟨toF W,Wz ?_ om⟩;unfold adBody;simp only[jn_eq];rw[over om,sbind];unfold adaptQ;by_cases d:T=fv k.Ar
   . rw[oj d,oi d];rfl
   rw[oo d,oh d,ov,bifT];unfold Wm Xv;rw[xr,oj om,bifT,sbind,sbind,w1 om];rw[Jt oy];rfl
 | succ m ih=>
   intro a T Y W A V J N H P K B;obtain⟨Q,R⟩:=gA_le a.length om;by_cases d:T=fv k.Ar
   . refine⟨toF W,Wz ?_ om⟩
     unfold adBody adaptQ;rw[over om,sbind,oj d,oi d];rfl
   by_cases G:underQ k.Ab W
   . refine⟨toF W,Wz ?_ om⟩
     unfold adBody adaptQ;simp only[jn_eq];rw[over om,sbind,oo d,oh d,ov,bifT,dP_t G,bifT];unfold Wm Xv;rw[xr,oo om,bifF,Qmv (k:=3000) i oy oy (Kq v5 oy) om,sbind,dP_t G,bifT,sbind,sbind,w1 om,Jt oy];rfl
   obtain⟨c1,c2⟩:=Q2y (E:=fv k.Ar) H U P;have hst:=Q0x a.length;have r:qw (cutQ T (fv k.Ar) W)<=3900:=om
   obtain⟨I,O⟩:=Qi9 (k:=4000) (p:=k.G9) (t:=toF T) (h:=toF (cutQ T (fv k.Ar) W)) (y:=toR Y) i oy oy C.p (Qz om) (Qz om) (Kx (Ja K oy));rw[Qu,Qu,Vf] at I O;have s:Wm n k (a.map toTryA) (toF T) (toR Y) (toF W)=some ⟨0,0,0,0⟩:=by unfold Wm;rw[xr,oo om,bifF,Qmv (k:=3000) i oy oy (Kq v5 oy) om,sbind,dP_f G,bifF]
   cases hs:stepQ k.G9 T (cutQ T (fv k.Ar) W) Y with
   | inl f=>
     have hk:=O f hs;refine⟨toF W,Wz ?_ om⟩;unfold adBody adaptQ;simp only[jn_eq];rw[over om,sbind,oo d,oh d,ov,bifT,s,sbind,dP_f G,bifF];unfold W0 Xv;rw[sbind,Jv,Qp5 (k:=3900) i oy oy om (Kq C.e oy) om,sbind,I,hs];simp only[jn_eq];rw[sbind,Qya hk,xr,w1 om];simp only[ot,ov,bifT,bifF,sbind];rw[Jt hk];rfl
   | inr z=>
     obtain⟨_,_,z1,z2,z3⟩:=Qeq hs;have F:=Qx2 (k:=129) (l:=z.err) oy z3;have L:=Qvf hr (j:=2) (qw_fv v3 oy) (qw_fv v4 oy) (normQ z.err);have X:=Xi c1 L;obtain⟨A,rfl⟩:∃ q,A=q+1:=⟨A - 1,om⟩
     have e:(a++[tryA k.Ab (fv k.Ar) T Y W z]).length=a.length+1:=oa
     have M:adBody n (k,a.map toTryA,toF T,toR Y,toF W,⟨0,0,0,0⟩)=some (Lp.go (k,(a++[tryA k.Ab (fv k.Ar) T Y W z]).map toTryA,toF (bif dP (accQ k.Ab (normQ z.err)) then T+cutQ T (fv k.Ar) W else T),toR (bif dP (accQ k.Ab (normQ z.err)) then z.next else Y),toF (cutQ T (fv k.Ar) W*factorQ k.Ab (normQ z.err)),⟨0,0,0,0⟩)):=by
      unfold adBody;simp only[jn_eq];rw[over om,sbind,oo d,ov,bifT,s,sbind];unfold W0 Xv;rw[sbind,Jv,Qp5 (k:=3900) i oy oy om (Kq C.e oy) om,sbind,I,hs];simp only[jn_eq];rw[sbind,Jv];simp only[ot,bifF];rw[show(toM z).Err=toR z.err from rfl,show(toM z).Next=toR z.next from rfl,Qyv (k:=129) i oy oy (Kx z3),sbind,Vf,Qsl (k:=129) i oy oy (Kq v1 oy) F,sbind,K0 oe oe,sbind];unfold Qjy;have S:a.map toTryA++[(⟨toF T,toF W,toF (cutQ T (fv k.Ar) W),toF (normQ z.err),toR Y,dP (accQ k.Ab (normQ z.err))⟩:Qv)]=(a++[tryA k.Ab (fv k.Ar) T Y W z]).map toTryA:=by rw[xu];rfl
      rw[S,K5 (k:=3900) i oy oy (Qz om) (Qz r),Qtu (k:=129) i oy oy (λx hx=>Kq (C.r x hx) oy) hr.fine F,sbind,sbind,K6 (k:=3900) i oy oy (Qz r) (Qz om),Qu,Qu,Qu];cases dP (accQ k.Ab (normQ z.err))
      . rfl
      . rfl
     rw[Qd6 M];have Z:adaptQ k.G9 k.Ab (fv k.Ar) (m+1) a T Y W=adaptQ k.G9 k.Ab (fv k.Ar) m (a++[tryA k.Ab (fv k.Ar) T Y W z]) (bif dP (accQ k.Ab (normQ z.err)) then T+cutQ T (fv k.Ar) W else T) (bif dP (accQ k.Ab (normQ z.err)) then z.next else Y) (cutQ T (fv k.Ar) W*factorQ k.Ab (normQ z.err)):=by
      conv=>lhs;unfold adaptQ
      rw[oh d,dP_f G,bifF,hs]
     rw[Z];refine ih _ _ _ _ A (by rw[e];omega) (by rw[e];omega) om ?_ ?_ ?_ ?_
     . rw[e]
       show qw _<=(gA a.length).1+(gA a.length).2+1;cases dP (accQ k.Ab (normQ z.err))
       . rw[bifF];omega
       . rw[bifT];omega
     . rw[e]
       show qw _<=max ((gA a.length).1+3) (gA a.length).2+3;omega
     . cases dP (accQ k.Ab (normQ z.err))
       . exact K
       . exact z1
     . cases dP (accQ k.Ab (normQ z.err))
       . exact B
       . rw[bifT,z2];exact B
theorem Qvg{n:Nat}{k:Jl}(d:big<=n)(a:TskW k)(i:RulR k.Ab->k.Ab.Ai<=12)(j:k.Y.length<=1000):
 Qf6 n k=some (@ite _ (TskR k) (Classical.propDecidable _) (⟨(adaptQ k.G9 k.Ab (fv k.Ar) k.Ab.Ai.toNat [] (fv k.Ah) (rv k.Y) (fv k.Aj)).1.1.map toTryA,toF (adaptQ k.G9 k.Ab (fv k.Ar) k.Ab.Ai.toNat [] (fv k.Ah) (rv k.Y) (fv k.Aj)).1.2.1,toR (adaptQ k.G9 k.Ab (fv k.Ar) k.Ab.Ai.toNat [] (fv k.Ah) (rv k.Y) (fv k.Aj)).1.2.2⟩,(adaptQ k.G9 k.Ab (fv k.Ar) k.Ab.Ai.toNat [] (fv k.Ah) (rv k.Y) (fv k.Aj)).2) (noH,⟨2,0,0,0⟩)):=by
 rw[Q6h,Qtv d a,sbind,bifnP];by_cases hr:TskR k
 case neg=>rw[oh hr,oh hr];rfl
 have f:=i hr.2.1;have l:=hr.2.1.most;rw[oi hr,oi hr,Ju d (Fk_Fw a.s oy),sbind,Zw d,sbind,Xf (k:=2) d oy oy (Qz (by rw[Ql3];decide)) a.y om,sbind,Qu,Qof,Ju d (Fk_Fw a.f oy),sbind];obtain⟨w,e⟩:=Q9x d a hr.1 hr.2.1 k.Ab.Ai.toNat [] (fv k.Ah) (rv k.Y) (fv k.Aj) n oe oe (by unfold big at d;omega) (qw_fv a.s oy) (qw_fv a.f oy) (Ja (QR_rv a.y oy) oy) (by rw[Q4];exact hr.2.2.1);rw[List.map_nil] at e;rw[e,sbind]
set_option maxRecDepth 100000
structure TA(K d:Nat)(x:TryA):Prop where
 t:qw x.T<=K
 w:qw x.Al<=K
 h:qw x.H<=K
 e:qw x.Err<=K
 y:QR K x.Y
 l:x.Y.length=d
theorem Q0y{p:Qe}{r:Q7}{E:Rat}{d:Nat}(hr:RulR r)(H:qw (fv r.Low)<=2)(G:qw (fv r.Ap)<=2)(B:qw E<=2):∀(m:Nat) (a:List TryA) (T:Rat) (Y:List Rat) (W:Rat),
 a.length+m<=12->qw T<=(gA a.length).1->qw W<=(gA a.length).2->QR 129 Y->Y.length=d->(∀ t∈a,TA 4000 d t) ->
 (∀ t∈(adaptQ p r E m a T Y W).1.1,TA 4000 d t)/\qw (adaptQ p r E m a T Y W).1.2.1<=4000/\QR 129 (adaptQ p r E m a T Y W).1.2.2/\(adaptQ p r E m a T Y W).1.2.2.length=d/\(adaptQ p r E m a T Y W).1.1.length<=a.length+m
 | 0,a,T,Y,W,x,C,F,s,i,q=>by obtain⟨J,K⟩:=gA_le a.length om;unfold adaptQ;split<;>exact⟨q,by show qw T<=4000;omega,s,i,xd _⟩
 | m+1,a,T,Y,W,x,C,F,s,i,q=>by
   obtain⟨J,K⟩:=gA_le a.length om;have N:=Q0x a.length;have stay:(∀ t∈a,TA 4000 d t)/\qw T<=4000/\QR 129 Y/\Y.length=d/\a.length<=a.length+(m+1):=⟨q,om,s,i,om⟩
   by_cases h:T=E
   . simp only[adaptQ,oi h];exact h ▸ stay
   simp only[adaptQ,oh h];cases dP (underQ r W)
   case true=>exact stay
   rw[bifF];obtain⟨c1,X⟩:=Q2y (E:=E) C B F;cases hs:stepQ p T (cutQ T E W) Y with
   | inl f=>exact stay
   | inr z=>
     obtain⟨_,_,U,V,z3⟩:=Qeq hs;have M:=Qx2 (k:=129) (l:=z.err) oy z3;have A:=Qvf hr (j:=2) H G (normQ z.err);have L:=Xi c1 A;have e:(a++[tryA r E T Y W z]).length=a.length+1:=oa
     have I:=Q0y (p:=p) (E:=E) (d:=d) hr H G B m (a++[tryA r E T Y W z]) (bif dP (accQ r (normQ z.err)) then T+cutQ T E W else T) (bif dP (accQ r (normQ z.err)) then z.next else Y) (cutQ T E W*factorQ r (normQ z.err)) (by rw[e];omega) (by
      rw[e];show qw _<=(gA a.length).1+(gA a.length).2+1;cases dP (accQ r (normQ z.err))
      . rw[bifF];omega
      . rw[bifT];omega) (by
      rw[e];show qw _<=max ((gA a.length).1+3) (gA a.length).2+3;omega) (by
      cases dP (accQ r (normQ z.err))
      . exact s
      . exact U) (by
      cases dP (accQ r (normQ z.err))
      . exact i
      . rw[bifT,V];exact i) (λt w=>by
      rcases xw.1 w with w | w
      . exact q t w
      . rw[xl.1 w]
        exact⟨by show qw T<=_;omega,by show qw W<=_;omega,by show qw (cutQ T E W)<=_;omega,by show qw (normQ z.err)<=_;omega,show QR 4000 Y from Ja s oy,i⟩)
     rw[e] at I;obtain⟨O,P,Q,R,S⟩:=I;exact⟨O,P,Q,R,xx S om⟩
def mA(a:List TryA)(T:Rat)(Y:List Rat):Qp:=⟨a.map toTryA,toF T,toR Y⟩
theorem Q75{k m:Nat}{t:TryA}(h:TA k m t):QR k [t.T,t.Al,t.H,t.Err]:=λq a=>by rcases xj.1 a with rfl | a;exact h.t;rcases xj.1 a with rfl | a;exact h.w;rcases xj.1 a with rfl | a;exact h.h;rw[xl.1 a];exact h.e
def tR(r:Vc):Q7:=⟨tF r.Tol,tF r.Aq,tF r.Low,tF r.Ap,tF r.Ak,r.Fine,r.Ai⟩
def tK(k:Jw):Jl:=⟨tP k.G9,tR k.Ab,tF k.Ah,tF k.Ar,tF k.Aj,k.Y.map tF⟩
def F2(f:Ql):Prop:=f.N.length<=2/\f.D.length<=2
structure TskL(k:Jw):Prop where
 p:(k.G9.Tape.Code.length<=10/\k.G9.Tape.Af.length<=10/\∀ c∈k.G9.Tape.Code,c.N.N.length<=2/\c.N.D.length<=2)/\(k.G9.G8.Name.length<=50/\k.G9.G8.A.length<=4/\FL 4 4 k.G9.G8.B/\FL 4 4 k.G9.G8.C/\FL 4 4 k.G9.G8.E/\∀ r∈k.G9.G8.A,FL 4 4 r)/\FL 6 2 k.G9.P
 r:F2 k.Ab.Tol/\F2 k.Ab.Aq/\F2 k.Ab.Low/\F2 k.Ab.Ap/\F2 k.Ab.Ak
 m:k.Ab.Ai<=12\/200<k.Ab.Ai
 s:F2 k.Ah
 e:F2 k.Ar
 f:F2 k.Aj
 y:FL 4 2 k.Y
theorem Qvh{r:Vc}:∃ v,Yy r 2=some v/\(v=false->F2 r.Tol/\F2 r.Aq/\F2 r.Low/\F2 r.Ap/\F2 r.Ak):=by
 unfold Yy;simp only[jn_eq];have e:∀ g:Ql,Jc g 2=some (!decide (g.N.length<=2/\g.D.length<=2)):=λg=>Qfi g 2;simp only[e,sbind];by_cases a:r.Tol.N.length<=2/\r.Tol.D.length<=2
 case neg=>rw[oo a];exact⟨true,rfl,λh=>by cases h⟩
 by_cases d:r.Aq.N.length<=2/\r.Aq.D.length<=2
 case neg=>rw[oj a,oo d];exact⟨true,rfl,λh=>by cases h⟩
 by_cases f:r.Low.N.length<=2/\r.Low.D.length<=2
 case neg=>rw[oj a,oj d,oo f];exact⟨true,rfl,λh=>by cases h⟩
 by_cases i:r.Ap.N.length<=2/\r.Ap.D.length<=2
 case neg=>rw[oj a,oj d,oj f,oo i];exact⟨true,rfl,λh=>by cases h⟩
 by_cases j:r.Ak.N.length<=2/\r.Ak.D.length<=2
 case neg=>rw[oj a,oj d,oj f,oj i,oo j];exact⟨true,rfl,λh=>by cases h⟩
 rw[oj a,oj d,oj f,oj i,oj j];exact⟨false,rfl,λ_=>⟨a,d,f,i,j⟩⟩
theorem Qvi{n:Nat}{k:Jw}(x:big<=n):∃ v,Wx n k=some v/\(v=false->TskL k):=by
 unfold Wx;simp only[jn_eq];have e:∀ g:Ql,Jc g 2=some (!decide (g.N.length<=2/\g.D.length<=2)):=λg=>Qfi g 2;obtain⟨v,q,A⟩:=Qmu (p:=k.G9) (a:=10) (b:=4) (k:=2) x oy oy;rw[show((10:Nat):Int)=10 from rfl,show((4:Nat):Int)=4 from rfl,show((2:Nat):Int)=2 from rfl] at q;obtain⟨w,B,C⟩:=Qvh (r:=k.Ab);obtain⟨u,s,E⟩:=Qan (l:=k.Y) (many:=4) (k:=2) x oy;rw[show((4:Nat):Int)=4 from rfl,show((2:Nat):Int)=2 from rfl] at s;simp only[q,B,s,e,sbind];cases v
 case true=>exact⟨true,rfl,λh=>by cases h⟩
 rw[bifF];by_cases c1:(300:Int)<k.G9.Ac
 . rw[oj c1];exact⟨true,rfl,λh=>by cases h⟩
 rw[oo c1,bifF];cases w
 case true=>exact⟨true,rfl,λh=>by cases h⟩
 rw[bifF]
 have fin:(k.Ab.Ai<=12\/200<k.Ab.Ai)->∃ v,(bif !decide (k.Ah.N.length<=2/\k.Ah.D.length<=2) then some true else bif !decide (k.Ar.N.length<=2/\k.Ar.D.length<=2) then some true else bif !decide (k.Aj.N.length<=2/\k.Aj.D.length<=2) then some true else some u)=some v/\(v=false->TskL k):=λF=>by
  by_cases d:k.Ah.N.length<=2/\k.Ah.D.length<=2
  case neg=>rw[oo d];exact⟨true,rfl,λh=>by cases h⟩
  by_cases f:k.Ar.N.length<=2/\k.Ar.D.length<=2
  case neg=>rw[oj d,oo f];exact⟨true,rfl,λh=>by cases h⟩
  by_cases i:k.Aj.N.length<=2/\k.Aj.D.length<=2
  case neg=>rw[oj d,oj f,oo i];exact⟨true,rfl,λh=>by cases h⟩
  rw[oj d,oj f,oj i];exact⟨u,rfl,λh=>⟨A rfl,C rfl,F,d,f,i,E h⟩⟩
 by_cases j:(12:Int)<k.Ab.Ai
 . rw[oj j,bifT]
   by_cases m:k.Ab.Ai<=200
   . rw[oj m];exact⟨true,rfl,λh=>by cases h⟩
   rw[oo m,bifF];exact fin (.inr om)
 . rw[oo j,bifF]
   exact fin (.inl om)
theorem Q9y{k:Jw}(m:Qc3 k)(h:TskL k):TskW (tK k):=by obtain⟨d,e,f,i,j,l,_⟩:=m;obtain⟨A,B,C,E,F,_⟩:=e;obtain⟨l1,q,r,s,w⟩:=h.r;refine⟨(Q9u (bits:=k.G9.Ac) d oy h.p).mono oy,λx a=>?_,Fk_tF f h.s,Fk_tF i h.e,Fk_tF j h.f,FR_tF l h.y⟩;rcases xj.1 a with rfl | a;exact Fk_tF A l1;rcases xj.1 a with rfl | a;exact Fk_tF B q;rcases xj.1 a with rfl | a;exact Fk_tF C r;rcases xj.1 a with rfl | a;exact Fk_tF E s;rw[xl.1 a];exact Fk_tF F w
theorem Qy5{n:Nat}{k:Jw}(a:big<=n)(h:TskL k):Zo n k=some (tK k):=by obtain⟨⟨m,q,t3⟩,⟨s1,l,e,f,i,j⟩,d⟩:=h.p;have s:=h.y.1;unfold Zo Qa8 J2;rw[Qy3 a om om om (by have:=e.1;omega) (by have:=f.1;omega) (by have:=i.1;omega) (λr hr=>by have:=(j r hr).1;omega) (by have:=d.1;omega),sbind];simp only[sbind];rw[Qcc a om,sbind];rfl
set_option maxRecDepth 100000
theorem Qla{p:Qe}{T H:Rat}{Y:List Rat}{f}(h:stepQ p T H Y=.inl f):f.Ad≠0:=by unfold stepQ at h;split at h;exact Q70 h;cases h;show(2:Int)≠0;decide
def AChn(p:Qe):Rat->List Rat->List TryA->Rat->List Rat->Prop
 | T,Y,[],E,Z=>E=T/\Z=Y
 | T,Y,t::l,E,Z=>t.T=T/\t.Y=Y/\0<t.H/\t.H<=t.Al/\0<=t.Err.num.sign /\
   match t.Ok with
   | true=>∃ z,stepQ p T t.H Y=.inr z/\normQ z.err=t.Err/\AChn p (T+t.H) z.next l E Z
   | false=>AChn p T Y l E Z
theorem Jb0{T E W:Rat}(a:T<=E)(d:T≠E)(e:0<W):0<cutQ T E W/\cutQ T E W<=W/\T+cutQ T E W<=E:=by have f:T<E:=Rat.lt_iff_le_and_ne.2 ⟨a,d⟩;unfold cutQ;split;rename_i h;have:=sg_gt.1 h;refine⟨?_,?_,?_⟩<;>grind;rename_i h;have:=Rat.not_lt.1 λg=>h (sg_gt.2 g);refine⟨e,?_,?_⟩<;>grind
theorem Qpg{p:Qe}{r:Q7}{E:Rat}(hr:RulR r):∀(m:Nat) (a:List TryA) (T:Rat) (Y:List Rat) (W:Rat),T<=E->0<W ->
 ∃ l,(adaptQ p r E m a T Y W).1.1=a++l/\AChn p T Y l (adaptQ p r E m a T Y W).1.2.1 (adaptQ p r E m a T Y W).1.2.2/\((adaptQ p r E m a T Y W).2.Ad=0->(adaptQ p r E m a T Y W).1.2.1=E)
 | 0,a,T,Y,W,i,w=>by
   unfold adaptQ;split
   . rename_i h;exact⟨[],(yj _).symm,⟨rfl,rfl⟩,λ_=>h⟩
   . exact⟨[],(yj _).symm,⟨rfl,rfl⟩,λh=>absurd h (show ¬(5:Int)=0 by decide)⟩
 | m+1,a,T,Y,W,i,w=>by
   by_cases h:T=E
   . simp only[adaptQ,oi h]
     exact⟨[],(yj _).symm,⟨rfl,rfl⟩,λ_=>h⟩
   simp only[adaptQ,oh h];cases dP (underQ r W)
   case true=>exact⟨[],(yj _).symm,⟨rfl,rfl⟩,λh=>absurd h (show ¬(4:Int)=0 by decide)⟩
   rw[bifF];cases hs:stepQ p T (cutQ T E W) Y with
   | inl f=>exact⟨[],(yj _).symm,⟨rfl,rfl⟩,λh=>absurd h (show ¬ f.Ad=0 from Qla hs)⟩
   | inr z=>
     obtain⟨c1,s,A⟩:=Jb0 i h w;have e:=Rat.mul_pos c1 (Q4f hr (normQ z.err));have d:0<=(normQ z.err).num.sign:=Int.sign_nonneg_iff.2 (Q71 _);simp only[];cases x:dP (accQ r (normQ z.err)) with
     | true=>
       obtain⟨l,l1,j,q⟩:=Qpg (p:=p) (E:=E) hr m (a++[tryA r E T Y W z]) (T+cutQ T E W) z.next (cutQ T E W*factorQ r (normQ z.err)) A e
       refine⟨tryA r E T Y W z::l,by rw[bifT,bifT,l1,xb];rfl,⟨rfl,rfl,c1,s,d,?_⟩,q⟩;rw[show(tryA r E T Y W z).Ok=true from x];exact⟨z,hs,rfl,j⟩
     | false=>
       obtain⟨l,l1,j,q⟩:=Qpg (p:=p) (E:=E) hr m (a++[tryA r E T Y W z]) T Y (cutQ T E W*factorQ r (normQ z.err)) i e;refine⟨tryA r E T Y W z::l,by rw[bifF,bifF,l1,xb];rfl,⟨rfl,rfl,c1,s,d,?_⟩,q⟩;rw[show(tryA r E T Y W z).Ok=false from x];exact j
def accA(l:List TryA):List TryA:=l.filter (·.Ok)
theorem Jb1{t:TryA}{l:List TryA}(h:t.Ok=true):accA (t::l)=t::accA l:=by unfold accA;rw[List.filter_cons,oi h]
theorem Jb2{t:TryA}{l:List TryA}(h:t.Ok=false):accA (t::l)=accA l:=by unfold accA;rw[List.filter_cons,oh (by rw[h];decide)]
set_option maxRecDepth 100000
theorem Qvj{n k:Nat}{h:Qp}(d:big<=n)(f:1<=k)(hk:k<1099511627776)(r:h.Aa.length<=1000000)(w:∀ t∈h.Aa,FT k t)(m:Fk k h.T)(q:FR k h.Y)(a:h.Y.length<=1000000):
 Qf8 n h=some (((okT h.Aa).map nT).map (·.T)++[toF (fv h.T)],((okT h.Aa).map nT).map (·.Y)++[toR (rv h.Y)]):=by
 have s:=Qki h.Aa;unfold Qf8;rw[Qgh d f hk r w,sbind];generalize j:(okT h.Aa).map nT=A;have l:A.length<=1000000:=by rw[<-j,xr];omega
 rw[X8 (λi=>((A.take i).map (·.T),(A.take i).map (·.Y))) A];rw[yr];show((Jy n h.T).bind _)=_;rw[Ju d (Fk_Fw m om),sbind,K0 oe oe,sbind,Qh0 d f hk q a,sbind,K0 oe oe,sbind];intro i x e;have hi:=Ke e;rw[K0 oe oe,sbind,K0 oe oe,sbind,Qau (·.T) e,Qau (·.Y) e];rfl
theorem Qvk{n k:Nat}{h:Qp}(q:big<=n)(d:1<=k)(hk:k<1099511627776)(l:h.Aa.length<=1000000)(r:∀ t∈h.Aa,FT k t):Qf7 n h=some (toR (szs h)):=by
 have m:=Qki h.Aa;unfold Qf7;rw[Qgh q d hk l r,sbind];have e:toR (szs h)=((okT h.Aa).map nT).map (·.H):=by unfold toR szs;rw[uc,uc];rfl
 rw[e];generalize f:(okT h.Aa).map nT=A;have j:A.length<=1000000:=by rw[<-f,xr];omega
 rw[X8 (λi=>(A.take i).map (·.H)) A];rw[yr];rfl;intro i x a;have hi:=Ke a;rw[K0 oe oe,sbind,Qau (·.H) a];rfl
theorem okT_A(a:List TryA):okT (a.map toTryA)=(accA a).map toTryA:=by unfold okT accA;rw[List.filter_map];rfl
theorem FT_A{d:Nat}{t:TryA}(h:TA 4000 d t)(hd:d<=1000):FT 4000 (toTryA t):=⟨Kx (Q75 h),Kx h.y,by show(toR t.Y).length<=_;rw[Q3,h.l];omega⟩
theorem Qvl{p:Qe}{r:Q7}{E:Rat}:∀(m:Nat) (d:List TryA) (T:Rat) (Y:List Rat) (W:Rat),(adaptQ p r E m d T Y W).2.Ad=0->(adaptQ p r E m d T Y W).2=⟨0,0,0,0⟩
 | 0,d,T,Y,W,h=>by
   by_cases a:T=E
   . simp only[adaptQ,oi a]
   . simp only[adaptQ,oh a] at h;exact absurd h oy
 | m+1,d,T,Y,W,h=>by
   by_cases a:T=E
   . simp only[adaptQ,oi a]
   simp only[adaptQ,oh a] at h |-;cases e:dP (underQ r W)
   case true=>rw[e] at h;exact absurd h (show ¬(4:Int)=0 by decide)
   rw[e,bifF] at h;rw[bifF];cases hs:stepQ p T (cutQ T E W) Y with
   | inl f=>rw[hs] at h;exact absurd h (show ¬ f.Ad=0 from Qla hs)
   | inr z=>
     rw[hs] at h;exact Qvl m _ _ _ _ h
set_option maxRecDepth 100000
theorem Q76{f:Qc}(h:¬ f.Ad=0):Qo f ⟨0,0,0,0⟩=false:=Qya h
set_option maxRecDepth 100000
def toTryAr(t:TryA):Qh4:=⟨rF t.T,rF t.Al,rF t.H,rF t.Err,rR t.Y,t.Ok⟩
set_option maxRecDepth 100000
def canF(x:Qa):Prop:=x=toF (fv x)
theorem Ql4{n k:Nat}{l:List (List Qa)}(j:big<=n)(hk:k<1099511627776)(h:∀ r∈l,FR k r):Qaq n l=some (dP (∀ r∈l,∀ x∈r,canF x)):=by
 classical
 unfold Qaq;rw[Xy (λ_ (r:List Qa)=>∀ x∈r,canF x) (r:=false),Qdd];by_cases g:∀ r∈l,∀ x∈r,canF x;rw[oi g,dP_t g];rw[oh g,dP_f g];intro i r hr;have d:=h r (Je hr)
 have key:((rangeL (λ(_:Nat) (f:Qa) (_:Unit)=>
  (Vq n f).bind λe=>
  bif !e then (
   some (Lp.out (Lp.out (false))))
  else (
   some (Lp.go ()))) r 0 ()).bind (lpK λ(_:Unit)=>
 some (Lp.go ())))=if (∀(i:Nat) x,r[i]?=some x->canF x) then (some (Lp.go ()):Option (Lp Unit Bool)) else some (Lp.out false):=by refine Xy (λ_ (x:Qa)=>canF x) r (λi x m=>?_);rw[Qi8 j (Fk_Fw (d x (Je m)) om),sbind];exact⟨λa=>by rw[oj (show x=toF (fv x) from a)];rfl,λa=>by rw[oo (show ¬ x=toF (fv x) from a)];rfl⟩
 rw[Qdd] at key;exact⟨λg=>by rw[key,oi g],λg=>by rw[key,oh g]⟩
def nextT(h:Qp)(i:Nat):Qa:=match h.Aa[i+1]? with | some u=>u.T | none=>h.T
def nextY(h:Qp)(i:Nat):List Qa:=match h.Aa[i+1]? with | some u=>u.Y | none=>h.Y
structure Qjc(h:Qp):Prop where
 c:(∀ t∈h.Aa,∀ r∈[[t.T,t.Al,t.H,t.Err],t.Y],∀ x∈r,canF x)/\∀ r∈[[h.T],h.Y],∀ x∈r,canF x
 l:(∀ t∈h.Aa,t.Y.length=h.Y.length)/\1<=h.Y.length/\h.Y.length<=6
 m:h.Aa.length<=200
 s:∀ t∈h.Aa,0<fv t.Al/\0<fv t.H/\fv t.H<=fv t.Al/\0<=fv t.Err
 n:∀(i:Nat) t,h.Aa[i]?=some t->(t.Ok=true->fv (nextT h i)=fv t.T+fv t.H)/\(t.Ok=false->fv (nextT h i)=fv t.T/\rv (nextY h i)=rv t.Y)
theorem Qjd{n k:Nat}{h:Qp}(d:big<=n)(f:1<=k)(hk:k<100000000)(X:h.Aa.length<=1000000)(m:∀ t∈h.Aa,FT k t)(M:Fk k h.T)(N:FR k h.Y)(R:h.Y.length<=1000000):
 Qdx n h=some (dP (Qjc h)):=by
 classical
 have pk:∀ t∈h.Aa,Fk k t.T/\Fk k t.Al/\Fk k t.H/\Fk k t.Err:=λt j=>by have g:=(m t j).1;exact⟨g _ oa,g _ oa,g _ oa,g _ oa⟩
 unfold Qdx Qit;have eP:Qf2 n h=some (dP ((∀ t∈h.Aa,∀ r∈[[t.T,t.Al,t.H,t.Err],t.Y],∀ x∈r,canF x)/\∀ r∈[[h.T],h.Y],∀ x∈r,canF x)):=by
  unfold Qf2
  rw[Xy (λ_ (t:Qv)=>∀ r∈[[t.T,t.Al,t.H,t.Err],t.Y],∀ x∈r,canF x) (r:=false),Qdd,Ql4 (k:=k) d om (λr hr=>by
   rcases xj.1 hr with rfl | hr
   . intro x T;rw[xl.1 T];exact M
   . rw[xl.1 hr];exact N),sbind]
  . by_cases g:∀ t∈h.Aa,∀ r∈[[t.T,t.Al,t.H,t.Err],t.Y],∀ x∈r,canF x
    . rw[oi g];exact Qw2 ⟨λa=>⟨g,a⟩,λa=>a.2⟩
    . rw[oh g,dP_f λa=>g a.1]
  . intro i t hi
    have j:=Je hi
    have e:Qaq n [[t.T,t.Al,t.H,t.Err],t.Y]=some (dP (∀ r∈[[t.T,t.Al,t.H,t.Err],t.Y],∀ x∈r,canF x)):=Ql4 (k:=k) d om (λr hr=>by
     rcases xj.1 hr with rfl | hr
     . exact(m t j).1
     . rw[xl.1 hr];exact(m t j).2.1)
    unfold Yc;rw[sbind,e,sbind];exact⟨λg=>by rw[dP_t g];rfl,λg=>by rw[dP_f g];rfl⟩
 have eL:Qdw h=some (dP ((∀ t∈h.Aa,t.Y.length=h.Y.length)/\1<=h.Y.length/\h.Y.length<=6)):=by
  unfold Qdw;simp only[jn_eq];rw[Xy (λ_ (t:Qv)=>t.Y.length=h.Y.length) (r:=false),Qdd]
  . by_cases g:∀ t∈h.Aa,t.Y.length=h.Y.length
    . rw[oi g]
      by_cases g1:(1:Int)<=(h.Y.length:Int)
      . rw[oj g1,bifT];exact Qby ⟨λa=>⟨g,om,om⟩,λa=>by have:=a.2.2;omega⟩
      . rw[oo g1,bifF,dP_f λa=>g1 (by have:=a.2.1;omega)]
    . rw[oh g,dP_f λa=>g a.1]
  . intro i t hi
    exact⟨λg=>by rw[oj om];rfl,λg=>by rw[oo om];rfl⟩
 have eS:Qf3 n h=some (dP (∀ t∈h.Aa,0<fv t.Al/\0<fv t.H/\fv t.H<=fv t.Al/\0<=fv t.Err)):=by
  unfold Qf3;simp only[jn_eq];rw[Xy (λ_ (t:Qv)=>0<fv t.Al/\0<fv t.H/\fv t.H<=fv t.Al/\0<=fv t.Err) (r:=false),Qdd]
  . by_cases g:∀ t∈h.Aa,0<fv t.Al/\0<fv t.H/\fv t.H<=fv t.Al/\0<=fv t.Err
    . rw[oi g,dP_t g]
    . rw[oh g,dP_f g]
  . intro i t hi
    obtain⟨B,F,q,Q⟩:=pk t (Je hi);rw[Xx (k:=k) d f om F,sbind,Xx (k:=k) d f om q,sbind,Xa (k:=k) d f om q F,sbind,Xx (k:=k) d f om Q,sbind];by_cases c1:(fv t.Al).num.sign<=0
    . rw[oj c1];exact⟨λg=>absurd (Qjb.2 g.1) om,λ_=>rfl⟩
    rw[oo c1];by_cases I:(fv t.H).num.sign<=0
    . rw[oj I];exact⟨λg=>absurd (Qjb.2 g.2.1) om,λ_=>rfl⟩
    rw[oo I];by_cases J:0<(fv t.H - fv t.Al).num.sign
    . rw[oj J];exact⟨λg=>absurd (sg_le.2 g.2.2.1) om,λ_=>rfl⟩
    rw[oo J];by_cases L:(fv t.Err).num.sign<0
    . rw[oj L];exact⟨λg=>absurd (Qx9.2 g.2.2.2) om,λ_=>rfl⟩
    rw[oo L];exact⟨λ_=>rfl,λg=>absurd ⟨Qjb.1 om,Qjb.1 om,sg_le.1 om,Qx9.1 om⟩ g⟩
 have eC:Qf4 n h=some (dP (∀(i:Nat) t,h.Aa[i]?=some t->(t.Ok=true->fv (nextT h i)=fv t.T+fv t.H)/\(t.Ok=false->fv (nextT h i)=fv t.T/\rv (nextY h i)=rv t.Y))):=by
  unfold Qf4 Qgq;simp only[jn_eq];rw[Xy (λi (t:Qv)=>(t.Ok=true->fv (nextT h i)=fv t.T+fv t.H)/\(t.Ok=false->fv (nextT h i)=fv t.T/\rv (nextY h i)=rv t.Y)) (r:=false)]
  . by_cases g:∀(i:Nat) t,h.Aa[i]?=some t->(t.Ok=true->fv (nextT h i)=fv t.T+fv t.H)/\(t.Ok=false->fv (nextT h i)=fv t.T/\rv (nextY h i)=rv t.Y)
    . rw[oi g,dP_t g]
    . rw[oh g,dP_f g]
  . intro i t hi
    have S:=Ke hi;obtain⟨B,F,q,Q⟩:=pk t (Je hi);have pY:=(m t (Je hi)).2.1;have E:=Zt (qw_fv B f) (qw_fv q f)
    have core:∀(a:Qa) (y:List Qa),Fk k a->FR k y->∀(K:Bool->Option (Lp Unit Bool)),
     ((bif t.Ok then (K4 n t.T t.H).bind λV=>(Xh n a V).bind λW=>some W else (Xh n a t.T).bind λG=>bif G then (Qej n y t.Y).bind λH=>some H else some false).bind K)=K (dP ((t.Ok=true->fv a=fv t.T+fv t.H)/\(t.Ok=false->fv a=fv t.T/\rv y=rv t.Y))):=λa y O U K=>by
     cases Y:t.Ok with
     | true=>
       rw[bifT,K5 (k:=k) d f om B q,sbind,Qbm (k:=k+k+1) d om om (Kq O om) (Qz E),sbind,sbind,Qu,decP];congr 1;exact dP_c ⟨λg=>⟨λ_=>g,(λC=>by cases C)⟩,λg=>g.1 rfl⟩
     | false=>
       rw[bifF,Qbm (k:=k) d f om O B,sbind];by_cases c:fv a=fv t.T
       . rw[oj c,bifT,Qp1 (k:=k) d f om U pY,sbind,sbind,decP]
         congr 1;exact dP_c ⟨λg=>⟨(λC=>by cases C),λ_=>⟨c,g⟩⟩,λg=>(g.2 rfl).2⟩
       . rw[oo c,bifF,sbind,dP_f λg=>c (g.2 rfl).1]
    have fin:∀ P:Prop,((P->(λs:Bool=>bif !s then some (Lp.out false) else some (Lp.go ()):Bool->Option (Lp Unit Bool)) (dP P)=some (.go ()))/\(¬ P->(λs:Bool=>bif !s then some (Lp.out false) else some (Lp.go ()):Bool->Option (Lp Unit Bool)) (dP P)=some (.out false))):=λP=>⟨λg=>by rw[dP_t g];rfl,λg=>by rw[dP_f g];rfl⟩
    rw[w1 om];by_cases c:i+1<h.Aa.length
    . have l:h.Aa[i+1]?=some h.Aa[i+1]:=ol c
      have j:=wb c;generalize h.Aa[i+1]=u at l j;have eT:nextT h i=u.T:=by unfold nextT;rw[l]
      have eY:nextY h i=u.Y:=by unfold nextY;rw[l]
      rw[oj (show((i+1:Nat):Int)<(h.Aa.length:Int) by omega),bifT,Kj l,sbind,sbind,core u.T u.Y (pk u j).1 (m u j).2.1,eT,eY];exact fin _
    . have l:h.Aa[i+1]?=none:=xn om
      have eT:nextT h i=h.T:=by unfold nextT;rw[l]
      have eY:nextY h i=h.Y:=by unfold nextY;rw[l]
      rw[oo (show ¬((i+1:Nat):Int)<(h.Aa.length:Int) by omega),bifF,core h.T h.Y M N,eT,eY];exact fin _
 rw[eP,sbind,bifnP];by_cases g1:(∀ t∈h.Aa,∀ r∈[[t.T,t.Al,t.H,t.Err],t.Y],∀ x∈r,canF x)/\∀ r∈[[h.T],h.Y],∀ x∈r,canF x
 case neg=>rw[oh g1,sbind,dP_f λa=>g1 a.c];rfl
 rw[oi g1,eL,sbind,bifnP];by_cases w:(∀ t∈h.Aa,t.Y.length=h.Y.length)/\1<=h.Y.length/\h.Y.length<=6
 case neg=>rw[oh w,sbind,dP_f λa=>w a.l];rfl
 rw[oi w];by_cases g3:(200:Int)<(h.Aa.length:Int)
 . rw[oj g3,bifT,sbind,dP_f λa=>by have:=a.m;omega];rfl
 rw[oo g3,bifF,eS,sbind,bifnP];by_cases g4:∀ t∈h.Aa,0<fv t.Al/\0<fv t.H/\fv t.H<=fv t.Al/\0<=fv t.Err
 case neg=>rw[oh g4,sbind,dP_f λa=>g4 a.s];rfl
 rw[oi g4,eC,sbind,bifnP];by_cases A:∀(i:Nat) t,h.Aa[i]?=some t->(t.Ok=true->fv (nextT h i)=fv t.T+fv t.H)/\(t.Ok=false->fv (nextT h i)=fv t.T/\rv (nextY h i)=rv t.Y)
 . rw[oi A,sbind,dP_t ⟨g1,w,om,g4,A⟩];rfl
 . rw[oh A,sbind,dP_f λa=>A a.n];rfl
set_option maxRecDepth 100000
noncomputable def alongQ(p:Qe)(V:List Rat):List Qv->Nat->List Rat->Qc ⊕ List (List Rat)
 | [],_,_=>.inr []
 | t::l,i,U=>match tiltQ p (fv t.T) (fv t.H) (rv t.Y) U V with
   | .inl f=>.inl ⟨f.Ad,((i+1:Nat):Int),f.Am,f.At⟩
   | .inr z=>match alongQ p V l (i+1) z.2.1 with
     | .inl f=>.inl f
     | .inr r=>.inr (z.2.1::r)
def AlR(p:Qe)(h:Qp):Prop:=prbR p/\Qjc h/\(h.Y.length:Int)=p.Tape.Ae
noncomputable def nodesQ(p:Qe)(h:Qp)(U V:List Rat):Qc ⊕ List (List Rat):=
 @ite _ (AlR p h/\U.length=h.Y.length/\V.length=p.P.length) (Classical.propDecidable _) (alongQ p V ((okT h.Aa).map nT) 0 U) (.inl ⟨2,0,0,0⟩)
theorem Qvm{p:Qe}{V:List Rat}(a:∀(t:Qv) (U:List Rat) f,tiltQ p (fv t.T) (fv t.H) (rv t.Y) U V=.inl f->f.Ad≠0):∀ {l:List Qv}{i:Nat}{U:List Rat}{f},alongQ p V l i U=.inl f->f.Ad≠0
 | [],i,U,f,h=>by simp only[alongQ] at h;cases h
 | t::l,i,U,f,h=>by
   simp only[alongQ] at h;cases hs:tiltQ p (fv t.T) (fv t.H) (rv t.Y) U V with
   | inl g=>rw[hs] at h;cases h;exact a t U g hs
   | inr z=>
     rw[hs] at h;simp only[] at h;cases hr:alongQ p V l (i+1) z.2.1 with
     | inl g=>rw[hr] at h;cases h;exact Qvm a hr
     | inr r=>rw[hr] at h;cases h
theorem Q6i{p:Qe}{T H:Rat}{Y U V:List Rat}{f}(h:tiltQ p T H Y U V=.inl f):f.Ad≠0:=by
 unfold tiltQ at h;cases hs:stepQ p T H Y with
 | inl g=>
   rw[hs] at h;simp only[] at h;split at h;cases h;show(2:Int)≠0;decide;cases h;exact Qla hs
 | inr z=>
   rw[hs] at h;simp only[] at h;split at h;cases h;show(2:Int)≠0;decide;cases hd:tdoQ p.Tape p.G8 (limQ p.Ac) T H U V (rv p.P) z.ys with
   | inr w=>rw[hd] at h;cases h
   | inl g=>
     rw[hd] at h;cases h;unfold tdoQ at hd;have st:∀ {r:List ((List Rat×Rat)×List Rat)}{i:Nat}{k}{e:Qc},tstagesQ p.Tape (limQ p.Ac) T H U V (rv p.P) r i k=.inl e->e.Ad≠0:=by
      intro r
      induction r with
      | nil=>intro i k e h;simp only[tstagesQ] at h;cases h
      | cons x r j=>
        intro i k e h;simp only[tstagesQ] at h;cases s:tstageQ p.Tape (limQ p.Ac) T H U V (rv p.P) x.2 x.1.1 x.1.2 i k with
        | inr w=>rw[s] at h;exact j h
        | inl g=>
          rw[s] at h;cases h;unfold tstageQ at s;split at s;cases s;show(6:Int)≠0;decide;cases a:pfieldQ p.Tape (limQ p.Ac) (T+H*x.1.2) x.2 (rv p.P) 0 (fromQ H U x.1.1 k) V with
          | inr q=>rw[a] at s;cases s
          | inl q=>
            rw[a] at s;cases s;have:=Qrl a;show q.1≠0;omega
     cases d:tstagesQ p.Tape (limQ p.Ac) T H U V (rv p.P) (List.zip (pairQ p.G8) z.ys) 0 [] with
     | inl e=>rw[d] at hd;cases hd;exact st d
     | inr k=>
       rw[d] at hd;simp only[] at hd;unfold tendQ at hd;split at hd;cases hd;show(6:Int)≠0;decide;split at hd;cases hd;show(6:Int)≠0;decide;cases hd
theorem Q77{k:Nat}{t:Qv}(h:FT k t):Fk k t.T/\Fk k t.H/\FR k t.Y:=⟨h.1 t.T oa,h.1 t.H oa,h.2.1⟩
theorem FT_nT{k:Nat}{t:Qv}(e:1<=k)(h:FT k t):FT k (nT t):=by obtain⟨a,b,c⟩:=h;refine⟨λx d=>?_,Kx (QR_rv b e),by show(toR (rv t.Y)).length<=_;rw[Q3,Q4];exact c⟩;have g:∀ y∈[t.T,t.Al,t.H,t.Err],Fk k (toF (fv y)):=λy f=>Qz (qw_fv (a y f) e);rcases xj.1 d with rfl | d;exact g t.T oa;rcases xj.1 d with rfl | d;exact g t.Al oa;rcases xj.1 d with rfl | d;exact g t.H oa;rw[xl.1 d];exact g t.Err oa
theorem Qtw{n k:Nat}{p:Qe}{h:Qp}{u v:List Qa}(q:big<=n)(h0:129<=k)(hk:k<8000)(S:PrbW k p)(hl:h.Aa.length<=1000)(H:∀ t∈h.Aa,FT k t)(hT:Fk k h.T)(hY:FR k h.Y)(hYl:h.Y.length<=1000)(R:FR k u)(_:u.length<=1000)(hv:FR k v):
 Qez n p h u v=some (match nodesQ p h (rv u) (rv v) with | .inl f=>([],f) | .inr r=>(toRR (rv u::r),⟨0,0,0,0⟩))/\∀ r,nodesQ p h (rv u) (rv v)=.inr r->∀ a∈r,QR 129 a/\a.length<=6:=by
 have hle:=Qki h.Aa;unfold Qez Qas nodesQ;simp only[jn_eq];rw[Qgu q h0 hk S,Qjd q om om om H hT hY om,Q4,Q4];have noR:¬(AlR p h/\u.length=h.Y.length/\v.length=p.P.length)->∀ r,@ite (Qc ⊕ List (List Rat)) (AlR p h/\u.length=h.Y.length/\v.length=p.P.length) (Classical.propDecidable _) (alongQ p (rv v) ((okT h.Aa).map nT) 0 (rv u)) (.inl ⟨2,0,0,0⟩)=.inr r->∀ a∈r,QR 129 a/\a.length<=6:=λg r hr=>by rw[oh g] at hr;cases hr
 by_cases c1:prbR p
 case neg=>
  have g:¬(AlR p h/\u.length=h.Y.length/\v.length=p.P.length):=λg=>c1 g.1.1;exact⟨by rw[oh g,sbind,dP_f c1];rfl,noR g⟩
 by_cases e:Qjc h
 case neg=>
  have g:¬(AlR p h/\u.length=h.Y.length/\v.length=p.P.length):=λg=>e g.1.2.1;exact⟨by rw[oh g,sbind,dP_t c1,bifT,sbind,dP_f e];rfl,noR g⟩
 by_cases m:(h.Y.length:Int)=p.Tape.Ae
 case neg=>
  have g:¬(AlR p h/\u.length=h.Y.length/\v.length=p.P.length):=λg=>m g.1.2.2;exact⟨by rw[oh g,sbind,dP_t c1,bifT,sbind,dP_t e,bifT,oo m];rfl,noR g⟩
 by_cases N:u.length=h.Y.length
 case neg=>
  have g:¬(AlR p h/\u.length=h.Y.length/\v.length=p.P.length):=λg=>N g.2.1;exact⟨by rw[oh g,sbind,dP_t c1,bifT,sbind,dP_t e,bifT,oj m,sbind,oo (show ¬(u.length:Int)=(h.Y.length:Int) by omega)];rfl,noR g⟩
 by_cases O:v.length=p.P.length
 case neg=>
  have g:¬(AlR p h/\u.length=h.Y.length/\v.length=p.P.length):=λg=>O g.2.2;exact⟨by rw[oh g,sbind,dP_t c1,bifT,sbind,dP_t e,bifT,oj m,sbind,oj (show(u.length:Int)=(h.Y.length:Int) by omega),oo (show ¬(v.length:Int)=(p.P.length:Int) by omega)];rfl,noR g⟩
 rw[oi ⟨⟨c1,e,m⟩,N,O⟩,sbind,dP_t c1,bifT,sbind,dP_t e,bifT,oj m,sbind,oj (show(u.length:Int)=(h.Y.length:Int) by omega),oj (show(v.length:Int)=(p.P.length:Int) by omega)];simp only[ot,bifF];rw[Zw q,sbind,Xf q om om (Qz (by rw[Ql3];omega)) R om,sbind,Qu,Qof,Qgh q om om om H,sbind]
 have Q:∀ t∈(okT h.Aa).map nT,FT k t/\t.Y.length<=6:=λt C=>by obtain⟨x,I,rfl⟩:=xa.1 C;have s:=(wh.1 I).1;refine⟨FT_nT om (H x s),?_⟩;show(toR (rv x.Y)).length<=6;rw[Q3,Q4,e.l.1 x s];exact e.l.2.2
 have F:((okT h.Aa).map nT).length<=1000:=by rw[xr];omega
 generalize (okT h.Aa).map nT=A at Q F
 have key:∀(l:List Qv) (i:Nat) (U:List Rat) (B:List (List Rat)) (K:(List Qa)×(List (List Qa))->Option ((List (List Qa))×Qc)),(∀ t∈l,FT k t/\t.Y.length<=6)->QR k U->i+l.length<=1000->B.length<=i+1 ->
  ((rangeL (λ(i32:Nat) (j:Qv) (w:(List Qa)×(List (List Qa)))=>
    (Qbi n p j.T j.H j.Y w.1 v).bind λd=>
    bif !(Qo d.2 (⟨0,0,0,0⟩:Qc)) then (
     some (Lp.out ((([]:List (List Qa)),(⟨d.2.Ad,wrap64 ((i32:Int)+(1:Int)),d.2.Am,d.2.At⟩:Qc)))))
    else (
     (appM 24 w.2 ([d.1.Next]:List (List Qa))).bind λL=>
     some (Lp.go (d.1.Next,L)))) l i (toR U,toRR B)).bind (lpK K)=match alongQ p (rv v) l i U with | .inl f=>some ([],f) | .inr r=>K (toR (r.getLastD U),toRR (B++r)))/\∀ r,alongQ p (rv v) l i U=.inr r->∀ a∈r,QR 129 a/\a.length<=6:=by
  intro l
  induction l with
  | nil=>
    intro i U B K _ _ _ _;simp only[alongQ,rangeL];exact⟨by rw[yj];rfl,λr hr=>by cases hr;exact λ_ h=>by cases h⟩
  | cons t l ih=>
    intro i U B K C hU hi hB;rw[ow] at hi;obtain⟨Z,fl⟩:=C t (.head _);obtain⟨X,Y,f3⟩:=Q77 Z;obtain⟨P,T,V⟩:=Qsj (t:=t.T) (h:=t.H) (y:=t.Y) (u:=toR U) (v:=v) q h0 hk S X Y f3 (Kx hU) hv;rw[Vf] at P T V;simp only[alongQ,rangeL];rw[P,sbind];cases hs:tiltQ p (fv t.T) (fv t.H) (rv t.Y) U (rv v) with
    | inl f=>
      have hf:=T f hs;obtain⟨a1,a2,a3,a4⟩:=f;simp only[];rw[Jt hf,ov,bifT,sbind,w1 om];exact⟨rfl,λr hr=>by cases hr⟩
    | inr z=>
      obtain⟨_,M,b2,_⟩:=V z hs;simp only[];rw[Jv,ot,bifF,K0 (by rw[Vi];simp;omega) (by rw[Vi];simp;omega),sbind,sbind];have W:toRR B++[toR z.2.1]=toRR (B++[z.2.1]):=by unfold toRR;rw[xu];rfl
      simp only[];rw[W];obtain⟨E,i2⟩:=ih (i+1) z.2.1 (B++[z.2.1]) K (λx I=>C x (.tail _ I)) (Ja M h0) om oe;cases hr:alongQ p (rv v) l (i+1) z.2.1 with
      | inl f=>
        rw[hr] at E;exact⟨E,λr h=>by cases h⟩
      | inr r=>
        rw[hr] at E;refine⟨?_,λr' h'=>?_⟩
        . refine E.trans ?_
          simp only[];rw[xb,List.getLastD_cons];rfl
        . cases h'
          intro a G;rcases xj.1 G with rfl | G
          . exact⟨M,om⟩
          . exact i2 r hr a G
 obtain⟨k1,k2⟩:=key A 0 (rv u) [rv u] (λJ=>some (J.2,(⟨0,0,0,0⟩:Qc))) Q (QR_rv R om) om oa;refine⟨?_,k2⟩;refine k1.trans ?_;cases alongQ p (rv v) A 0 (rv u)<;>rfl
theorem Qtx{α:Type}:∀(r:List α) (u:α),(u::r)[r.length]?=some (r.getLastD u)
 | [],u=>rfl
 | x::r,u=>by rw[List.getLastD_cons];exact Qtx r x
theorem Qrn{n k:Nat}{p:Qe}{h:Qp}{u v:List Qa}(J:big<=n)(h0:129<=k)(hk:k<8000)(M:PrbW k p)(H:h.Aa.length<=1000)(K:∀ t∈h.Aa,FT k t)(F:Fk k h.T)(G:FR k h.Y)(s:h.Y.length<=1000)(B:FR k u)(q:u.length<=1000)(L:FR k v):
 Yn n p h u v=some (match nodesQ p h (rv u) (rv v) with | .inl f=>([],f) | .inr r=>(toR (r.getLastD (rv u)),⟨0,0,0,0⟩))/\(∀ f,nodesQ p h (rv u) (rv v)=.inl f->f.Ad≠0)/\∀ r,nodesQ p h (rv u) (rv v)=.inr r->QR k (r.getLastD (rv u))/\r.length<=1000/\(r.getLastD (rv u)).length<=1000:=by
 obtain⟨C,E⟩:=Qtw J h0 hk M H K F G s B q L;unfold Yn;rw[C,sbind]
 have x:∀ f,nodesQ p h (rv u) (rv v)=.inl f->f.Ad≠0:=λf a=>by unfold nodesQ at a;split at a;exact Qvm (λt U f h=>Q6i h) a;cases a;show(2:Int)≠0;decide
 have j:∀ {l:List Qv}{i:Nat}{U:List Rat}{r},alongQ p (rv v) l i U=.inr r->r.length=l.length:=by
  intro l
  induction l with
  | nil=>intro i U r h;simp only[alongQ] at h;cases h;rfl
  | cons t l N=>
    intro i U r h;simp only[alongQ] at h;cases hs:tiltQ p (fv t.T) (fv t.H) (rv t.Y) U (rv v) with
    | inl g=>rw[hs] at h;cases h
    | inr z=>
      rw[hs] at h;simp only[] at h;cases hr:alongQ p (rv v) l (i+1) z.2.1 with
      | inl g=>rw[hr] at h;cases h
      | inr r=>rw[hr] at h;cases h;simp[N hr]
 cases d:nodesQ p h (rv u) (rv v) with
 | inl f=>
   have a:=x f d;refine⟨?_,λg w=>by cases w;exact a,λr hr=>by cases hr⟩;obtain⟨a1,a2,a3,a4⟩:=f;simp only[];rw[Jt a,ov,bifT]
 | inr r=>
   have I:=E r d;have hr:r.length<=1000:=by unfold nodesQ at d;split at d;have:=j d;rw[xr] at this;have:=Qki h.Aa;omega;cases d
   have hlast:QR k (r.getLastD (rv u))/\(r.getLastD (rv u)).length<=1000:=by have m:=yb (Qtx r (rv u));rcases xj.1 m with e | e;rw[e];exact⟨QR_rv B om,by rw[Q4];exact q⟩;obtain⟨a1,a2⟩:=I _ e;exact⟨Ja a1 h0,om⟩
   refine⟨?_,(λg w=>by cases w),λO A=>by cases A;exact⟨hlast.1,hr,hlast.2⟩⟩;simp only[];rw[Jv,ot,bifF,Vi,ow,w64 om om,show((r.length+1:Nat):Int) - 1=(r.length:Int) by omega,Kj (show(toRR (rv u::r))[r.length]?=some (toR (r.getLastD (rv u))) by unfold toRR;rw[xy,Qtx];rfl),sbind]
theorem Q78{q:Rat}:q.num.sign<=0↔¬ 0<q:=by
 rw[Rat.not_lt,<-Int.not_lt,Int.sign_pos_iff];have h:=Rat.num_nonneg (q:=-q);have e:(-q).num=-q.num:=Qrz q;have a:0<=-q↔q<=0:=by grind
 rw[<-a,<-h,e];omega
set_option maxRecDepth 100000
def addAt(l:List Rat)(a:Int)(c:Rat):List Rat:=l.set a.toNat (l.getD a.toNat 0+c)
theorem Qh9{l:List Rat}{a:Int}{c:Rat}:(addAt l a c).length=l.length:=vk
theorem Q0z(l:List Qa)(i:Nat)(x:Qa):rv (l.set i x)=(rv l).set i (fv x):=by unfold rv;rw[List.map_set]
theorem Q2z(l:List Rat)(i:Nat)(x:Rat):(toR l).set i (toF x)=toR (l.set i x):=by unfold toR;rw[List.map_set]
theorem Q00{k:Nat}{l:List Qa}{i:Nat}{x:Qa}(h:FR k l)(d:Fk k x):FR k (l.set i x):=λy a=>by rcases List.mem_or_eq_of_mem_set a with a | rfl;exact h y a;exact d
theorem Q6j{k:Nat}{l:List Rat}{i:Nat}{x:Rat}(h:QR k l)(d:qw x<=k):QR k (l.set i x):=λy a=>by rcases List.mem_or_eq_of_mem_set a with a | rfl;exact h y a;exact d
theorem Qgv{l:List Qa}{i:Nat}{x:Qa}(h:l[i]?=some x):(rv l).getD i 0=fv x:=by rw[oq];unfold rv;rw[xy,h];rfl
theorem Qw8{α:Type}{l:List α}{a:Int}(h0:0<=a)(d:a<(l.length:Int)):∃ x,l[a.toNat]?=some x/\getI l a=some x:=by
 obtain⟨i,rfl⟩:∃ i:Nat,a=(i:Int):=⟨a.toNat,om⟩
 have hi:i<l.length:=om
 exact⟨l[i],by rw[yz];exact ol hi,Qeo hi⟩
structure BkS where
 co:List Rat
 T:Rat
 Y:List Rat
 P:List Rat
def Qc1(x:Qt)(c r:Rat)(vs:List Rat)(s:BkS):BkS:=
 if c=0 then s else
 if x.Op=2 then ⟨s.co,s.T+c,s.Y,s.P⟩ else
 if x.Op=3 then ⟨s.co,s.T,addAt s.Y x.A c,s.P⟩ else
 if x.Op=4 then ⟨s.co,s.T,s.Y,addAt s.P x.A c⟩ else
 if x.Op=6 then ⟨addAt s.co x.A (-c),s.T,s.Y,s.P⟩ else
 if x.Op=7 then ⟨addAt (addAt s.co x.A c) x.B c,s.T,s.Y,s.P⟩ else
 if x.Op=8 then ⟨addAt (addAt s.co x.A c) x.B (-c),s.T,s.Y,s.P⟩ else
 if x.Op=9 then ⟨addAt (addAt s.co x.A (c*vs.getD x.B.toNat 0)) x.B (c*vs.getD x.A.toNat 0),s.T,s.Y,s.P⟩ else
 if x.Op=10 then ⟨addAt (addAt s.co x.A (c / vs.getD x.B.toNat 0)) x.B (-(c / vs.getD x.B.toNat 0*r)),s.T,s.Y,s.P⟩ else
 if x.Op=11 then ⟨addAt s.co x.A (c*((x.B:Rat)*turnQ (vs.getD x.A.toNat 0) r x.B)),s.T,s.Y,s.P⟩ else s
theorem Qph{x:Qt}{c r:Rat}{vs:List Rat}{s:BkS}:(Qc1 x c r vs s).co.length=s.co.length/\(Qc1 x c r vs s).Y.length=s.Y.length/\(Qc1 x c r vs s).P.length=s.P.length:=by
 unfold Qc1
 repeat' split
 all_goals simp[Qh9]
theorem Qmw{n b kc:Nat}{t:Qk}{done co gY gP:List Qa}{gT cF:Qa}{a:Int}(F:big<=n)(l:1<=kc)(hb:b+kc<1000000000)(f:FR b co)(i:Fk kc cF)(h0:0<=a)(E:a<(co.length:Int)):
 ∃ d,Q8 n t done co gT gY gP a cF=some (t,done,gT,d)/\rv d=addAt (rv co) a (fv cF)/\FR (b+kc+1) d/\d.length=co.length:=by
 obtain⟨x,g1,C⟩:=Qw8 h0 E;have j:=f x (yb g1);have H:=Zt (qw_fv (Kq j (show b<=b+kc by omega)) om) (qw_fv i l);have r:qw (fv x+fv cF)<=b+kc+1:=by
  by_cases q:1<=b
  . exact Zt (qw_fv j q) (qw_fv i l)
  . have m:b=0:=om
    subst m;have e:fv x=0:=by obtain⟨_,x2,_,x4⟩:=j;obtain⟨⟨G,s⟩,w⟩:=x;have A:s=[]:=xm (by simpa using x2);have B:w=[]:=xm (by simpa using x4);subst A;subst B;cases G<;>decide +kernel
    rw[e,Rat.zero_add];have:=qw_fv i l;omega
 unfold Q8;rw[C,sbind,K5 (k:=b+kc) F om om (Kq j om) (Kq i om),sbind,sbind];refine⟨_,rfl,?_,Q00 (K9 f om) (Qz r),vk⟩;rw[Q0z,Qu];unfold addAt;rw[Qgv g1]
structure BkW(b:Nat)(co:List Qa)(s:BkS):Prop where
 c:rv co=s.co
 k:FR b co
 t:qw s.T<=b
 y:QR b s.Y
 p:QR b s.P
theorem BkW.mono{b a:Nat}{co:List Qa}{s:BkS}(h:BkW b co s)(hb:b<=a):BkW a co s:=⟨h.c,K9 h.k hb,xx h.t hb,Ja h.y hb,Ja h.p hb⟩
theorem Q01{b kc:Nat}{l:List Rat}{a:Int}{c:Rat}(hb:1<=b)(h:QR b l)(d:qw c<=kc):QR (b+kc+1) (addAt l a c):=
 Q6j (Ja h om) (Zt (Xg h hb) d)
theorem Q02{n b:Nat}{t:Qk}{x:Qt}{i:Nat}{vs:List Rat}{co:List Qa}{s:BkS}(m:big<=n)(hb1:129<=b)(hb:b<100000000)(hw:BkW b co s)(hx:t.Code[i]?=some x)(V:mayR t i x)
 (hv:QR 129 vs) (hvl:i<vs.length) (hcl:co.length=vs.length) (B:qw (s.co.getD i 0)<=129) (hy:(s.Y.length:Int)=t.Ae) (hp:(s.P.length:Int)=t.Ao) :
 ∃ d,Wv n t (toR vs) co (toF s.T) (toR s.Y) (toR s.P) (i:Int)=some (t,toR vs,toF (Qc1 x (s.co.getD i 0) (vs.getD i 0) vs s).T,d,toR (Qc1 x (s.co.getD i 0) (vs.getD i 0) vs s).Y,toR (Qc1 x (s.co.getD i 0) (vs.getD i 0) vs s).P)/\BkW (b+3000) d (Qc1 x (s.co.getD i 0) (vs.getD i 0) vs s)/\d.length=co.length:=by
 obtain⟨w1,X,w3,R,S⟩:=hw;have rd:=Qob V;have hrow:vs[i]?=some vs[i]:=ol hvl;obtain⟨cF,N⟩:∃ cF,co[i]?=some cF:=⟨co[i]' om,ol _⟩
 have ec:s.co.getD i 0=fv cF:=by rw[<-w1];exact Qgv N
 rw[ec] at B |-;have kcF:Fk b cF:=X cF (yb N);have dA:x.Op=6\/x.Op=11\/x.Op=7\/x.Op=8\/x.Op=9\/x.Op=10->0<=x.A/\x.A<(i:Int):=λh=>rd _ (rdT_A h);have dB:x.Op=7\/x.Op=8\/x.Op=9\/x.Op=10->0<=x.B/\x.B<(i:Int):=λh=>rd _ (rdT_B h);have gA:x.Op=6\/x.Op=11\/x.Op=7\/x.Op=8\/x.Op=9\/x.Op=10->getI (toR vs) x.A=some (toF (vs.getD x.A.toNat 0)):=λh=>Qde (dA h).1 (by have:=(dA h).2;omega);have gB:x.Op=7\/x.Op=8\/x.Op=9\/x.Op=10->getI (toR vs) x.B=some (toF (vs.getD x.B.toNat 0)):=λh=>Qde (dB h).1 (by have:=(dB h).2;omega);have gI:getI (toR vs) (i:Int)=some (toF (vs.getD i 0)):=by
  have:=Qde (l:=vs) (r:=(i:Int)) om om;rwa [yz] at this
 have qA:qw (vs.getD x.A.toNat 0)<=129:=Xg hv oy;have qB:qw (vs.getD x.B.toNat 0)<=129:=Xg hv oy;have qI:qw (vs.getD i 0)<=129:=Xg hv oy;unfold Wv Qc1;rw[Kj hx,sbind,Kj N,sbind,Xx (k:=b) m om om kcF,sbind];simp only[bifd];have sg:(fv cF).num.sign=0↔fv cF=0:=by rw[wc,Rat.num_eq_zero]
 by_cases c0:fv cF=0
 . rw[oi (sg.2 c0),oi c0]
   exact⟨co,rfl,⟨w1,K9 X om,om,Ja R om,Ja S om⟩,rfl⟩
 rw[oh λg=>c0 (sg.1 g),oh c0];generalize vs.getD x.A.toNat 0=va at gA qA |-;generalize vs.getD x.B.toNat 0=vb at gB qB |-;generalize vs.getD i 0=vi at gI qI |-;have kc2:Fk 129 (toF (fv cF)):=Qz B;have kmono:FR (b+3000) co:=K9 X om;by_cases o2:x.Op=2
 . simp only[oi o2]
   have M:=Zt w3 B;rw[K5 (k:=b) m om om (Qz w3) kcF,sbind,Qu];exact⟨co,rfl,⟨w1,kmono,by show qw (s.T+fv cF)<=_;omega,Ja R om,Ja S om⟩,rfl⟩
 simp only[oh o2];by_cases o3:x.Op=3
 . simp only[oi o3]
   obtain⟨a1,a2⟩:=Qu5 V o3;have q0:=Xg (i:=x.A.toNat) R om;rw[Qde a1 om,sbind,K5 (k:=b) m om om (Qz q0) kcF,sbind,sbind,Qu,Q2z];exact⟨co,rfl,⟨w1,kmono,by show qw s.T<=_;omega,Ja (Q01 om R B) om,Ja S om⟩,rfl⟩
 simp only[oh o3];by_cases o4:x.Op=4
 . simp only[oi o4]
   obtain⟨a1,a2⟩:=Qu6 V o4;have q0:=Xg (i:=x.A.toNat) S om;rw[Qde a1 om,sbind,K5 (k:=b) m om om (Qz q0) kcF,sbind,sbind,Qu,Q2z];exact⟨co,rfl,⟨w1,kmono,by show qw s.T<=_;omega,Ja R om,Ja (Q01 om S B) om⟩,rfl⟩
 simp only[oh o4];have wrap:∀ {d:List Qa}{l:List Rat}{k:Nat},rv d=l->FR k d->k<=b+3000->BkW (b+3000) d ⟨l,s.T,s.Y,s.P⟩:=λe hk hle=>⟨e,K9 hk hle,by show qw s.T<=_;omega,Ja R om,Ja S om⟩
 have one:∀(a:Int) (q:Rat) (H:Nat),0<=a->a<(i:Int)->qw q<=H->1<=H->H<=1300->∃ d,Q8 n t (toR vs) co (toF s.T) (toR s.Y) (toR s.P) a (toF q)=some (t,toR vs,toF s.T,d)/\rv d=addAt s.co a q/\FR (b+H+1) d/\d.length=co.length:=λa q H h0 h1 M O hk2=>by obtain⟨d,A,C,F,I⟩:=Qmw (n:=n) (t:=t) (done:=toR vs) (gT:=toF s.T) (gY:=toR s.Y) (gP:=toR s.P) m O om X (Qz M) h0 om;rw[Qu,w1] at C;exact⟨d,A,C,F,I⟩
 have two:∀(a T:Int) (q q':Rat) (H K:Nat),0<=a->a<(i:Int)->qw q<=H->1<=H->H<=1300->0<=T->T<(i:Int)->qw q'<=K->1<=K->K<=1300->∃ f d,Q8 n t (toR vs) co (toF s.T) (toR s.Y) (toR s.P) a (toF q)=some (t,toR vs,toF s.T,f)/\Q8 n t (toR vs) f (toF s.T) (toR s.Y) (toR s.P) T (toF q')=some (t,toR vs,toF s.T,d)/\BkW (b+3000) d ⟨addAt (addAt s.co a q) T q',s.T,s.Y,s.P⟩/\d.length=co.length:=λa T q q' H K h0 h1 M O hk2 h0' h1' hq' Z hk2'=>by
  obtain⟨f,A,C,F,I⟩:=one a q H h0 h1 M O hk2;obtain⟨d,J,E,f3,f4⟩:=Qmw (n:=n) (t:=t) (done:=toR vs) (gT:=toF s.T) (gY:=toR s.Y) (gP:=toR s.P) (a:=T) m Z om F (Qz hq') h0' om;rw[Qu,C] at E;exact⟨f,d,A,J,wrap E f3 om,om⟩
 have send0:∀(a:Int),0<=a->a<(i:Int)->∃ d,Q8 n t (toR vs) co (toF s.T) (toR s.Y) (toR s.P) a cF=some (t,toR vs,toF s.T,d)/\rv d=addAt s.co a (fv cF)/\FR (b+129+1) d/\d.length=co.length:=λa h0 h1=>by obtain⟨y,g1,g2⟩:=Qw8 (l:=co) h0 om;have G:=X y (yb g1);have M:=Zt (qw_fv G om) B;unfold Q8;rw[g2,sbind,K5 (k:=b) m om om G kcF,sbind,sbind];refine⟨_,rfl,?_,Q00 (K9 X om) (Qz M),vk⟩;rw[Q0z,Qu,<-w1];unfold addAt;rw[Qgv g1]
 have send1:∀ {f:List Qa}{U:Nat}(a:Int),b<=U->U<200000000->FR U f->f.length=co.length->0<=a->a<(i:Int)->∃ d,Q8 n t (toR vs) f (toF s.T) (toR s.Y) (toR s.P) a cF=some (t,toR vs,toF s.T,d)/\rv d=addAt (rv f) a (fv cF)/\FR (U+129+1) d/\d.length=co.length:=fun {f U} a hb0 hb2 hk hl h0 h1=>by obtain⟨y,g1,g2⟩:=Qw8 (l:=f) h0 om;have G:=hk y (yb g1);have M:=Zt (qw_fv G om) B;unfold Q8;rw[g2,sbind,K5 (k:=U) m om om G (Kq kcF hb0),sbind,sbind];refine⟨_,rfl,?_,Q00 (K9 hk om) (Qz M),by rw[vk];exact hl⟩;rw[Q0z,Qu];unfold addAt;rw[Qgv g1]
 by_cases o6:x.Op=6
 . simp only[oi o6]
   obtain⟨d,A,C,F,I⟩:=one x.A (-fv cF) 129 (dA om).1 (dA om).2 (by rw[Qkg];exact B) oy oy;rw[Qcb m (Fk_Fw kcF om),sbind,A,sbind];exact⟨d,rfl,wrap C F om,I⟩
 simp only[oh o6];by_cases o7:x.Op=7
 . simp only[oi o7]
   obtain⟨f,A,C,F,I⟩:=send0 x.A (dA om).1 (dA om).2;obtain⟨d,J,E,f3,f4⟩:=send1 x.B om om F I (dB om).1 (dB om).2;rw[C] at E;rw[A,sbind];simp only[];rw[J,sbind];exact⟨d,rfl,wrap E f3 om,f4⟩
 simp only[oh o7];by_cases o8:x.Op=8
 . simp only[oi o8]
   obtain⟨f,A,C,F,I⟩:=send0 x.A (dA om).1 (dA om).2;obtain⟨d,J,E,f3,f4⟩:=Qmw (n:=n) (t:=t) (done:=toR vs) (gT:=toF s.T) (gY:=toR s.Y) (gP:=toR s.P) (a:=x.B) (cF:=toF (-fv cF)) (kc:=129) m oy om F (Qz (by rw[Qkg];exact B)) (dB om).1 (by have:=(dB om).2;omega);rw[C,Qu] at E;rw[A,sbind,Qcb m (Fk_Fw kcF om),sbind];simp only[];rw[J,sbind];exact⟨d,rfl,wrap E f3 om,om⟩
 simp only[oh o8];by_cases o9:x.Op=9
 . simp only[oi o9]
   have W:=Xi B qB;have q2:=Xi B qA;obtain⟨f,d,A,J,E,f3⟩:=two x.A x.B (fv cF*vb) (fv cF*va) 258 258 (dA om).1 (dA om).2 W oy oy (dB om).1 (dB om).2 q2 oy oy;rw[gB om,sbind,K6 (k:=b) m om om kcF (Qz om),sbind,Qu,A,sbind];simp only[];rw[gA om,sbind,K6 (k:=b) m om om kcF (Qz om),sbind,Qu,J,sbind];exact⟨d,rfl,E,f3⟩
 simp only[oh o9];by_cases o10:x.Op=10
 . simp only[oi o10]
   unfold Qco;have W:=Ql0 B qB;have q2:=Xi W qI;have q3:qw (-(fv cF / vb*vi))<=387:=by rw[Qkg];omega
   obtain⟨f,d,A,J,E,f3⟩:=two x.A x.B (fv cF / vb) (-(fv cF / vb*vi)) 258 387 (dA om).1 (dA om).2 W oy oy (dB om).1 (dB om).2 q3 oy oy;have j:∃ ok,Xz n cF (toF vb)=some (toF (fv cF / vb),ok):=by
    rw[Qav (k:=b) m om om kcF (Qz om),Qu];by_cases P:vb=0
    . rw[oi P,P,show fv cF / 0=0 by rw[Rat.div_def,Rat.inv_zero,Rat.mul_zero]];exact⟨_,rfl⟩
    . rw[oh P];exact⟨_,rfl⟩
   obtain⟨ok,j⟩:=j;rw[gI,sbind,gB om,sbind,j,sbind];simp only[];rw[A,sbind,K6 (k:=258) m om om (Qz om) (Qz om),sbind,Qu,Qu,Qcb m (Fk_Fw (Qz (k:=387) om) om),sbind,Qu];simp only[];rw[J,sbind,sbind];exact⟨d,rfl,E,f3⟩
 simp only[oh o10];by_cases Q:x.Op=11
 . simp only[oi Q]
   unfold Qcp;simp only[jn_eq,bifd];have hB8:x.B.natAbs<=8:=by unfold mayR at V;rw[oh (show ¬ x.Op=1 by omega),oh (show ¬ x.Op=2 by omega),oh (show ¬ x.Op=3 by omega),oh (show ¬ x.Op=4 by omega),oh (show ¬ x.Op=6 by omega),oi Q] at V;have Y:=V.2.2;omega
   have qi:=Q0u (z:=x.B) hB8
   have key:∀ w:Rat,qw w<=1100->turnQ va vi x.B=w->∃ d,((Jj n x.B).bind λr22=>(Ki n r22 (toF w)).bind λr24=>(Ki n cF r24).bind λr26=>(Q8 n t (toR vs) co (toF s.T) (toR s.Y) (toR s.P) x.A r26).bind λL=>(some (L.1,L.2.1,L.2.2.1,L.2.2.2):Option (Qk×List Qa×Qa×List Qa)))=some (t,toR vs,toF s.T,d)/\BkW (b+3000) d ⟨addAt s.co x.A (fv cF*((x.B:Rat)*turnQ va vi x.B)),s.T,s.Y,s.P⟩/\d.length=co.length:=λw hw e=>by
    have W:=Xi qi hw;have q2:=Xi B W;obtain⟨d,A,C,F,I⟩:=one x.A (fv cF*((x.B:Rat)*w)) 1230 (dA om).1 (dA om).2 om oy oy;rw[Qd7 m om om,sbind,K6 (k:=1200) m om om (Qz om) (Qz om),sbind,Qu,Qu,K6 (k:=b+1200) m om om (Kq kcF om) (Qz om),sbind,Qu,A,sbind,e];exact⟨d,rfl,wrap C F om,I⟩
   rw[gI,sbind,Wr m,sbind];by_cases h0:0<x.B
   . have hw1:=Qr1 qA (e:=x.B - 1) om
     obtain⟨d,k1,k2,k3⟩:=key (va ^ (x.B - 1)) om (by unfold turnQ;rw[oi h0]);rw[oi h0,gA om,sbind,w64 om om,Qhs (k:=129) m om om (Qz qA),sbind,Qu,oh (show ¬(x.B - 1 < -8\/8<x.B - 1\/(x.B - 1<0/\va=0)) by omega)];simp only[];rw[k1,sbind];exact⟨d,rfl,k2,k3⟩
   . rw[oh h0]
     by_cases Y:x.B<0
     . have hw1:=Ql0 qI qA
       have j:∃ ok,Xz n (toF vi) (toF va)=some (toF (vi / va),ok):=by
        rw[Qav (k:=129) m om om (Qz om) (Qz om),Qu,Qu];by_cases P:va=0
        . rw[oi P,P,show vi / 0=0 by rw[Rat.div_def,Rat.inv_zero,Rat.mul_zero]];exact⟨_,rfl⟩
        . rw[oh P];exact⟨_,rfl⟩
       obtain⟨ok,j⟩:=j;obtain⟨d,k1,k2,k3⟩:=key (vi / va) om (by unfold turnQ;rw[oh h0,oi Y]);rw[oi Y,gA om,sbind,j,sbind];simp only[];rw[k1,sbind];exact⟨d,rfl,k2,k3⟩
     . obtain⟨d,k1,k2,k3⟩:=key 0 (by rw[Qaa];omega) (by unfold turnQ;rw[oh h0,oh Y])
       rw[oh Y,k1,sbind];exact⟨d,rfl,k2,k3⟩
 simp only[oh Q];exact⟨co,rfl,⟨w1,kmono,om,Ja R om,Ja S om⟩,rfl⟩
end Go.Proofs.YtmnalemmhfjacaaGreatDoor
