import Derived.Test.YtbdgngdpkdagoaaGreatDoorP1
namespace Go.Proofs.YtbdgngdpkdagoaaGreatDoor
open Go Go.RowKit
def sumQ(l:List Rat):Rat:=l.foldl (λo x=>o+x) 0
theorem Qtc{k:Nat}:∀ {l:List Rat}{b:Nat}{z:Rat},QR k l->qw z<=b->qw (l.foldl (λo x=>o+x) z)<=b+l.length*(k+1)
 | [],b,z,_,h=>by simpa using h
 | x::l,b,z,a,h=>by rw[dr];have:=Qtc (l:=l) (λq d=>a q (.tail _ d)) (Zx h (a x (.head _)));rw[xn,uz];omega
theorem Qvl{n k:Nat}{a:List Qa}(hn:big<=n)(m:1<=k)(hk:k<1048576)(e:FR k a)(s:a.length<=1000):Qfb n a=some (toF (sumQ (rv a))):=by
 unfold Qfb;rw[Zp hn,sbind,Zw (λi=>toF ((rv (a.take i)).foldl (λo x=>o+x) 0)) a,Vn,xc];rfl;intro i x d;have hi:=Kc d;have f:a.take (i+1)=a.take i++[x]:=by rw[vn,d];rfl
 have j:rv (a.take (i+1))=rv (a.take i)++[fv x]:=by unfold rv;rw[f,xw];rfl
 have hb:=Qtc (l:=rv (a.take i)) (b:=1) (z:=0) (QR_rv (λy q=>e y (ym q)) m) (by rw[Zo];exact xr _);have r:(rv (a.take i)).length*(k+1)<=1000*1048576:=gv (by rw[Ji];simp;omega) om;rw[Wo (k:=2000000000) hn om om (Jq om) (Wg (e x (Jm d)) om),sbind,j,List.foldl_append,Jf];rfl;rfl
def numR(x:Qa):Prop:=x=toF (fv x)/\qz (fv x)<=190
theorem Jns{n k:Nat}{x:Qa}(hn:big<=n)(hk:k<1048576)(a:Fk k x):
 ((Z9 n x).bind λd=>bif !d then some true else (Qa8 n x).bind λf=>some (decide ((190:Int)<f)))=some (!dP (numR x)):=by
 rw[Qqa hn (Fk_Fw a om),sbind,@decP _ (Classical.propDecidable _),bifnP];unfold numR;by_cases h:x=toF (fv x)
 . have j:qw (fv x)<1099511627776:=by
    rcases gn k with h0 | h0
    . subst h0
      have:=qw_fv (Wg a (show 0<=1 by omega)) (xr 1);omega
    . have:=qw_fv a h0;omega
   have e:Qa8 n x=some (qz (fv x):Int):=by
    conv=>lhs;rw[h]
    exact Qvh hn j
   rw[oq h,e,sbind];by_cases i:qz (fv x)<=190
   . rw[dP_t ⟨h,i⟩,oo om];rfl
   . rw[dP_f λg=>i g.2,ol om];rfl
 . rw[oj h,dP_f λg=>h g.1];rfl
theorem Qqm{n k:Nat}{l:List (List Qa)}(hn:big<=n)(hk:k<1048576)(v:∀ r∈l,FR k r):Qe1 n l=some (dP (∀ r∈l,∀ x∈r,numR x)):=by
 unfold Qe1;rw[Z3 (λ_ (r:List Qa)=>∀ x∈r,numR x) (r:=false)];rw[Qit];by_cases h:∀ r∈l,∀ x∈r,numR x;rw[oq h,dP_t h];rw[oj h,dP_f h];intro i r hr
 have s:(rangeL (λ(_:Nat) (q:Qa) (_:Unit)=>
  jn (λ(a:(Bool)->Option _)=>
   (Z9 n q).bind λd=>
   bif !d then (
    a true)
   else (
    (Qa8 n q).bind λf=>
    a (decide ((190:Int)<f)))) (λ(m:Bool)=>
   bif m then (
    some (Lp.out (Lp.out (false))))
   else (
    some (Lp.go ())))) r 0 ()).bind (lpK λ(_:Unit)=>some (Lp.go ()))=@ite _ (∀ x∈r,numR x) (Classical.propDecidable _) (some (Lp.go ())) (some (Lp.out (σ:=Unit) (τ:=Bool) false)):=by
  rw[Z3 (λ_ (x:Qa)=>numR x) (r:=Lp.out false),Qit];intro j x A;have e:=Jns hn hk (v r (Jm hr) x (Jm A))
  have u:(jn (λ(a:(Bool)->Option (Lp Unit (Lp Unit Bool)))=>
   (Z9 n x).bind λd=>
   bif !d then (
    a true)
   else (
    (Qa8 n x).bind λf=>
    a (decide ((190:Int)<f)))) (λ(m:Bool)=>
   bif m then (
    some (Lp.out (Lp.out (false))))
   else (
    some (Lp.go ()))))=((Z9 n x).bind λd=>bif !d then some true else (Qa8 n x).bind λf=>some (decide ((190:Int)<f))).bind λm=>bif m then (
    some (Lp.out (Lp.out (false))))
   else (
    some (Lp.go ())):=by
   rw[jn_eq];cases Z9 n x with
   | none=>rfl
   | some b=>
     rw[sbind,sbind];cases b;rfl;rw[ou,bifF,bifF];cases Qa8 n x with
     | none=>rfl
     | some z=>rfl
  rw[u,e,sbind];constructor;intro h;rw[dP_t h];rfl;intro h;rw[dP_f h];rfl
 rw[s];constructor;intro h;rw[oq h];intro h;rw[oj h]
def shapeR(s:Qw):Prop:=(1<=s.B.length/\s.B.length<=8)/\s.C.length=s.B.length/\s.A.length=s.B.length/\(s.E.length=s.B.length\/s.E.length=0)/\∀(i:Nat) r,s.A[i]?=some r->r.length=i
theorem Q2y(s:Qw):Qjd s=some (dP (shapeR s)):=by
 unfold Qjd shapeR;simp only[jn_eq,bifd,bifnd];by_cases c1:(s.B.length:Int)<1
 . rw[oq c1,bifT,dP_f om]
 rw[oj c1];by_cases j:(8:Int)<(s.B.length:Int)
 . rw[oq j,bifT,dP_f om]
 rw[oj j];by_cases l:(s.C.length:Int)=(s.B.length:Int)
 case neg=>rw[oj l,bifT,dP_f om]
 rw[oq l];by_cases m:(s.A.length:Int)=(s.B.length:Int)
 case neg=>rw[oj m,bifT,dP_f om]
 rw[oq m]
 have hr:=Z3 (f:=λ(a:Nat) (d:List Qa) (_:Unit)=>bif !decide ((d.length:Int)=(a:Int)) then some (Lp.out false) else some (Lp.go ())) (K:=λ_=>some true) (r:=false) (λi (r:List Qa)=>r.length=i) s.A (λi x A=>by
  constructor
  . intro h;rw[ol om];rfl
  . intro h;rw[oo om];rfl)
 have e:(rangeL (λ(a:Nat) (d:List Qa) (_:Unit)=>if (d.length:Int)=(a:Int) then some (Lp.go ()) else some (Lp.out false)) s.A 0 ()).bind (lpK λ_=>some true)=(rangeL (λ(a:Nat) (d:List Qa) (_:Unit)=>bif !decide ((d.length:Int)=(a:Int)) then some (Lp.out false) else some (Lp.go ())) s.A 0 ()).bind (lpK λ_=>some true):=by simp only[bifnd]
 have fin:(s.E.length=s.B.length\/s.E.length=0)->(rangeL (λ(a:Nat) (d:List Qa) (_:Unit)=>if (d.length:Int)=(a:Int) then some (Lp.go ()) else some (Lp.out false)) s.A 0 ()).bind (lpK λ_=>some true)=some (dP ((1<=s.B.length/\s.B.length<=8)/\s.C.length=s.B.length/\s.A.length=s.B.length/\(s.E.length=s.B.length\/s.E.length=0)/\∀(i:Nat) r,s.A[i]?=some r->r.length=i)):=by
  intro v;rw[e,hr];by_cases h:∀(i:Nat) r,s.A[i]?=some r->r.length=i
  . rw[oq h,dP_t ⟨om,om,om,v,h⟩]
  . rw[oj h,dP_f λg=>h g.2.2.2.2]
 by_cases q:(s.E.length:Int)=(s.B.length:Int)
 . rw[oq q,bifF];exact fin (.inl om)
 . rw[oj q]
   by_cases u:(s.E.length:Int)=0
   . rw[oq u];exact fin (.inr om)
   . rw[oj u,dP_f om]
structure SchW(k:Nat)(s:Qw):Prop where
 a:∀ r∈s.A,FR k r
 b:FR k s.B
 c:FR k s.C
 e:FR k s.E
 n:s.Bb.length<=4611686018427387904
def rowsR(s:Qw):Prop:=∀(i:Nat) r,s.A[i]?=some r->sumQ (rv r)=fv (s.C.getD i ⟨⟨false,[]⟩,[]⟩)
theorem Q37{n k:Nat}{s:Qw}(hn:big<=n)(f:1<=k)(hk:k<1048576)(hs:SchW k s)(e:shapeR s):Qkn n s=some (dP (rowsR s)):=by
 unfold Qkn;obtain⟨⟨g1,v⟩,g3,g4,x,m⟩:=e;rw[Z3 (λi (r:List Qa)=>sumQ (rv r)=fv (s.C.getD i ⟨⟨false,[]⟩,[]⟩)) (r:=false)];unfold rowsR;by_cases h:∀(i:Nat) r,s.A[i]?=some r->sumQ (rv r)=fv (s.C.getD i ⟨⟨false,[]⟩,[]⟩);rw[oq h,dP_t h];rw[oj h,dP_f h];intro i r hr;have hi:=Kc hr;have j:s.C[i]?=some (s.C.getD i ⟨⟨false,[]⟩,[]⟩):=by rw[ot,oi (show i<s.C.length by omega)];rfl
 have a:=hs.a r (Jm hr);have u:=m i r hr;have d:=hs.c _ (Jm j);have hb:=Qtc (l:=rv r) (b:=1) (z:=0) (QR_rv a f) (by rw[Zo];exact xr _);have q:(rv r).length*(k+1)<=8*1048576:=gv (by rw[Ji];omega) om;rw[Qvl hn f hk a om,sbind,Q7 j,sbind,Qj0 (k:=10000000) hn om om (Jq (by unfold sumQ;omega)) (Wg d om),sbind,Jf];constructor;intro h;rw[ol h];rfl;intro h;rw[oo h];rfl
def schR(s:Qw):Prop:=wdB 2 s.Bb=true/\shapeR s/\((∀ r∈s.A,∀ x∈r,numR x)/\∀ r∈[s.B,s.C,s.E],∀ x∈r,numR x)/\rowsR s/\sumQ (rv s.B)=1/\(s.E≠[]->sumQ (rv s.E)=1)
theorem Q9p{n k:Nat}{a:List Qa}(hn:big<=n)(e:1<=k)(hk:k<1048576)(i:FR k a)(q:a.length<=8){β:Type}(f:Bool->Option β):
 ((Qfb n a).bind λd=>(Qa9 n d (toF 1)).bind f)=f (decide (sumQ (rv a)=1)):=by
 have hb:=Qtc (l:=rv a) (b:=1) (z:=0) (QR_rv i e) (by rw[Zo];exact xr _);have j:(rv a).length*(k+1)<=8*1048576:=gv (by rw[Ji];omega) om;have m:qw 1<=10000000:=by unfold qw;rw[show(1:Rat).num=1 from rfl,show(1:Rat).den=1 from rfl,show(1:Int).natAbs=1 from rfl,toL1];omega
 rw[Qvl hn e hk i om,sbind,Qj0 (k:=10000000) hn om om (Jq (by unfold sumQ;omega)) (Jq m),sbind,Jf,Jf]
theorem Q2z{n k:Nat}{s:Qw}(hn:big<=n)(q:1<=k)(hk:k<1048576)(hs:SchW k s):∃ v,Qgv n s=some v/\(v=0↔schR s):=by
 unfold Qgv;rw[Qf0 hn,sbind,Q77 (w:=⟨2,s.Bb,0⟩) hn hs.n,sbind];simp only[];unfold schR;cases F:wdB 2 s.Bb
 . exact⟨1,rfl,oc⟩
 rw[ou,bifF,Q2y,sbind,bifnP];by_cases a:shapeR s
 case neg=>rw[oj a];exact⟨2,rfl,λh=>om,λh=>absurd h.2.1 a⟩
 rw[oq a];have A:=a;obtain⟨⟨g1,B⟩,g3,g4,C,E⟩:=A;simp only[jn_eq];rw[Qqm hn hk hs.a,sbind,bifnP]
 have u:∀ r∈[s.B,s.C,s.E],FR k r:=λr hr=>by
  rcases xu.1 hr with rfl | hr
  . exact hs.b
  rcases xu.1 hr with rfl | hr
  . exact hs.c
  rcases xu.1 hr with rfl | hr
  . exact hs.e
  cases hr
 by_cases f:∀ r∈s.A,∀ x∈r,numR x
 case neg=>rw[oj f,bifT];exact⟨3,rfl,λh=>om,λh=>absurd h.2.2.1.1 f⟩
 rw[oq f,Qqm hn hk u,sbind,bifnP];by_cases i:∀ r∈[s.B,s.C,s.E],∀ x∈r,numR x
 case neg=>rw[oj i];exact⟨3,rfl,λh=>om,λh=>absurd h.2.2.1.2 i⟩
 rw[oq i,Q37 hn q hk hs a,sbind,bifnP];by_cases j:rowsR s
 case neg=>rw[oj j];exact⟨4,rfl,λh=>om,λh=>absurd h.2.2.2.1 j⟩
 rw[oq j,Q9p hn q hk hs.b om,bifnd];by_cases e:sumQ (rv s.B)=1
 case neg=>rw[oj e];exact⟨5,rfl,λh=>om,λh=>absurd h.2.2.2.2.1 e⟩
 rw[oq e,bifd];by_cases m:(0:Int)<(s.E.length:Int)
 . have d:s.E≠[]:=λh=>by rw[h] at m;simp at m
   rw[oq m,Q9p hn q hk hs.e om,bifnd];by_cases l:sumQ (rv s.E)=1
   . rw[oq l];exact⟨0,rfl,λ_=>⟨by trivial,a,⟨f,i⟩,j,e,λ_=>l⟩,λ_=>rfl⟩
   . rw[oj l];exact⟨6,rfl,λh=>om,λh=>absurd (h.2.2.2.2.2 d) l⟩
 . have d:s.E=[]:=xx om
   rw[oj m,bifF];exact⟨0,rfl,λ_=>⟨by trivial,a,⟨f,i⟩,j,e,λh=>absurd d h⟩,λ_=>rfl⟩
theorem Qsk{n k:Nat}{s:Qw}(hn:big<=n)(e:1<=k)(hk:k<1048576)(hs:SchW k s):Qgw n s=some (dP (schR s)):=by obtain⟨v,a,d⟩:=Q2z hn e hk hs;unfold Qgw;rw[a,sbind];exact Qej d
def gapQ(s:Qw):List Rat:=if s.E=[] then [] else addQ (rv s.B) (scaleQ (-1) (rv s.E))
theorem Qvm{n k:Nat}{s:Qw}(hn:big<=n)(d:1<=k)(hk:k<1048576)(hs:SchW k s)(hr:schR s):Qfd n s=some (toR (gapQ s)):=by
 unfold Qfd gapQ;simp only[jn_eq];rw[Qsk hn d hk hs,sbind,dP_t hr,ou,bifF];obtain⟨⟨g1,i⟩,g3,g4,j,l⟩:=hr.2.1;by_cases a:s.E=[]
 rw[oq a,a];rfl;have m:s.E.length≠0:=λh=>a (xx h);have f:qw (((-1:Int):Int):Rat)<=1:=by unfold qw;rw[Rat.num_intCast,Rat.den_intCast,show(-1:Int).natAbs=1 from rfl,toL1];omega
 have e:(((-1:Int):Int):Rat)=-1:=rfl;rw[oj a,oo om,bifF];unfold Qu9;rw[Qma hn oz oz,sbind,Zq (k:=k+1) hn om om (Jq om) (Vf hs.e om) om,sbind,Jf];rw[Qfi (k:=k+1) hn om om (Vf hs.b om) (Vd (Jb (Qkj f (QR_rv hs.e d)) om)) om,sbind,Jj,W6,Ji,oq om,sbind,Wn,e]
theorem Jc9{k:Nat}{s:Qw}(a:1<=k)(hs:SchW k s):QR (2*k+2) (gapQ s):=by
 unfold gapQ;split;intro x d;cases d;have e:qw (-1:Rat)<=1:=by unfold qw;rw[show(-1:Rat).num=-1 from rfl,show(-1:Rat).den=1 from rfl,show(-1:Int).natAbs=1 from rfl,toL1];omega
 exact Jb (Qn0 (QR_rv hs.b a) (Qkj e (QR_rv hs.e a))) om
theorem Qj1{lim:Int}:∀ {l:List Rat}{i j:Nat},fitQ lim l i=some j->j<i+l.length
 | [],i,j,h=>by simp[fitQ] at h
 | q::l,i,j,h=>by simp only[fitQ] at h;split at h;have:=Qj1 h;simp;omega;cases h;simp
structure MadeQ where
 ys:List (List Rat)
 ks:List (List Rat)
 next:List Rat
 err:List Rat
def towQ(H:Rat)(m:Nat)(c:List Rat)(kss:List (List Rat)):List Rat:=scaleQ H (mixQ c kss (List.replicate m 0))
def fromQ(H:Rat)(Y c:List Rat)(kss:List (List Rat)):List Rat:=addQ Y (towQ H Y.length c kss)
def stageQ(t:Qm)(lim:Int)(T H:Rat)(Y P:List Rat)(a:List Rat)(c:Rat)(i:Nat)(kss:List (List Rat)):Qe ⊕ (List Rat×List Rat):=
 match fitQ lim (fromQ H Y a kss) 0 with
 | some j=>.inl ⟨6,0,(i:Int),300+(j:Int)⟩
 | none=>match fieldQ t lim (T+H*c) (fromQ H Y a kss) P with
   | .inl e=>.inl ⟨e.1,0,(i:Int),(e.2:Int)⟩
   | .inr k=>.inr (fromQ H Y a kss,k)
def stagesQ(t:Qm)(lim:Int)(T H:Rat)(Y P:List Rat):List (List Rat×Rat)->Nat->List (List Rat)->List (List Rat)->Qe ⊕ (List (List Rat)×List (List Rat))
 | [],_,yss,kss=>.inr (yss,kss)
 | x::r,i,yss,kss=>match stageQ t lim T H Y P x.1 x.2 i kss with
   | .inl f=>.inl f
   | .inr z=>stagesQ t lim T H Y P r (i+1) (yss++[z.1]) (kss++[z.2])
def endQ(s:Qw)(lim:Int)(H:Rat)(Y:List Rat)(yss kss:List (List Rat)):Qe ⊕ MadeQ:=
 match fitQ lim (fromQ H Y (rv s.B) kss) 0 with
 | some j=>.inl ⟨6,0,(s.B.length:Int),300+(j:Int)⟩
 | none=>match fitQ lim (if gapQ s=[] then [] else towQ H Y.length (gapQ s) kss) 0 with
   | some j=>.inl ⟨6,0,(s.B.length:Int)+1,300+(j:Int)⟩
   | none=>.inr ⟨yss,kss,fromQ H Y (rv s.B) kss,if gapQ s=[] then [] else towQ H Y.length (gapQ s) kss⟩
def doQ(t:Qm)(s:Qw)(lim:Int)(T H:Rat)(Y P:List Rat):Qe ⊕ MadeQ:=
 match stagesQ t lim T H Y P (List.zip (s.A.map rv) (rv s.C)) 0 [] [] with
 | .inl f=>.inl f
 | .inr z=>endQ s lim H Y z.1 z.2
def toRR(l:List (List Rat)):List (List Qa):=l.map toR
theorem Vi(l:List (List Rat)):(toRR l).length=l.length:=by unfold toRR;simp
theorem Qxs(l:List (List Rat)):(toRR l).map rv=l:=by
 unfold toRR;rw[yo]
 conv=>rhs;rw[<-List.map_id l]
 exact vt λq _=>Wn q
theorem Qy6{l:List (List Rat)}{P:List Qa->Prop}(h:∀ a∈l,P (toR a)):∀ a∈toRR l,P a:=λa d=>by obtain⟨q,e,rfl⟩:=xz.1 d;exact h q e
theorem Qmb(m:Nat):QR 1 (List.replicate m 0):=λq a=>by rw[(tb.1 a).2,Zo];exact xr _
theorem Qtd{k m:Nat}{H:Rat}{c:List Rat}{kss:List (List Rat)}(e:qw H<=k)(f:QR k c)(hk:∀ a∈kss,QR 129 a)(i:kss.length<=8)(h0:129<=k):QR (20*k) (towQ H m c kss):=by have d:=Qt7 (z:=List.replicate m 0) f hk (Qmb m);have j:kss.length*(k+129+1)<=8*(k+129+1):=xh _ i;exact Jb (Qkj e d) om
theorem Qq1{k:Nat}{H:Rat}{Y c:List Rat}{kss:List (List Rat)}(e:QR k Y)(d:qw H<=k)(f:QR k c)(hk:∀ a∈kss,QR 129 a)(i:kss.length<=8)(h0:129<=k):QR (22*k) (fromQ H Y c kss):=
 Jb (Qn0 e (Qtd d f hk i h0)) om
theorem Qq2{m:Nat}{H:Rat}{c:List Rat}{kss:List (List Rat)}(hk:∀ a∈kss,a.length=m):(towQ H m c kss).length=m:=by unfold towQ;rw[W6];exact Qg7 hk oc
theorem Qiv{H:Rat}{Y c:List Rat}{kss:List (List Rat)}(hk:∀ a∈kss,a.length=Y.length):(fromQ H Y c kss).length=Y.length:=by unfold fromQ;rw[Zl,Qq2 hk,jy]
section
variable {n k:Nat}{p:Qg}{t h:Qa}{y:List Qa}{g:Qk}{ys ks:List (List Qa)}{nx er:List Qa}
theorem Q3k{c:List Qa}{kss:List (List Rat)}(hn:big<=n)(h0:129<=k)(hk:k<16384)(q:Fk k h)(m:FR k c)(e:∀ a∈kss,QR 129 a)(r:kss.length<=8)(i:c.length=kss.length)(d:∀ a∈kss,a.length=y.length)(v:y.length<=6):
 Xq n p t h y g ys (toRR kss) nx er c=some (toR (towQ (fv h) y.length (rv c) kss)):=by
 unfold Xq;rw[Qt8,Q1h (j:=k) (k:=129) hn om om om om m (Qy6 λa f=>Vd (e a f)) om (by rw[Vi];omega),sbind,oq ⟨by rw[Vi,i],Qy6 λa f=>by rw[Jj];exact d a f⟩];rw[Qxs];have s:=Qt7 (z:=List.replicate y.length 0) (QR_rv m om) e (Qmb y.length);have u:kss.length*(k+129+1)<=8*(k+129+1):=xh _ r;have l:=Qg7 (cs:=rv c) d (show(List.replicate y.length (0:Rat)).length=y.length by simp);rw[Zq (k:=20*k) hn om om (Wg q om) (Vd (Jb s om)) (by rw[Jj,l];omega),sbind,Wn];rfl
theorem Q9q{c:List Qa}{kss:List (List Rat)}(hn:big<=n)(h0:129<=k)(hk:k<16384)(q:Fk k h)(j:FR k y)(l:FR k c)(e:∀ a∈kss,QR 129 a)(r:kss.length<=8)(f:c.length=kss.length)(d:∀ a∈kss,a.length=y.length)(s:y.length<=6):
 Qaw n p t h y g ys (toRR kss) nx er c=some (toR (fromQ (fv h) (rv y) (rv c) kss)):=by
 unfold Qaw;have hb:=Qtd (m:=y.length) (qw_fv q om) (QR_rv l om) e r h0;have i:=Qq2 (H:=fv h) (c:=rv c) d;rw[Q3k hn h0 hk q l e r f d s,sbind,Qfi (k:=20*k) hn om om (Vf j om) (Vd hb) om,sbind,Jj,i,oq rfl,Wn];unfold fromQ;rw[Ji]
theorem Q1k{l:List Rat}{x2:Int}(hn:big<=n)(i:QR 1099511627775 l)(m:l.length<=1000):
 ∃ a,a.limit=g.limit/\Yi n p t h y g ys ks nx er (toR l) x2=some (match fitQ g.limit l 0 with | none=>(⟨0,0,0,0⟩,a) | some j=>(⟨6,0,x2,300+(j:Int)⟩,a)):=by
 obtain⟨a,d,e⟩:=Qt9 (g:=g) hn i;refine⟨a,d,?_⟩;unfold Yi;rw[e,sbind];cases f:fitQ g.limit l 0 with
 | none=>rfl
 | some j=>
   have:=Qj1 f;simp only[ow,bifT];rw[w64 om om]
structure PrbOK(n k:Nat)(p:Qg)(t h:Qa)(y:List Qa):Prop where
 tp:Q1i n k p.Tape
 sw:SchW k p.Av
 sr:schR p.Av
 pk:FR k p.P
 pl:(p.P.length:Int)=p.Tape.A3
 tk:Fk k t
 hk:Fk k h
 yk:FR k y
 yl:(y.length:Int)=p.Tape.A0
def limQ(bits:Int):Int:=min (max bits 0) 4096
theorem Qwp{i:Nat}{c:Qa}(hn:big<=n)(h0:129<=k)(hk:k<16384)(j:Fk k t)(e:Fk k h)(a:Fk k c)(d:p.Av.C[i]?=some c):Qfu n p t h (i:Int)=some (toF (fv t+fv h*fv c)):=by have hi:=Kc d;have f:=X0 (qw_fv e om) (qw_fv a om);unfold Qfu;simp only[jn_eq];rw[oo (show ¬(i:Int)<0 by omega),bifF,oo (show ¬(p.Av.C.length:Int)<=(i:Int) by omega),bifF,Q7 d,sbind,Yc hn om om e a,sbind,Wo (k:=4*k) hn om om (Wg j om) (Jq om),sbind,Jf]
theorem Jhr{i:Nat}{a:List Qa}{c:Qa}{kss:List (List Rat)}(hn:big<=n)(h0:129<=k)(hk:k<16384)(ok:PrbOK n k p t h y)(O:g.limit=limQ p.Ay)
 (C:p.Av.A[i]?=some a) (G:p.Av.C[i]?=some c) (S:ys.length<=8) (u:∀ a∈kss,QR 129 a) (Q:kss.length=i) (s:∀ a∈kss,a.length=y.length) :
 ∃ B,B.limit=g.limit/\∃ r,Qaa n p t h y g ys (toRR kss) nx er (i:Int)=some r /\
   match stageQ p.Tape (limQ p.Ay) (fv t) (fv h) (rv y) (rv p.P) (rv a) (fv c) i kss with
   | .inl f=>r.1=f/\f.Ax≠0
   | .inr z=>r=(⟨0,0,0,0⟩,p,t,h,y,nx,er,B,ys++[toR z.1],toRR (kss++[z.2]))/\QR 129 z.2/\z.2.length=y.length:=by
 obtain⟨⟨U,V⟩,⟨W,X⟩,Z,d6⟩:=ok.tp.r.1;obtain⟨⟨g1,g2⟩,g3,g4,g5,L⟩:=ok.sr.2.1;have hi:=Kc C;have E:=ok.yl;have d:=ok.sw.a a (Jm C);have m:=ok.sw.c c (Jm G);have N:=L i a C;have hb:=Qq1 (QR_rv ok.yk om) (qw_fv ok.hk om) (QR_rv d om) u om h0;have q:=Qiv (H:=fv h) (Y:=rv y) (c:=rv a) (kss:=kss) (by rw[Ji];exact s);rw[Ji] at q;unfold Qaa;rw[Q7 C,sbind,Q9q hn h0 hk ok.hk ok.yk d u om om s om,sbind];obtain⟨B,J,K⟩:=Q1k (p:=p) (t:=t) (h:=h) (y:=y) (g:=g) (ys:=ys) (ks:=toRR kss) (nx:=nx) (er:=er) (x2:=(i:Int)) hn (Jb hb (show 22*k<=1099511627775 by omega)) om;refine⟨B,J,?_⟩;rw[K,sbind,O];unfold stageQ;cases hf:fitQ (limQ p.Ay) (fromQ (fv h) (rv y) (rv a) kss) 0 with
 | some j=>
   simp only[];rw[Ky oz,ow,bifT];exact⟨_,rfl,rfl,oz⟩
 | none=>
   simp only[];rw[Kk,ou,bifF];unfold Qu8;have A:=X0 (qw_fv ok.hk om) (qw_fv m om);have F:=Zx (qw_fv ok.tk om) A;rw[Qwp hn h0 hk ok.tk ok.hk m G,sbind,sbind];have M:=Q78 (k:=22*k) (t:=p.Tape) (p:=⟨toF (fv t+fv h*fv c),toR (fromQ (fv h) (rv y) (rv a) kss),p.P⟩) (bits:=p.Ay) hn om om ⟨ok.tp.r,ok.tp.h,λx R=>Wg (ok.tp.w x R) om⟩ (Jq om) (Vd hb) (Vf ok.pk om) (by simp only[Jj,q];exact E) ok.pl;rw[M,sbind];simp only[];rw[Jf,Wn];have v:limQ p.Ay=min (max p.Ay 0) 4096:=rfl;rw[v];cases I:fieldQ p.Tape (min (max p.Ay 0) 4096) (fv t+fv h*fv c) (fromQ (fv h) (rv y) (rv a) kss) (rv p.P) with
   | inl e=>
     have P:=Qwo I;simp only[];rw[Ky om,ow,bifT];exact⟨_,rfl,rfl,by show e.1≠0;omega⟩
   | inr l=>
     obtain⟨q1,T⟩:=Q1j om I;simp only[];rw[Kk,ou,bifF,J5 oh oh,sbind,J5 (by rw[Vi];simp;omega) (by rw[Vi];simp;omega),sbind];refine⟨_,rfl,?_,T,om⟩;unfold toRR;rw[xw];rfl
end
section
variable {n k:Nat}{p:Qg}{t h:Qa}{y:List Qa}
def pairQ(s:Qw):List (List Rat×Rat):=List.zip (s.A.map rv) (rv s.C)
theorem Q9r{s:Qw}{i:Nat}{a:List Qa}{c:Qa}(e:s.A[i]?=some a)(f:s.C[i]?=some c):(pairQ s).drop i=(rv a,fv c)::(pairQ s).drop (i+1):=by
 have d:(pairQ s)[i]?=some (rv a,fv c):=by unfold pairQ rv;rw[gk];simp only[xm];exact⟨by rw[e];rfl,by rw[f];rfl⟩
 have hi:=Kc d;rw[xe hi];congr 1;rw[oi hi] at d;exact Option.some.inj d
theorem Jln{g:Qk}(hn:big<=n)(h0:129<=k)(hk:k<8000)(ok:PrbOK n k p t h y)(P:g.limit=limQ p.Ay):
 ∃ r,Qes n p t h y g [] [] [] []=some r /\
   match doQ p.Tape p.Av (limQ p.Ay) (fv t) (fv h) (rv y) (rv p.P) with
   | .inl f=>r.1=f/\f.Ax≠0
   | .inr z=>∃ A,r=(⟨0,0,0,0⟩,p,t,h,y,toR z.next,toR z.err,A,toRR z.ys,toRR z.ks)/\z.ys.length=p.Av.B.length/\z.ks.length=p.Av.B.length:=by
 obtain⟨⟨d1,d2⟩,⟨d3,d4⟩,d5,d6⟩:=ok.tp.r.1;obtain⟨⟨g1,g2⟩,g3,g4,L,g6⟩:=ok.sr.2.1;have hyl:=ok.yl;unfold Qes
 have key:∀(F:List Qa) (i:Nat) (g:Qk) (yss kss:List (List Rat)) (K:(Qg×Qa×Qa×(List Qa)×Qk×(List (List Qa))×(List (List Qa))×(List Qa)×(List Qa))->Option (Qe×Qg×Qa×Qa×(List Qa)×(List Qa)×(List Qa)×Qk×(List (List Qa))×(List (List Qa)))),
  i+F.length=p.Av.B.length->yss.length=i->kss.length=i->(∀ a∈kss,QR 129 a)->(∀ a∈kss,a.length=y.length)->g.limit=limQ p.Ay ->
  match stagesQ p.Tape (limQ p.Ay) (fv t) (fv h) (rv y) (rv p.P) ((pairQ p.Av).drop i) i yss kss with
  | .inl f=>∃ r,(rangeL (λ(B:Nat) (_:Qa) (l:Qg×Qa×Qa×(List Qa)×Qk×(List (List Qa))×(List (List Qa))×(List Qa)×(List Qa))=>
  (Qaa n l.1 l.2.1 l.2.2.1 l.2.2.2.1 l.2.2.2.2.1 l.2.2.2.2.2.1 l.2.2.2.2.2.2.1 l.2.2.2.2.2.2.2.1 l.2.2.2.2.2.2.2.2 (B:Int)).bind λe=>
  bif !(Qs e.1 (⟨0,0,0,0⟩:Qe)) then (
   some (Lp.out ((e.1,e.2.1,e.2.2.1,e.2.2.2.1,e.2.2.2.2.1,e.2.2.2.2.2.1,e.2.2.2.2.2.2.1,e.2.2.2.2.2.2.2.1,e.2.2.2.2.2.2.2.2.1,e.2.2.2.2.2.2.2.2.2))))
  else (
   some (Lp.go (e.2.1,e.2.2.1,e.2.2.2.1,e.2.2.2.2.1,e.2.2.2.2.2.2.2.1,e.2.2.2.2.2.2.2.2.1,e.2.2.2.2.2.2.2.2.2,e.2.2.2.2.2.1,e.2.2.2.2.2.2.1)))) F i (p,t,h,y,g,toRR yss,toRR kss,[],[])).bind (lpK K)=some r/\r.1=f/\f.Ax≠0
   | .inr z=>∃ A,A.limit=limQ p.Ay/\(rangeL (λ(B:Nat) (_:Qa) (l:Qg×Qa×Qa×(List Qa)×Qk×(List (List Qa))×(List (List Qa))×(List Qa)×(List Qa))=>
  (Qaa n l.1 l.2.1 l.2.2.1 l.2.2.2.1 l.2.2.2.2.1 l.2.2.2.2.2.1 l.2.2.2.2.2.2.1 l.2.2.2.2.2.2.2.1 l.2.2.2.2.2.2.2.2 (B:Int)).bind λe=>
  bif !(Qs e.1 (⟨0,0,0,0⟩:Qe)) then (
   some (Lp.out ((e.1,e.2.1,e.2.2.1,e.2.2.2.1,e.2.2.2.2.1,e.2.2.2.2.2.1,e.2.2.2.2.2.2.1,e.2.2.2.2.2.2.2.1,e.2.2.2.2.2.2.2.2.1,e.2.2.2.2.2.2.2.2.2))))
  else (
   some (Lp.go (e.2.1,e.2.2.1,e.2.2.2.1,e.2.2.2.2.1,e.2.2.2.2.2.2.2.1,e.2.2.2.2.2.2.2.2.1,e.2.2.2.2.2.2.2.2.2,e.2.2.2.2.2.1,e.2.2.2.2.2.2.1)))) F i (p,t,h,y,g,toRR yss,toRR kss,[],[])).bind (lpK K)=K (p,t,h,y,A,toRR z.1,toRR z.2,[],[])/\z.1.length=p.Av.B.length/\z.2.length=p.Av.B.length/\(∀ a∈z.2,QR 129 a)/\∀ a∈z.2,a.length=y.length:=by
  intro F
  induction F with
  | nil=>
    intro i g yss kss K hi hy1 R hq Z P;have u:(pairQ p.Av).drop i=[]:=by apply tg;unfold pairQ;simp only[yr,xp] at hi;rw[gp,Ji,ov];omega
    rw[u];simp only[stagesQ];simp only[yr,xp] at hi;exact⟨g,P,rfl,om,om,hq,Z⟩
  | cons b F ih=>
    intro i g yss kss K hi hy1 R hq Z P;rw[xn] at hi;have m:p.Av.A[i]?=some (p.Av.A[i]' om):=oi om;have hc:p.Av.C[i]?=some (p.Av.C[i]' om):=oi om;rw[Q9r m hc];generalize p.Av.A[i]' om=a at m;generalize p.Av.C[i]' om=c at hc;simp only[stagesQ,rangeL];obtain⟨A,e1,r,e2,J⟩:=Jhr (g:=g) (ys:=toRR yss) (nx:=[]) (er:=[]) hn h0 om ok P m hc (by rw[Vi];omega) hq R Z;rw[e2,sbind];cases hs:stageQ p.Tape (limQ p.Ay) (fv t) (fv h) (rv y) (rv p.P) (rv a) (fv c) i kss with
    | inl f=>
      rw[hs] at J;obtain⟨G,X⟩:=J;obtain⟨⟨f1,f2,f3,f4⟩,r⟩:=r;simp only[] at G;subst G;simp only[];rw[Ky X,ow,bifT,sbind];exact⟨_,rfl,rfl,X⟩
    | inr z=>
      rw[hs] at J;obtain⟨G,X,e6⟩:=J;subst G;simp only[];rw[Kk,ou,bifF,sbind]
      have:=ih (i+1) A (yss++[z.1]) (kss++[z.2]) K om oh oh (λa m=>by
       rcases yd.1 m with m | m
       . exact hq a m
       . rw[xk.1 m];exact X) (λa m=>by
       rcases yd.1 m with m | m
       . exact Z a m
       . rw[xk.1 m];exact e6) om
      have e7:toRR yss++[toR z.1]=toRR (yss++[z.1]):=by unfold toRR;rw[xw];rfl
      rw[e7];exact this
 generalize hK:(λ(d:Qg×Qa×Qa×(List Qa)×Qk×(List (List Qa))×(List (List Qa))×(List Qa)×(List Qa))=>
  (Qaw n d.1 d.2.1 d.2.2.1 d.2.2.2.1 d.2.2.2.2.1 d.2.2.2.2.2.1 d.2.2.2.2.2.2.1 d.2.2.2.2.2.2.2.1 d.2.2.2.2.2.2.2.2 p.Av.B).bind λq=>
 (Yi n d.1 d.2.1 d.2.2.1 d.2.2.2.1 d.2.2.2.2.1 d.2.2.2.2.2.1 d.2.2.2.2.2.2.1 q d.2.2.2.2.2.2.2.2 q (p.Av.B.length:Int)).bind λx=>
 bif !(Qs x.1 (⟨0,0,0,0⟩:Qe)) then (
  some (x.1,d.1,d.2.1,d.2.2.1,d.2.2.2.1,q,d.2.2.2.2.2.2.2.2,x.2,d.2.2.2.2.2.1,d.2.2.2.2.2.2.1))
 else (
  jn (λ(S:((List Qa))->Option _)=>
   (Qfd n p.Av).bind λV=>
   bif decide ((0:Int)<(V.length:Int)) then (
    (Xq n d.1 d.2.1 d.2.2.1 d.2.2.2.1 x.2 d.2.2.2.2.2.1 d.2.2.2.2.2.2.1 q d.2.2.2.2.2.2.2.2 V).bind λC=>
    S C)
   else (
    S d.2.2.2.2.2.2.2.2)) (λ(E:(List Qa))=>
   (Yi n d.1 d.2.1 d.2.2.1 d.2.2.2.1 x.2 d.2.2.2.2.2.1 d.2.2.2.2.2.2.1 q E E (wrap64 ((p.Av.B.length:Int)+(1:Int)))).bind λW=>
   some (W.1,d.1,d.2.1,d.2.2.1,d.2.2.2.1,q,E,W.2,d.2.2.2.2.2.1,d.2.2.2.2.2.2.1))))=K
 have I:=key p.Av.B 0 g [] [] K om rfl rfl (λ_ h=>by cases h) (λ_ h=>by cases h) P;unfold doQ;rw[dt] at I;unfold pairQ at I;cases hs:stagesQ p.Tape (limQ p.Ay) (fv t) (fv h) (rv y) (rv p.P) (List.zip (p.Av.A.map rv) (rv p.Av.C)) 0 [] [] with
 | inl f=>
   rw[hs] at I;exact I
 | inr z=>
   rw[hs] at I;obtain⟨A,q1,q2,q3,q4,T,U⟩:=I;obtain⟨yss,kss⟩:=z;simp only[] at q2 q3 q4 T U |-;have e0:toRR []=[]:=rfl;rw[e0] at q2;rw[q2,<-hK];simp only[];have hbB:=Qq1 (QR_rv ok.yk om) (qw_fv ok.hk om) (QR_rv ok.sw.b om) T om h0;have hlB:=Qiv (H:=fv h) (Y:=rv y) (c:=rv p.Av.B) (kss:=kss) (by rw[Ji];exact U);rw[Ji] at hlB;have Q:=Jc9 (k:=k) (s:=p.Av) om ok.sw;rw[Q9q hn h0 om ok.hk ok.yk ok.sw.b T om om U om,sbind];obtain⟨v,e1,e2⟩:=Q1k (p:=p) (t:=t) (h:=h) (y:=y) (g:=A) (ys:=toRR yss) (ks:=toRR kss) (nx:=toR (fromQ (fv h) (rv y) (rv p.Av.B) kss)) (er:=[]) (x2:=(p.Av.B.length:Int)) hn (Jb hbB (show 22*k<=1099511627775 by omega)) om;rw[e2,sbind,q1];unfold endQ;cases hf:fitQ (limQ p.Ay) (fromQ (fv h) (rv y) (rv p.Av.B) kss) 0 with
   | some j=>
     simp only[];rw[Ky oz,ow,bifT];exact⟨_,rfl,rfl,oz⟩
   | none=>
     simp only[];rw[Kk,ou,bifF,jn_eq,Qvm hn om om ok.sw ok.sr,sbind,Jj];have hE:((Xq n p t h y v (toRR yss) (toRR kss) (toR (fromQ (fv h) (rv y) (rv p.Av.B) kss)) [] (toR (gapQ p.Av)))=some (toR (towQ (fv h) y.length (gapQ p.Av) kss))\/gapQ p.Av=[])/\QR (41*k+1000) (if gapQ p.Av=[] then [] else towQ (fv h) y.length (gapQ p.Av) kss)/\(if gapQ p.Av=[] then [] else towQ (fv h) y.length (gapQ p.Av) kss).length<=1000:=by
      by_cases u:gapQ p.Av=[]
      . rw[oq u];exact⟨.inr u,λ_ h=>(by cases h),oc⟩
      . have O:p.Av.E.length=p.Av.B.length:=by
         rcases L with L | L
         . exact L
         . exact absurd (by unfold gapQ;rw[oq (xx L)]) u
        have hgl:(gapQ p.Av).length=p.Av.B.length:=by unfold gapQ;rw[oj (λh=>by rw[h] at O;simp at O;omega),Zl,W6,Ji,Ji];omega
        rw[oj u];have ht:=Q3k (k:=2*k+2) (p:=p) (t:=t) (h:=h) (y:=y) (g:=v) (ys:=toRR yss) (nx:=toR (fromQ (fv h) (rv y) (rv p.Av.B) kss)) (er:=[]) (c:=toR (gapQ p.Av)) (kss:=kss) hn om om (Wg ok.hk om) (Vd Q) T om (by rw[Jj];omega) U om;rw[Wn] at ht;refine⟨.inl ht,Jb (Qtd (k:=2*k+2) (xo (qw_fv ok.hk om) om) Q T om om) om,?_⟩;rw[Qq2 U];omega
     obtain⟨hE1,M,N⟩:=hE;have hj:∀ {β:Type}(f:List Qa->Option β),(bif decide ((0:Int)<((gapQ p.Av).length:Int)) then (Xq n p t h y v (toRR yss) (toRR kss) (toR (fromQ (fv h) (rv y) (rv p.Av.B) kss)) [] (toR (gapQ p.Av))).bind λC=>f C else f [])=f (toR (if gapQ p.Av=[] then [] else towQ (fv h) y.length (gapQ p.Av) kss)):=by
      intro β f;by_cases u:gapQ p.Av=[]
      . rw[oq u,u];rfl
      . have:(gapQ p.Av).length≠0:=λh=>u (xx h)
        rw[oj u,ol om,bifT,hE1.resolve_right u,sbind]
     rw[hj,w1 om,Ji];generalize (if gapQ p.Av=[] then [] else towQ (fv h) y.length (gapQ p.Av) kss)=er at M N |-;obtain⟨g3',J,G⟩:=Q1k (p:=p) (t:=t) (h:=h) (y:=y) (g:=v) (ys:=toRR yss) (ks:=toRR kss) (nx:=toR (fromQ (fv h) (rv y) (rv p.Av.B) kss)) (er:=toR er) (x2:=((p.Av.B.length+1:Nat):Int)) hn (Jb M (show 41*k+1000<=1099511627775 by omega)) N;rw[G,sbind,show v.limit=limQ p.Ay by omega];cases hf2:fitQ (limQ p.Ay) er 0 with
     | some j=>exact⟨_,rfl,rfl,by show(6:Int)≠0;decide⟩
     | none=>exact⟨_,rfl,g3',rfl,q3,q4⟩
theorem Q55(hn:big<=n)(d:1<=k)(hk:k<1048576)(e:TW p.Tape)(hd:-9223372036854775808<=p.Tape.A0/\p.Tape.A0<=9223372036854775807)(hs:SchW k p.Av):
 Qc0 n p=some (dP (tapeR p.Tape/\schR p.Av/\(p.P.length:Int)=p.Tape.A3)):=by
 unfold Qc0;simp only[jn_eq];rw[Qvj hn e hd,sbind,bifP];by_cases c1:tapeR p.Tape;rw[oq c1,Qsk hn d hk hs,sbind,bifP];by_cases a:schR p.Av;rw[oq a];exact Qej ⟨λh=>⟨c1,a,h⟩,λh=>h.2.2⟩;rw[oj a,dP_f λh=>a h.2.1];rw[oj c1,dP_f λh=>c1 h.1]
end
def tI(x:Jp):Qv:=⟨x.Op,x.A,x.B,⟨⟨x.N.Neg,x.N.N⟩,x.N.D⟩⟩
theorem Qie(f:Qb)(k:Nat):Xb f (k:Int)=some (!decide (f.N.length<=k/\f.D.length<=k)):=by unfold Xb;simp only[jn_eq,bifd];by_cases h:(k:Int)<(f.N.length:Int);rw[oq h,oo om];rfl;rw[oj h];by_cases g:(k:Int)<(f.D.length:Int);rw[ol g,oo om];rfl;rw[oo g,ol om];rfl
theorem Q56{n:Nat}{t:Ja}{many k:Nat}(hn:big<=n)(j:many<=1000000):∃ v,Qc2 n t (many:Int) (k:Int)=some v/\(v=false->t.Code.length<=many/\t.Az.length<=many/\∀ c∈t.Code,c.N.N.length<=k/\c.N.D.length<=k):=by unfold Qc2;rw[Qoi (λi=>∀ c,t.Code[i]?=some c->c.N.N.length<=k/\c.N.D.length<=k) (min t.Code.length many) (r:=true)];by_cases h:∀ i,i<min t.Code.length many->∀ c,t.Code[i]?=some c->c.N.N.length<=k/\c.N.D.length<=k;rw[oq h];simp only[jn_eq,bifd];by_cases a:(many:Int)<(t.Code.length:Int);rw[oq a];exact⟨true,rfl,λh=>by cases h⟩;rw[oj a];refine⟨_,rfl,λf=>⟨om,by have:=tf f;omega,λc e=>?_⟩⟩;obtain⟨i,hi⟩:=yg e;exact h i (by have:=Kc hi;omega) c hi;rw[oj h];exact⟨true,rfl,λh=>by cases h⟩;intro i hi;have hp:t.Code[i]?=some t.Code[i]:=oi om;generalize t.Code[i]=c at hp;simp only[jn_eq,bifd];rw[oq om,oq om,Q7 hp,sbind,Qie,sbind];by_cases h:c.N.N.length<=k/\c.N.D.length<=k;rw[ol h,ou,bifF,w1 om];exact⟨λ_=>rfl,λg=>absurd (λd hd=>by rw[hp] at hd;cases hd;exact h) g⟩;rw[oo h,ow,bifT];exact⟨λg=>absurd (g c hp) h,λ_=>rfl⟩;simp only[jn_eq,bifd];by_cases h:min t.Code.length many<t.Code.length;rw[oq om,oj om];rw[oj om,bifF];unfold big at hn;omega
theorem Ja3{n:Nat}{t:Ja}(hn:big<=n)(a:t.Code.length<=1000000)(d:t.Az.length<=1000000):Qd9 n t=some ⟨t.Code.map tI,t.Az,t.A0,t.A3⟩:=by unfold Qd9;rw[J5 oh oh,sbind];rw[Wr (λi=>((t.Code.take i).map tI,(i:Int))) t.Code.length (t.Code.map tI)];rfl;intro i hi;have hp:t.Code[i]?=some t.Code[i]:=oi hi;generalize t.Code[i]=p at hp;simp only[bifd,Kw,sbind];rw[oq om,Q7 hp,sbind,J5 oh oh,sbind,w1 om,Qdi tI hp];rfl;simp only[bifd];rw[oj om,xc];unfold big at hn;omega;rfl
def tF(x:Qb):Qa:=⟨⟨x.Neg,x.N⟩,x.D⟩
theorem Z8{n:Nat}{l:List Qb}(hn:big<=n)(a:l.length<=1000000):Kx n l=some (l.map tF):=by unfold Kx;rw[Wr (λi=>((l.take i).map tF,(i:Int))) l.length (l.map tF)];intro i hi;have hp:l[i]?=some l[i]:=oi hi;generalize l[i]=p at hp;simp only[bifd,Kw,sbind];rw[oq om,Q7 hp,sbind,J5 oh oh,sbind,w1 om,Qdi tF hp];rfl;simp only[bifd];rw[oj om,xc];unfold big at hn;omega;rfl
theorem Ja4{n:Nat}{l:List (List Qb)}(hn:big<=n)(d:l.length<=1000000)(a:∀ r∈l,r.length<=1000000):Qd8 n l=some (l.map (·.map tF)):=by unfold Qd8;rw[Wr (λi=>((l.take i).map (·.map tF),(i:Int))) l.length (l.map (·.map tF))];intro i hi;have hp:l[i]?=some l[i]:=oi hi;generalize l[i]=p at hp;simp only[bifd];rw[oq om,Q7 hp,sbind,Z8 hn (a p (Jm hp)),sbind,J5 oh oh,sbind,w1 om,Qdi (·.map tF) hp];simp only[bifd];rw[oj om,xc];unfold big at hn;omega;rfl
def FL(many k:Nat)(l:List Qb):Prop:=l.length<=many/\∀ x∈l,x.N.length<=k/\x.D.length<=k
theorem Xi{n:Nat}{l:List Qb}{many k:Nat}(hn:big<=n)(f:many<=1000000):∃ v,Q3 n l (many:Int) (k:Int)=some v/\(v=false->FL many k l):=by unfold Q3;rw[Qoi (λi=>∀ c,l[i]?=some c->c.N.length<=k/\c.D.length<=k) (min l.length many) (r:=true)];by_cases h:∀ i,i<min l.length many->∀ c,l[i]?=some c->c.N.length<=k/\c.D.length<=k;rw[oq h];refine⟨_,rfl,λa=>⟨by have:=tf a;omega,λc e=>?_⟩⟩;have:=tf a;obtain⟨i,hi⟩:=yg e;exact h i (by have:=Kc hi;omega) c hi;rw[oj h];exact⟨true,rfl,λh=>by cases h⟩;intro i hi;have hp:l[i]?=some l[i]:=oi om;generalize l[i]=c at hp;simp only[jn_eq,bifd];rw[oq om,oq om,Q7 hp,sbind,Qie,sbind];by_cases h:c.N.length<=k/\c.D.length<=k;rw[ol h,ou,bifF,w1 om];exact⟨λ_=>rfl,λg=>absurd (λd hd=>by rw[hp] at hd;cases hd;exact h) g⟩;rw[oo h,ow,bifT];exact⟨λg=>absurd (g c hp) h,λ_=>rfl⟩;simp only[jn_eq,bifd];by_cases h:min l.length many<l.length;rw[oq om,oj om];rw[oj om,bifF];unfold big at hn;omega
theorem Q57{n:Nat}{s:Jt}{many k:Nat}(hn:big<=n)(j:many<=1000000):∃ v,Qc3 n s (many:Int) (k:Int)=some v /\
 (v=false->s.Bb.length<=50/\s.A.length<=many/\FL many k s.B/\FL many k s.C/\FL many k s.E/\∀ r∈s.A,FL many k r):=by
 unfold Qc3;simp only[jn_eq,bifd];by_cases x:(50:Int)<(s.Bb.length:Int)
 . rw[oq x];exact⟨true,rfl,λh=>by cases h⟩
 rw[oj x];by_cases A:(many:Int)<(s.A.length:Int)
 . rw[oq A];exact⟨true,rfl,λh=>by cases h⟩
 rw[oj A];obtain⟨b,B,C⟩:=Xi (l:=s.B) (k:=k) hn j;rw[B,sbind];cases b
 case true=>exact⟨true,rfl,λh=>by cases h⟩
 rw[bifF];obtain⟨c,E,F⟩:=Xi (l:=s.C) (k:=k) hn j;rw[E,sbind];cases c
 case true=>exact⟨true,rfl,λh=>by cases h⟩
 rw[bifF];obtain⟨e,G,H⟩:=Xi (l:=s.E) (k:=k) hn j;rw[G,sbind];cases e
 case true=>exact⟨true,rfl,λh=>by cases h⟩
 rw[bifF];have hb:∀ r,∃ v,Q3 n r (many:Int) (k:Int)=some v/\(v=false->FL many k r):=λr=>Xi hn j
 have I:=Qoi (f:=λ(a:Int)=>
  if a<(s.A.length:Int) then (
   (getI s.A a).bind λq=>
   (Q3 n q (many:Int) (k:Int)).bind λm=>
   bif m then (
    some (Lp.out (Lp.out (true))))
   else (
    some (Lp.go (wrap64 (a+(1:Int))))))
  else (
   some (Lp.out (Lp.go ())))) (n:=n) (K:=λ(_:Unit)=>some false) (r:=true) (λi=>∀ r,s.A[i]?=some r->Q3 n r (many:Int) (k:Int)=some false) s.A.length (λi hi=>by
  have hp:s.A[i]?=some s.A[i]:=oi hi;generalize s.A[i]=r at hp;obtain⟨v,g1,u⟩:=hb r;rw[oq om,Q7 hp,sbind,g1,sbind];cases v
  . rw[bifF,w1 om]
    exact⟨λ_=>rfl,λg=>absurd (λd hd=>by rw[hp] at hd;cases hd;exact g1) g⟩
  . rw[bifT]
    exact⟨λg=>(by have:=g r hp;rw[g1] at this;cases this),λ_=>rfl⟩) (by rw[oj om]) (by unfold big at hn;omega)
 rw[I];by_cases h:∀ i,i<s.A.length->∀ r,s.A[i]?=some r->Q3 n r (many:Int) (k:Int)=some false
 . rw[oq h]
   refine⟨false,rfl,λ_=>⟨om,om,C rfl,F rfl,H rfl,λr hr=>?_⟩⟩;obtain⟨i,hi⟩:=yg hr;obtain⟨v,g1,u⟩:=hb r;have:=h i (Kc hi) r hi;rw[g1] at this;exact u (Option.some.inj this)
 . rw[oj h];exact⟨true,rfl,λh=>by cases h⟩
theorem Qqc{n:Nat}{p:Qu}{a b k:Nat}(hn:big<=n)(q:a<=1000000)(hb:b<=1000000):∃ v,Qbc n p (a:Int) (b:Int) (k:Int)=some v /\
 (v=false->(p.Tape.Code.length<=a/\p.Tape.Az.length<=a/\∀ c∈p.Tape.Code,c.N.N.length<=k/\c.N.D.length<=k)/\(p.Av.Bb.length<=50/\p.Av.A.length<=b/\FL b 4 p.Av.B/\FL b 4 p.Av.C/\FL b 4 p.Av.E/\∀ r∈p.Av.A,FL b 4 r)/\FL 6 k p.P):=by
 unfold Qbc;simp only[jn_eq];obtain⟨u,f,i⟩:=Q56 (t:=p.Tape) (k:=k) hn q;rw[f,sbind];cases u
 case true=>exact⟨true,rfl,λh=>by cases h⟩
 rw[bifF];obtain⟨u,d,j⟩:=Q57 (s:=p.Av) (k:=4) hn hb;rw[show((4:Nat):Int)=4 from rfl] at d;rw[d,sbind];cases u
 case true=>exact⟨true,rfl,λh=>by cases h⟩
 rw[bifF];obtain⟨u,e,m⟩:=Xi (l:=p.P) (many:=6) (k:=k) hn oz;rw[show((6:Nat):Int)=6 from rfl] at e;rw[e,sbind];exact⟨u,rfl,λh=>⟨i rfl,j rfl,m h⟩⟩
def tS(s:Jt):Qw:=⟨s.Bb,s.C.map tF,s.A.map (·.map tF),s.B.map tF,s.E.map tF⟩
def tT(t:Ja):Qm:=⟨t.Code.map tI,t.Az,t.A0,t.A3⟩
def tP(p:Qu):Qg:=⟨tT p.Tape,tS p.Av,p.P.map tF,p.Ay⟩
theorem Qsj{n:Nat}{p:Qu}(hn:big<=n)(a:p.Tape.Code.length<=1000000)(d:p.Tape.Az.length<=1000000)(e:p.Av.A.length<=1000000)(f:p.Av.B.length<=1000000)(i:p.Av.C.length<=1000000)(j:p.Av.E.length<=1000000)
 (l:∀ r∈p.Av.A,r.length<=1000000) (m:p.P.length<=1000000):Qay n p=some (tP p):=by
 unfold Qay Qgf;rw[Ja3 hn a d,sbind,Z8 hn i,sbind,Ja4 hn e l,sbind,Z8 hn f,sbind,Z8 hn j,sbind,sbind,Z8 hn m,sbind];rfl
structure PrbW(k:Nat)(p:Qg):Prop where
 t:∀ c∈p.Tape.Code,Fk k c.N
 d:-9223372036854775808<=p.Tape.A0/\p.Tape.A0<=9223372036854775807
 s:SchW k p.Av
 p:FR k p.P
def prbR(p:Qg):Prop:=tapeR p.Tape/\schR p.Av/\(p.P.length:Int)=p.Tape.A3
theorem PrbW.tw{k:Nat}{p:Qg}(h:PrbW k p)(hk:k<1048576):TW p.Tape:=λc a=>Fk_Fw (h.t c a) om
theorem Qms{n k:Nat}{p:Qg}(hn:big<=n)(h0:129<=k)(hk:k<8000)(a:PrbW k p):Qc0 n p=some (dP (prbR p)):=
 Q55 hn om om (a.tw om) a.d a.s
theorem PrbW.ok{n k:Nat}{p:Qg}{t h:Qa}{y:List Qa}(a:PrbW k p)(hn:big<=n)(hk:k<8000)(hr:prbR p)(f:Fk k t)(d:Fk k h)(i:FR k y)(e:(y.length:Int)=p.Tape.A0):PrbOK n k p t h y:=
 ⟨⟨hr.1,by rw[Qvj hn (a.tw om) a.d,dP_t hr.1],a.t⟩,a.s,hr.2.1,a.p,hr.2.2,f,d,i,e⟩
def toM(z:MadeQ):Jk:=⟨toRR z.ys,toRR z.ks,toR z.next,toR z.err⟩
def noM:Jk:=⟨[],[],[],[]⟩
noncomputable def stepQ(p:Qg)(T H:Rat)(Y:List Rat):Qe ⊕ MadeQ:=
 @ite _ (prbR p/\(Y.length:Int)=p.Tape.A0) (Classical.propDecidable _) (doQ p.Tape p.Av (limQ p.Ay) T H Y (rv p.P)) (.inl ⟨2,0,0,0⟩)
theorem Qqd{n k:Nat}{p:Qg}{t h:Qa}{y:List Qa}(hn:big<=n)(h0:129<=k)(hk:k<8000)(l:PrbW k p)(s:Fk k t)(q:Fk k h)(u:FR k y):
 Qgq n p t h y=some (match stepQ p (fv t) (fv h) (rv y) with | .inl f=>(noM,f) | .inr z=>(toM z,⟨0,0,0,0⟩))/\∀ f,stepQ p (fv t) (fv h) (rv y)=.inl f->f.Ax≠0:=by
 unfold Qgq stepQ;simp only[jn_eq];rw[Qms hn h0 hk l,sbind,bifnP,Ji];by_cases hr:prbR p
 case neg=>rw[oj hr,oj (λh=>hr h.1),bifT];exact⟨rfl,λf h=>by cases h;decide⟩
 rw[oq hr];by_cases a:(y.length:Int)=p.Tape.A0
 case neg=>rw[oo a,oj (λh=>a h.2),ow,bifT];exact⟨rfl,λf h=>by cases h;decide⟩
 rw[ol a,oq ⟨hr,a⟩,ou,bifF];have ok:=l.ok hn hk hr s q u a;unfold X9;rw[sbind];obtain⟨r,m,d⟩:=Jln (g:=⟨⟨0,0⟩,min (max p.Ay 0) 4096⟩) hn h0 hk ok rfl;rw[m,sbind];cases hd:doQ p.Tape p.Av (limQ p.Ay) (fv t) (fv h) (rv y) (rv p.P) with
 | inl f=>
   rw[hd] at d;obtain⟨e,j⟩:=d;refine⟨?_,λg i=>by cases i;exact j⟩;rw[e];obtain⟨v,x,f3,f4⟩:=f;rw[Ky j,ow,bifT];rfl
 | inr z=>
   rw[hd] at d;obtain⟨A,e,_⟩:=d;subst e;simp only[];rw[Kk,ou,bifF];exact⟨rfl,λg i=>by cases i⟩
theorem Qvn{t:Qm}{lim:Int}{T H:Rat}{Y P:List Rat}{m:Nat}(j:lim<=4096)(v:t.Az.length=m)(s:Y.length=m):∀ {r:List (List Rat×Rat)}{i:Nat}{yss kss:List (List Rat)}{z},(∀ a∈kss,a.length=m)->(∀ a∈yss,a.length=m)->stagesQ t lim T H Y P r i yss kss=.inr z ->
 (∀ a∈z.2,a.length=m)/\(∀ a∈z.1,a.length=m)/\(∃ e,z.1=yss++e)/\∃ e,z.2=kss++e
 | [],i,yss,kss,z,l,q,h=>by simp only[stagesQ] at h;cases h;exact⟨l,q,⟨[],oc⟩,[],oc⟩
 | x::r,i,yss,kss,z,l,q,h=>by
   simp only[stagesQ] at h;cases hs:stageQ t lim T H Y P x.1 x.2 i kss with
   | inl f=>rw[hs] at h;cases h
   | inr w=>
     rw[hs] at h;have A:w.2.length=m/\w.1.length=m:=by
      unfold stageQ at hs;split at hs;cases hs;cases u:fieldQ t lim (T+H*x.2) (fromQ H Y x.1 kss) P with
      | inl e=>rw[u] at hs;cases hs
      | inr k=>
        rw[u] at hs;cases hs;exact⟨by rw[(Q1j j u).1,v],by show(fromQ H Y x.1 kss).length=m;rw[Qiv (by rw[s];exact l),s]⟩
     obtain⟨g1,C,⟨e,g3⟩,B,g4⟩:=Qvn j v s (λa d=>by
      rcases yd.1 d with d | d;exact l a d;rw[xk.1 d];exact A.1) (λa d=>by
      rcases yd.1 d with d | d;exact q a d
      rw[xk.1 d];exact A.2) h
     exact⟨g1,C,⟨w.1::e,by rw[g3];simp⟩,w.2::B,by rw[g4];simp⟩
set_option maxRecDepth 100000
def turnQ(a q:Rat)(e:Int):Rat:=if 0<e then a ^ (e - 1) else if e<0 then q / a else 0
theorem Q38{z:Int}(h:z.natAbs<=8):qw (z:Rat)<=1:=by unfold qw;rw[Rat.num_intCast,Rat.den_intCast];have l1:(toL z.natAbs).length<=1:=Qeh (n:=z.natAbs) (k:=1) (by rw[W0,Qbn];omega);have a:(toL 1).length<=1:=Qeh (n:=1) (k:=1) (by rw[W0,Qbn];omega);omega
theorem Q9s{lim:Int}:∀ {l:List Rat}{i:Nat},fitQ lim l i=none->∀ q∈l,(qz q:Int)<=lim
 | [],_,_,q,a=>by cases a
 | x::l,i,h,q,a=>by simp only[fitQ] at h;split at h;rename_i d;rcases xu.1 a with rfl | a;exact d;exact Q9s h q a;cases h
theorem Qk6{lim:Int}{l:List Rat}(a:lim<=4096)(h:fitQ lim l 0=none):QR 129 l:=λq d=>by have e:=Q9s h q d;have f:=qw_qz (q:=q) (b:=4096) om;omega
theorem Qg8{p:Qg}{T H:Rat}{Y:List Rat}{z:MadeQ}(h:stepQ p T H Y=.inr z):prbR p/\(Y.length:Int)=p.Tape.A0/\QR 129 z.next/\z.next.length=Y.length/\QR 129 z.err:=by
 unfold stepQ at h;by_cases d:prbR p/\(Y.length:Int)=p.Tape.A0
 case neg=>rw[oj d] at h;cases h
 rw[oq d] at h;refine⟨d.1,d.2,?_⟩;have f:=d.1.1.1;unfold doQ at h;cases j:stagesQ p.Tape (limQ p.Ay) T H Y (rv p.P) (List.zip (p.Av.A.map rv) (rv p.Av.C)) 0 [] [] with
 | inl e=>rw[j] at h;cases h
 | inr w=>
   rw[j] at h;simp only[] at h;obtain⟨g1,q,g3,g4⟩:=Qvn (m:=Y.length) (by unfold limQ;omega) (by have:=f.2.2.1;omega) rfl (λ_ h=>by cases h) (λ_ h=>by cases h) j;unfold endQ at h;have a:limQ p.Ay<=4096:=by unfold limQ;omega
   split at h
   . cases h
   . rename_i l
     split at h
     . cases h
     . rename_i i
       cases h;exact⟨Qk6 a l,Qiv g1,Qk6 a i⟩
theorem Qxt{l:List Rat}:scaleQ 1 l=l:=by
 unfold scaleQ
 conv=>rhs;rw[<-List.map_id l]
 exact vt λq _=>by show 1*q=q;grind
theorem Qxu:qw 1=1:=by unfold qw;rw[show(1:Rat).num=1 from rfl,show(1:Rat).den=1 from rfl,show(1:Int).natAbs=1 from rfl,toL1];rfl
set_option maxRecDepth 100000
theorem Q9t{t:Qm}{lim:Int}{T H:Rat}{Y P:List Rat}(d:lim<=4096):∀ {r:List (List Rat×Rat)}{i:Nat}{yss kss:List (List Rat)}{z},(∀ a∈yss,QR 129 a)->stagesQ t lim T H Y P r i yss kss=.inr z->∀ a∈z.1,QR 129 a
 | [],i,yss,kss,z,q,h=>by simp only[stagesQ] at h;cases h;exact q
 | x::r,i,yss,kss,z,q,h=>by
   simp only[stagesQ] at h;cases hs:stageQ t lim T H Y P x.1 x.2 i kss with
   | inl f=>rw[hs] at h;cases h
   | inr w=>
     rw[hs] at h;have u:QR 129 w.1:=by
      unfold stageQ at hs;cases s:fitQ lim (fromQ H Y x.1 kss) 0 with
      | some j=>rw[s] at hs;cases hs
      | none=>
        rw[s] at hs;simp only[] at hs;cases m:fieldQ t lim (T+H*x.2) (fromQ H Y x.1 kss) P with
        | inl e=>rw[m] at hs;cases hs
        | inr k=>rw[m] at hs;cases hs;exact Qk6 d s
     exact Q9t d (λa l=>by
      rcases yd.1 l with l | l;exact q a l
      rw[xk.1 l];exact u) h
theorem Qy7{p:Qg}{T H:Rat}{Y:List Rat}{z:MadeQ}(h:stepQ p T H Y=.inr z):(∀ a∈z.ys,QR 129 a/\a.length=Y.length)/\z.ys.length=p.Av.B.length:=by
 obtain⟨hr,q,_⟩:=Qg8 h;have hd:=hr.1.1;unfold stepQ at h;rw[oq ⟨hr,q⟩] at h;unfold doQ at h;cases j:stagesQ p.Tape (limQ p.Ay) T H Y (rv p.P) (List.zip (p.Av.A.map rv) (rv p.Av.C)) 0 [] [] with
 | inl e=>rw[j] at h;cases h
 | inr w=>
   rw[j] at h;simp only[] at h;have d:limQ p.Ay<=4096:=by unfold limQ;omega
   have u:=Q9t d (λ_ h=>by cases h) j;obtain⟨_,v,_,_⟩:=Qvn d (m:=Y.length) (by have:=hd.2.2.1;omega) rfl (λ_ h=>by cases h) (λ_ h=>by cases h) j;have A:∀ {r:List (List Rat×Rat)}{i:Nat}{yss kss:List (List Rat)}{z},stagesQ p.Tape (limQ p.Ay) T H Y (rv p.P) r i yss kss=.inr z->z.1.length=yss.length+r.length:=by
    intro r
    induction r with
    | nil=>intro i yss kss z h;simp only[stagesQ] at h;cases h;rfl
    | cons x r s=>
      intro i yss kss z h;simp only[stagesQ] at h;cases hs:stageQ p.Tape (limQ p.Ay) T H Y (rv p.P) x.1 x.2 i kss with
      | inl f=>rw[hs] at h;cases h
      | inr w=>rw[hs] at h;rw[s h];simp;omega
   have B:=A j;obtain⟨⟨g1,C⟩,g3,g4,E,F⟩:=hr.2.1.2.1;have e:z.ys=w.1:=by unfold endQ at h;split at h;cases h;split at h;cases h;cases h;rfl
   rw[e];refine⟨λa l=>⟨u a l,v a l⟩,?_⟩;rw[B,gp,ov,Ji];simp;omega
theorem X4{α:Type}{l:List α}{i:Nat}{x:α}(h:l[i]?=some x):l.take (i+1)=l.take i++[x]:=by rw[vn,h];rfl
def FRr(k:Nat)(l:List Qb):Prop:=∀ f∈l,Wd f.N/\Wd f.D/\f.N.length<=k/\f.D.length<=k
theorem Q58{many k:Nat}{l:List Qb}(d:Ka l)(h:FL many k l):FRr k l:=λx a=>by have hb:=d.2 x a;have:=h.2 x a;exact⟨hb.2.1.2,hb.2.2.1.2,this.1,this.2⟩
def fresh(out:List Qq)(i:Nat)(s:List UInt8):Prop:=∀ w,out.getLast?=some w->w.At+w.A7.length<=i/\∀ c r,s=c::r->w.At+w.A7.length=(i:Int)->goC w.Ax c.toNat=false
theorem Fk_wd{k:Nat}{f:Qb}(h:Fk k (tF f)):Wd f.N/\Wd f.D/\f.N.length<=k/\f.D.length<=k:=⟨h.1,h.2.2.1,h.2.1,h.2.2.2⟩
theorem Qav{α β:Type}(f:α->β){l:List α}{i:Nat}{x:α}(h:l[i]?=some x):(l.map f)[i]?=some (f x):=by rw[xm,h];rfl
def FKs(k:Nat)(l:List Qb):Prop:=∀ f∈l,Fk k (tF f)
structure SchWr(k:Nat)(s:Jt):Prop where
 a:∀ r∈s.A,FKs k r
 al:∀ r∈s.A,r.length<=1000000
 b:FKs k s.B
 bl:s.B.length<=1000000
 c:FKs k s.C
 cl:s.C.length<=1000000
 e:FKs k s.E
 el:s.E.length<=1000000
 nl:s.Bb.length<=1000000
structure PrbWr(k:Nat)(p:Qu):Prop where
 t:∀ x∈p.Tape.Code,Fk k (tF x.N)
 o:p.Tape.Az.length<=1000000
 s:SchWr k p.Av
 pk:FKs k p.P
 pl:p.P.length<=1000000
theorem Qub{α:Type}{l:List α}{i:Nat}{x:α}(h:l[i]?=some x):l.drop i=x::l.drop (i+1):=by have hi:=Kc h;rw[xe hi];congr 1;rw[oi hi] at h;exact Option.some.inj h
set_option maxRecDepth 100000
theorem Fk_tF{k:Nat}{x:Qb}(a:Va x)(h:x.N.length<=k/\x.D.length<=k):Fk k (tF x):=⟨a.2.1.2,h.1,a.2.2.1.2,h.2⟩
theorem FR_tF{many k:Nat}{l:List Qb}(d:Ka l)(h:FL many k l):FR k (l.map tF):=λx e=>by obtain⟨y,a,rfl⟩:=xz.1 e;exact Fk_tF (d.2 y a) (h.2 y a)
theorem Q79{a b k:Nat}{p:Qu}{bits:Int}(i:Yh p)(hk:k<=129)
 (h:(p.Tape.Code.length<=a/\p.Tape.Az.length<=a/\∀ c∈p.Tape.Code,c.N.N.length<=k/\c.N.D.length<=k)/\(p.Av.Bb.length<=50/\p.Av.A.length<=b/\FL b 4 p.Av.B/\FL b 4 p.Av.C/\FL b 4 p.Av.E/\∀ r∈p.Av.A,FL b 4 r)/\FL 6 k p.P) :
 PrbW 129 ⟨tT p.Tape,tS p.Av,p.P.map tF,bits⟩:=by
 obtain⟨f,e,bp,_⟩:=i;obtain⟨⟨x,A,t3⟩,⟨s1,v,m,q,s,u⟩,l⟩:=h;refine⟨λc j=>?_,f.2.2.1,⟨λr hr=>?_,Vf (FR_tF e.2.2.2.1 m) om,Vf (FR_tF e.2.1 q) om,Vf (FR_tF e.2.2.2.2.1 s) om,by show p.Av.Bb.length<=_;omega⟩,Vf (FR_tF bp l) hk⟩;obtain⟨d,hd,rfl⟩:=xz.1 j;exact Wg (Fk_tF (f.1.2 d hd).2.2.2.1 (t3 d hd)) hk;obtain⟨d,hd,rfl⟩:=xz.1 hr;exact Vf (FR_tF (e.2.2.1.2 d hd) (u d hd)) om
theorem PrbW.mono{j k:Nat}{p:Qg}(h:PrbW j p)(hk:j<=k):PrbW k p:=
 ⟨λc a=>Wg (h.t c a) hk,h.d,⟨λr hr=>Vf (h.s.a r hr) hk,Vf h.s.b hk,Vf h.s.c hk,Vf h.s.e hk,h.s.n⟩,Vf h.p hk⟩
set_option maxRecDepth 100000
theorem Jhs{t:Qm}{lim:Int}{T H:Rat}{Y P a:List Rat}{c:Rat}{i:Nat}{kss:List (List Rat)}{f}(h:stageQ t lim T H Y P a c i kss=.inl f):f.Ax≠0:=by
 unfold stageQ at h;split at h;cases h;show(6:Int)≠0;decide;cases d:fieldQ t lim (T+H*c) (fromQ H Y a kss) P with
 | inl e=>rw[d] at h;cases h;have:=Qwo d;show e.1≠0;omega
 | inr k=>rw[d] at h;cases h
theorem Q3l{t:Qm}{lim:Int}{T H:Rat}{Y P:List Rat}:∀ {r:List (List Rat×Rat)}{i:Nat}{yss kss:List (List Rat)}{f},stagesQ t lim T H Y P r i yss kss=.inl f->f.Ax≠0
 | [],i,yss,kss,f,h=>by simp only[stagesQ] at h;cases h
 | x::r,i,yss,kss,f,h=>by
   simp only[stagesQ] at h;cases hs:stageQ t lim T H Y P x.1 x.2 i kss with
   | inl g=>rw[hs] at h;cases h;exact Jhs hs
   | inr w=>rw[hs] at h;exact Q3l h
theorem Jda{t:Qm}{s:Qw}{lim:Int}{T H:Rat}{Y P:List Rat}{f}(h:doQ t s lim T H Y P=.inl f):f.Ax≠0:=by
 unfold doQ at h;cases a:stagesQ t lim T H Y P (List.zip (s.A.map rv) (rv s.C)) 0 [] [] with
 | inl g=>rw[a] at h;cases h;exact Q3l a
 | inr z=>
   rw[a] at h;simp only[] at h;unfold endQ at h;split at h;cases h;show(6:Int)≠0;decide;split at h;cases h;show(6:Int)≠0;decide;cases h
theorem PrbWr.mono{j k:Nat}{p:Qu}(h:PrbWr j p)(hk:j<=k):PrbWr k p:=
 ⟨λx d=>Wg (h.t x d) hk,h.o,⟨λr hr f a=>Wg (h.s.a r hr f a) hk,h.s.al,λf a=>Wg (h.s.b f a) hk,h.s.bl,λf a=>Wg (h.s.c f a) hk,h.s.cl,λf a=>Wg (h.s.e f a) hk,h.s.el,h.s.nl⟩,λf a=>Wg (h.pk f a) hk,h.pl⟩
set_option maxRecDepth 100000
theorem Q39{j k:Nat}{l:List Qb}(h:FRr j l)(hk:j<=k):FRr k l:=λf e=>by obtain⟨a,b,c,d⟩:=h f e;exact⟨a,b,om,om⟩
set_option maxRecDepth 100000
def okT(l:List Q9):List Q9:=l.filter (·.Ok)
def nT(t:Q9):Q9:=⟨toF (fv t.T),toF (fv t.A1),toF (fv t.H),toF (fv t.A8),toR (rv t.Y),true⟩
def FT(k:Nat)(t:Q9):Prop:=FR k [t.T,t.A1,t.H,t.A8]/\FR k t.Y/\t.Y.length<=1000000
theorem Qok{n k:Nat}{l:List Qa}(hn:big<=n)(a:1<=k)(hk:k<1099511627776)(h:FR k l)(d:l.length<=1000000):Qfw n l=some (toR (rv l)):=by unfold Qfw;rw[Qf0 hn,sbind,Zq (k:=k) hn a hk (Jq (by rw[Qxu];exact a)) h d,sbind,Jf,Qxt]
theorem Qn1(l:List Q9):(okT l).length<=l.length:=List.length_filter_le _ _
theorem Qmc{n k:Nat}{h:Qt}(hn:big<=n)(e:1<=k)(hk:k<1099511627776)(q:h.Aw.length<=1000000)(m:∀ t∈h.Aw,FT k t):Qd7 n h=some ((okT h.Aw).map nT):=by unfold Qd7;rw[Zw (λi=>(okT (h.Aw.take i)).map nT) h.Aw];rw[xc];rfl;intro i x d;obtain⟨g1,l,g3⟩:=m x (Jm d);have hi:=Kc d;have a:=Qn1 (h.Aw.take i);rw[xa] at a;rw[X4 d];have j:okT (h.Aw.take i++[x])=okT (h.Aw.take i)++okT [x]:=List.filter_append _ _;rw[j,xw];cases f:x.Ok;rw[bifF,show okT [x]=[] from by unfold okT;simp[f],List.map_nil,uh];rw[bifT,show okT [x]=[x] from by unfold okT;simp[f]];unfold Qcg;rw[sbind,Qok hn e hk g1 oc,sbind,show getI (toR (rv [x.T,x.A1,x.H,x.A8])) 0=some (toF (fv x.T)) from rfl,sbind,show getI (toR (rv [x.T,x.A1,x.H,x.A8])) 1=some (toF (fv x.A1)) from rfl,sbind,show getI (toR (rv [x.T,x.A1,x.H,x.A8])) 2=some (toF (fv x.H)) from rfl,sbind,show getI (toR (rv [x.T,x.A1,x.H,x.A8])) 3=some (toF (fv x.A8)) from rfl,sbind,Qok hn e hk l g3,sbind,J5 oh oh,sbind];rfl;rfl
def szs(h:Qt):List Rat:=(okT h.Aw).map (fv ·.H)
set_option maxRecDepth 100000
theorem Q9u{α R:Type}{f:Nat->α->Unit->Option (Lp Unit R)}{K:Unit->Option R}(xs:List α)(hb:∀ i x,xs[i]?=some x->f i x ()=some (.go ())):(rangeL f xs 0 ()).bind (lpK K)=K ():=Zw (λ_=>()) xs hb rfl
set_option maxRecDepth 100000
def RulW(k:Nat)(r:Q0i):Prop:=FR k [r.Tol,r.Safe,r.Low,r.High,r.Least]
theorem RulW.all{k:Nat}{r:Q0i}(h:RulW k r):Fk k r.Tol/\Fk k r.Safe/\Fk k r.Low/\Fk k r.High/\Fk k r.Least:=
 ⟨h _ oc,h _ oc,h _ oc,h _ oc,h _ oc⟩
set_option maxRecDepth 100000
theorem sg_lt{a b:Rat}:(a - b).num.sign<0↔a<b:=by rw[Int.sign_neg_iff,<-Int.not_le,Rat.num_nonneg,<-Rat.le_iff_sub_nonneg,Rat.not_le]
theorem sg_gt{a b:Rat}:0<(a - b).num.sign↔b<a:=by
 have e:(a - b).num=-(b - a).num:=by rw[<-Q2i,Rat.neg_sub]
 rw[Int.sign_pos_iff,e,<-sg_lt,Int.sign_neg_iff];omega
theorem sg_le{a b:Rat}:(a - b).num.sign<=0↔a<=b:=by rw[<-Int.not_lt,sg_gt,Rat.not_lt]
theorem sg_ge{a b:Rat}:0<=(a - b).num.sign↔b<=a:=by rw[<-Int.not_lt,sg_lt,Rat.not_lt]
theorem Q59{a:Rat}:0<a.num.sign↔0<a:=by have:=@sg_gt a 0;rwa [show a - 0=a by grind] at this
theorem Q9v{a:Rat}:0<=a.num.sign↔0<=a:=by have:=@sg_ge a 0;rwa [show a - 0=a by grind] at this
structure TryA where
 T:Rat
 A1:Rat
 H:Rat
 A8:Rat
 Y:List Rat
 Ok:Bool
def toTryA(t:TryA):Q9:=⟨toF t.T,toF t.A1,toF t.H,toF t.A8,toR t.Y,t.Ok⟩
set_option maxRecDepth 100000
theorem Qs4{p:Qg}{T H:Rat}{Y:List Rat}{f}(h:stepQ p T H Y=.inl f):f.Ax≠0:=by unfold stepQ at h;split at h;exact Jda h;cases h;show(2:Int)≠0;decide
set_option maxRecDepth 100000
theorem Q6a{n k:Nat}{h:Qt}(hn:big<=n)(e:1<=k)(hk:k<1099511627776)(q:h.Aw.length<=1000000)(s:∀ t∈h.Aw,FT k t)(l:Fk k h.T)(m:FR k h.Y)(a:h.Y.length<=1000000):
 Ql0 n h=some (((okT h.Aw).map nT).map (·.T)++[toF (fv h.T)],((okT h.Aw).map nT).map (·.Y)++[toR (rv h.Y)]):=by
 have r:=Qn1 h.Aw;unfold Ql0;rw[Qmc hn e hk q s,sbind];generalize f:(okT h.Aw).map nT=A;have j:A.length<=1000000:=by rw[<-f,ov];omega
 rw[Zw (λi=>((A.take i).map (·.T),(A.take i).map (·.Y))) A];rw[xc];show((Vr n h.T).bind _)=_;rw[V0 hn (Fk_Fw l om),sbind,J5 oh oh,sbind,Qok hn e hk m a,sbind,J5 oh oh,sbind];intro i x d;have hi:=Kc d;rw[J5 oh oh,sbind,J5 oh oh,sbind,Qdi (·.T) d,Qdi (·.Y) d];rfl
theorem Q6b{n k:Nat}{h:Qt}(hn:big<=n)(d:1<=k)(hk:k<1099511627776)(l:h.Aw.length<=1000000)(q:∀ t∈h.Aw,FT k t):Qji n h=some (toR (szs h)):=by
 have m:=Qn1 h.Aw;unfold Qji;rw[Qmc hn d hk l q,sbind];have e:toR (szs h)=((okT h.Aw).map nT).map (·.H):=by unfold toR szs;rw[yo,yo];rfl
 rw[e];generalize f:(okT h.Aw).map nT=A;have j:A.length<=1000000:=by rw[<-f,ov];omega
 rw[Zw (λi=>(A.take i).map (·.H)) A];rw[xc];rfl;intro i x a;have hi:=Kc a;rw[J5 oh oh,sbind,Qdi (·.H) a];rfl
set_option maxRecDepth 100000
def canF(x:Qa):Prop:=x=toF (fv x)
theorem Quc{n k:Nat}{l:List (List Qa)}(hn:big<=n)(hk:k<1099511627776)(h:∀ r∈l,FR k r):Qfv n l=some (dP (∀ r∈l,∀ x∈r,canF x)):=by
 classical
 unfold Qfv;rw[Z3 (λ_ (r:List Qa)=>∀ x∈r,canF x) (r:=false),Qit];by_cases g:∀ r∈l,∀ x∈r,canF x;rw[oq g,dP_t g];rw[oj g,dP_f g];intro i r hr;have e:=h r (Jm hr)
 have a:((rangeL (λ(_:Nat) (j:Qa) (_:Unit)=>
  (Z9 n j).bind λf=>
  bif !f then (
   some (Lp.out (Lp.out (false))))
  else (
   some (Lp.go ()))) r 0 ()).bind (lpK λ(_:Unit)=>
 some (Lp.go ())))=if (∀(i:Nat) x,r[i]?=some x->canF x) then (some (Lp.go ()):Option (Lp Unit Bool)) else some (Lp.out false):=by refine Z3 (λ_ (x:Qa)=>canF x) r (λi x m=>?_);rw[Qqa hn (Fk_Fw (e x (Jm m)) om),sbind];exact⟨λd=>by rw[ol (show x=toF (fv x) from d)];rfl,λd=>by rw[oo (show ¬ x=toF (fv x) from d)];rfl⟩
 rw[Qit] at a;exact⟨λg=>by rw[a,oq g],λg=>by rw[a,oj g]⟩
def nextT(h:Qt)(i:Nat):Qa:=match h.Aw[i+1]? with | some u=>u.T | none=>h.T
def nextY(h:Qt)(i:Nat):List Qa:=match h.Aw[i+1]? with | some u=>u.Y | none=>h.Y
structure Qkr(h:Qt):Prop where
 c:(∀ t∈h.Aw,∀ r∈[[t.T,t.A1,t.H,t.A8],t.Y],∀ x∈r,canF x)/\∀ r∈[[h.T],h.Y],∀ x∈r,canF x
 l:(∀ t∈h.Aw,t.Y.length=h.Y.length)/\1<=h.Y.length/\h.Y.length<=6
 m:h.Aw.length<=200
 s:∀ t∈h.Aw,0<fv t.A1/\0<fv t.H/\fv t.H<=fv t.A1/\0<=fv t.A8
 n:∀(i:Nat) t,h.Aw[i]?=some t->(t.Ok=true->fv (nextT h i)=fv t.T+fv t.H)/\(t.Ok=false->fv (nextT h i)=fv t.T/\rv (nextY h i)=rv t.Y)
theorem Qqe{n k:Nat}{h:Qt}(hn:big<=n)(d:1<=k)(hk:k<100000000)(V:h.Aw.length<=1000000)(j:∀ t∈h.Aw,FT k t)(J:Fk k h.T)(L:FR k h.Y)(O:h.Y.length<=1000000):
 Qjh n h=some (dP (Qkr h)):=by
 classical
 have pk:∀ t∈h.Aw,Fk k t.T/\Fk k t.A1/\Fk k t.H/\Fk k t.A8:=λt f=>by have g:=(j t f).1;exact⟨g _ oc,g _ oc,g _ oc,g _ oc⟩
 unfold Qjh Qpj;have eP:Qlx n h=some (dP ((∀ t∈h.Aw,∀ r∈[[t.T,t.A1,t.H,t.A8],t.Y],∀ x∈r,canF x)/\∀ r∈[[h.T],h.Y],∀ x∈r,canF x)):=by
  unfold Qlx
  rw[Z3 (λ_ (t:Q9)=>∀ r∈[[t.T,t.A1,t.H,t.A8],t.Y],∀ x∈r,canF x) (r:=false),Qit,Quc (k:=k) hn om (λr hr=>by
   rcases xu.1 hr with rfl | hr
   . intro x R;rw[xk.1 R];exact J
   . rw[xk.1 hr];exact L),sbind]
  . by_cases g:∀ t∈h.Aw,∀ r∈[[t.T,t.A1,t.H,t.A8],t.Y],∀ x∈r,canF x
    . rw[oq g];exact Q2k ⟨λa=>⟨g,a⟩,λa=>a.2⟩
    . rw[oj g,dP_f λa=>g a.1]
  . intro i t hi
    have f:=Jm hi
    have e:Qfv n [[t.T,t.A1,t.H,t.A8],t.Y]=some (dP (∀ r∈[[t.T,t.A1,t.H,t.A8],t.Y],∀ x∈r,canF x)):=Quc (k:=k) hn om (λr hr=>by
     rcases xu.1 hr with rfl | hr
     . exact(j t f).1
     . rw[xk.1 hr];exact(j t f).2.1)
    unfold Qcg;rw[sbind,e,sbind];exact⟨λg=>by rw[dP_t g];rfl,λg=>by rw[dP_f g];rfl⟩
 have eL:Qjg h=some (dP ((∀ t∈h.Aw,t.Y.length=h.Y.length)/\1<=h.Y.length/\h.Y.length<=6)):=by
  unfold Qjg;simp only[jn_eq];rw[Z3 (λ_ (t:Q9)=>t.Y.length=h.Y.length) (r:=false),Qit]
  . by_cases g:∀ t∈h.Aw,t.Y.length=h.Y.length
    . rw[oq g]
      by_cases g1:(1:Int)<=(h.Y.length:Int)
      . rw[ol g1,bifT];exact Qej ⟨λa=>⟨g,om,om⟩,λa=>by have:=a.2.2;omega⟩
      . rw[oo g1,bifF,dP_f λa=>g1 (by have:=a.2.1;omega)]
    . rw[oj g,dP_f λa=>g a.1]
  . intro i t hi
    exact⟨λg=>by rw[ol om];rfl,λg=>by rw[oo om];rfl⟩
 have eS:Qly n h=some (dP (∀ t∈h.Aw,0<fv t.A1/\0<fv t.H/\fv t.H<=fv t.A1/\0<=fv t.A8)):=by
  unfold Qly;simp only[jn_eq];rw[Z3 (λ_ (t:Q9)=>0<fv t.A1/\0<fv t.H/\fv t.H<=fv t.A1/\0<=fv t.A8) (r:=false),Qit]
  . by_cases g:∀ t∈h.Aw,0<fv t.A1/\0<fv t.H/\fv t.H<=fv t.A1/\0<=fv t.A8
    . rw[oq g,dP_t g]
    . rw[oj g,dP_f g]
  . intro i t hi
    obtain⟨v,C,l,N⟩:=pk t (Jm hi);rw[Qdy (k:=k) hn d om C,sbind,Qdy (k:=k) hn d om l,sbind,Qsf (k:=k) hn d om l C,sbind,Qdy (k:=k) hn d om N,sbind];by_cases c1:(fv t.A1).num.sign<=0
    . rw[ol c1];exact⟨λg=>absurd (Q59.2 g.1) om,λ_=>rfl⟩
    rw[oo c1];by_cases G:(fv t.H).num.sign<=0
    . rw[ol G];exact⟨λg=>absurd (Q59.2 g.2.1) om,λ_=>rfl⟩
    rw[oo G];by_cases H:0<(fv t.H - fv t.A1).num.sign
    . rw[ol H];exact⟨λg=>absurd (sg_le.2 g.2.2.1) om,λ_=>rfl⟩
    rw[oo H];by_cases I:(fv t.A8).num.sign<0
    . rw[ol I];exact⟨λg=>absurd (Q9v.2 g.2.2.2) om,λ_=>rfl⟩
    rw[oo I];exact⟨λ_=>rfl,λg=>absurd ⟨Q59.1 om,Q59.1 om,sg_le.1 om,Q9v.1 om⟩ g⟩
 have eC:Qlz n h=some (dP (∀(i:Nat) t,h.Aw[i]?=some t->(t.Ok=true->fv (nextT h i)=fv t.T+fv t.H)/\(t.Ok=false->fv (nextT h i)=fv t.T/\rv (nextY h i)=rv t.Y))):=by
  unfold Qlz Qml;simp only[jn_eq];rw[Z3 (λi (t:Q9)=>(t.Ok=true->fv (nextT h i)=fv t.T+fv t.H)/\(t.Ok=false->fv (nextT h i)=fv t.T/\rv (nextY h i)=rv t.Y)) (r:=false)]
  . by_cases g:∀(i:Nat) t,h.Aw[i]?=some t->(t.Ok=true->fv (nextT h i)=fv t.T+fv t.H)/\(t.Ok=false->fv (nextT h i)=fv t.T/\rv (nextY h i)=rv t.Y)
    . rw[oq g,dP_t g]
    . rw[oj g,dP_f g]
  . intro i t hi
    have Q:=Kc hi;obtain⟨v,C,l,N⟩:=pk t (Jm hi);have pY:=(j t (Jm hi)).2.1;have B:=Zx (qw_fv v d) (qw_fv l d)
    have core:∀(a:Qa) (y:List Qa),Fk k a->FR k y->∀(K:Bool->Option (Lp Unit Bool)),
     ((bif t.Ok then (Vy n t.T t.H).bind λT=>(Qa9 n a T).bind λU=>some U else (Qa9 n a t.T).bind λE=>bif E then (Qkc n y t.Y).bind λF=>some F else some false).bind K)=K (dP ((t.Ok=true->fv a=fv t.T+fv t.H)/\(t.Ok=false->fv a=fv t.T/\rv y=rv t.Y))):=λa y M S K=>by
     cases W:t.Ok with
     | true=>
       rw[bifT,Wo (k:=k) hn d om v l,sbind,Qj0 (k:=k+k+1) hn om om (Wg M om) (Jq B),sbind,sbind,Jf,decP];congr 1;exact dP_c ⟨λg=>⟨λ_=>g,(λA=>by cases A)⟩,λg=>g.1 rfl⟩
     | false=>
       rw[bifF,Qj0 (k:=k) hn d om M v,sbind];by_cases c:fv a=fv t.T
       . rw[ol c,bifT,Qsh (k:=k) hn d om S pY,sbind,sbind,decP]
         congr 1;exact dP_c ⟨λg=>⟨(λA=>by cases A),λ_=>⟨c,g⟩⟩,λg=>(g.2 rfl).2⟩
       . rw[oo c,bifF,sbind,dP_f λg=>c (g.2 rfl).1]
    have fin:∀ P:Prop,((P->(λs:Bool=>bif !s then some (Lp.out false) else some (Lp.go ()):Bool->Option (Lp Unit Bool)) (dP P)=some (.go ()))/\(¬ P->(λs:Bool=>bif !s then some (Lp.out false) else some (Lp.go ()):Bool->Option (Lp Unit Bool)) (dP P)=some (.out false))):=λP=>⟨λg=>by rw[dP_t g];rfl,λg=>by rw[dP_f g];rfl⟩
    rw[w1 om];by_cases c:i+1<h.Aw.length
    . have hp:h.Aw[i+1]?=some h.Aw[i+1]:=oi c
      have f:=xi c;generalize h.Aw[i+1]=u at hp f;have eT:nextT h i=u.T:=by unfold nextT;rw[hp]
      have eY:nextY h i=u.Y:=by unfold nextY;rw[hp]
      rw[ol (show((i+1:Nat):Int)<(h.Aw.length:Int) by omega),bifT,Q7 hp,sbind,sbind,core u.T u.Y (pk u f).1 (j u f).2.1,eT,eY];exact fin _
    . have hp:h.Aw[i+1]?=none:=xd om
      have eT:nextT h i=h.T:=by unfold nextT;rw[hp]
      have eY:nextY h i=h.Y:=by unfold nextY;rw[hp]
      rw[oo (show ¬((i+1:Nat):Int)<(h.Aw.length:Int) by omega),bifF,core h.T h.Y J L,eT,eY];exact fin _
 rw[eP,sbind,bifnP];by_cases g1:(∀ t∈h.Aw,∀ r∈[[t.T,t.A1,t.H,t.A8],t.Y],∀ x∈r,canF x)/\∀ r∈[[h.T],h.Y],∀ x∈r,canF x
 case neg=>rw[oj g1,sbind,dP_f λa=>g1 a.c];rfl
 rw[oq g1,eL,sbind,bifnP];by_cases m:(∀ t∈h.Aw,t.Y.length=h.Y.length)/\1<=h.Y.length/\h.Y.length<=6
 case neg=>rw[oj m,sbind,dP_f λa=>m a.l];rfl
 rw[oq m];by_cases g3:(200:Int)<(h.Aw.length:Int)
 . rw[ol g3,bifT,sbind,dP_f λa=>by have:=a.m;omega];rfl
 rw[oo g3,bifF,eS,sbind,bifnP];by_cases g4:∀ t∈h.Aw,0<fv t.A1/\0<fv t.H/\fv t.H<=fv t.A1/\0<=fv t.A8
 case neg=>rw[oj g4,sbind,dP_f λa=>g4 a.s];rfl
 rw[oq g4,eC,sbind,bifnP];by_cases q:∀(i:Nat) t,h.Aw[i]?=some t->(t.Ok=true->fv (nextT h i)=fv t.T+fv t.H)/\(t.Ok=false->fv (nextT h i)=fv t.T/\rv (nextY h i)=rv t.Y)
 . rw[oq q,sbind,dP_t ⟨g1,m,om,g4,q⟩];rfl
 . rw[oj q,sbind,dP_f λa=>q a.n];rfl
set_option maxRecDepth 100000
def AlR(p:Qg)(h:Qt):Prop:=prbR p/\Qkr h/\(h.Y.length:Int)=p.Tape.A0
theorem Qq3{q:Rat}:q.num.sign<=0↔¬ 0<q:=by
 rw[Rat.not_lt,<-Int.not_lt,Int.sign_pos_iff];have h:=Rat.num_nonneg (q:=-q);have e:(-q).num=-q.num:=Q2i q;have a:0<=-q↔q<=0:=by grind
 rw[<-a,<-h,e];omega
set_option maxRecDepth 100000
def addAt(l:List Rat)(a:Int)(c:Rat):List Rat:=l.set a.toNat (l.getD a.toNat 0+c)
theorem Yw{l:List Rat}{a:Int}{c:Rat}:(addAt l a c).length=l.length:=vw
theorem Jdb(l:List Qa)(i:Nat)(x:Qa):rv (l.set i x)=(rv l).set i (fv x):=by unfold rv;rw[List.map_set]
theorem Jfx(l:List Rat)(i:Nat)(x:Rat):(toR l).set i (toF x)=toR (l.set i x):=by unfold toR;rw[List.map_set]
theorem Jdc{k:Nat}{l:List Qa}{i:Nat}{x:Qa}(h:FR k l)(d:Fk k x):FR k (l.set i x):=λy a=>by rcases List.mem_or_eq_of_mem_set a with a | rfl;exact h y a;exact d
theorem Jjl{k:Nat}{l:List Rat}{i:Nat}{x:Rat}(h:QR k l)(d:qw x<=k):QR k (l.set i x):=λy a=>by rcases List.mem_or_eq_of_mem_set a with a | rfl;exact h y a;exact d
theorem Qmt{l:List Qa}{i:Nat}{x:Qa}(h:l[i]?=some x):(rv l).getD i 0=fv x:=by rw[ot];unfold rv;rw[xm,h];rfl
theorem Q8a{α:Type}{l:List α}{a:Int}(h0:0<=a)(d:a<(l.length:Int)):∃ x,l[a.toNat]?=some x/\getI l a=some x:=by
 obtain⟨i,rfl⟩:∃ i:Nat,a=(i:Int):=⟨a.toNat,om⟩
 have hi:i<l.length:=om
 exact⟨l[i],by rw[ya];exact oi hi,Qb8 hi⟩
structure BkS where
 co:List Rat
 T:Rat
 Y:List Rat
 P:List Rat
def Yx(x:Qv)(c r:Rat)(vs:List Rat)(s:BkS):BkS:=
 if c=0 then s else
 if x.Op=2 then ⟨s.co,s.T+c,s.Y,s.P⟩ else
 if x.Op=3 then ⟨s.co,s.T,addAt s.Y x.A c,s.P⟩ else
 if x.Op=4 then ⟨s.co,s.T,s.Y,addAt s.P x.A c⟩ else
 if x.Op=6 then ⟨addAt s.co x.A (-c),s.T,s.Y,s.P⟩ else
 if x.Op=7 then ⟨addAt (addAt s.co x.A c) x.B c,s.T,s.Y,s.P⟩ else
 if x.Op=8 then ⟨addAt (addAt s.co x.A c) x.B (-c),s.T,s.Y,s.P⟩ else
 if x.Op=9 then ⟨addAt (addAt s.co x.A (c*vs.getD x.B.toNat 0)) x.B (c*vs.getD x.A.toNat 0),s.T,s.Y,s.P⟩ else
 if x.Op=10 then ⟨addAt (addAt s.co x.A (c / vs.getD x.B.toNat 0)) x.B (-(c / vs.getD x.B.toNat 0*r)),s.T,s.Y,s.P⟩ else
 if x.Op=11 then ⟨addAt s.co x.A (c*((x.B:Rat)*turnQ (vs.getD x.A.toNat 0) r x.B)),s.T,s.Y,s.P⟩ else s
theorem Qkk{x:Qv}{c r:Rat}{vs:List Rat}{s:BkS}:(Yx x c r vs s).co.length=s.co.length/\(Yx x c r vs s).Y.length=s.Y.length/\(Yx x c r vs s).P.length=s.P.length:=by
 unfold Yx
 repeat' split
 all_goals simp[Yw]
theorem Qvo{n b kc:Nat}{t:Qm}{done co gY gP:List Qa}{gT cF:Qa}{a:Int}(hn:big<=n)(l:1<=kc)(hb:b+kc<1000000000)(f:FR b co)(i:Fk kc cF)(h0:0<=a)(C:a<(co.length:Int)):
 ∃ d,J1 n t done co gT gY gP a cF=some (t,done,gT,d)/\rv d=addAt (rv co) a (fv cF)/\FR (b+kc+1) d/\d.length=co.length:=by
 obtain⟨x,g1,B⟩:=Q8a h0 C;have j:=f x (ud g1);have F:=Zx (qw_fv (Wg j (show b<=b+kc by omega)) om) (qw_fv i l);have r:qw (fv x+fv cF)<=b+kc+1:=by
  by_cases q:1<=b
  . exact Zx (qw_fv j q) (qw_fv i l)
  . have m:b=0:=om
    subst m;have e:fv x=0:=by obtain⟨_,x2,_,x4⟩:=j;obtain⟨⟨E,s⟩,u⟩:=x;have v:s=[]:=xx (by simpa using x2);have A:u=[]:=xx (by simpa using x4);subst v;subst A;cases E<;>decide +kernel
    rw[e,dg];have:=qw_fv i l;omega
 unfold J1;rw[B,sbind,Wo (k:=b+kc) hn om om (Wg j om) (Wg i om),sbind,sbind];refine⟨_,rfl,?_,Jdc (Vf f om) (Jq r),vw⟩;rw[Jdb,Jf];unfold addAt;rw[Qmt g1]
structure BkW(b:Nat)(co:List Qa)(s:BkS):Prop where
 c:rv co=s.co
 k:FR b co
 t:qw s.T<=b
 y:QR b s.Y
 p:QR b s.P
theorem BkW.mono{b a:Nat}{co:List Qa}{s:BkS}(h:BkW b co s)(hb:b<=a):BkW a co s:=⟨h.c,Vf h.k hb,xo h.t hb,Jb h.y hb,Jb h.p hb⟩
theorem Qud{b kc:Nat}{l:List Rat}{a:Int}{c:Rat}(hb:1<=b)(h:QR b l)(d:qw c<=kc):QR (b+kc+1) (addAt l a c):=
 Jjl (Jb h om) (Zx (Vp h hb) d)
theorem Jdd{n b:Nat}{t:Qm}{x:Qv}{i:Nat}{vs:List Rat}{co:List Qa}{s:BkS}(hn:big<=n)(hb1:129<=b)(hb:b<100000000)(hw:BkW b co s)(hx:t.Code[i]?=some x)(T:mayR t i x)
 (hv:QR 129 vs) (hvl:i<vs.length) (hcl:co.length=vs.length) (u:qw (s.co.getD i 0)<=129) (hy:(s.Y.length:Int)=t.A0) (hp:(s.P.length:Int)=t.A3) :
 ∃ d,Zz n t (toR vs) co (toF s.T) (toR s.Y) (toR s.P) (i:Int)=some (t,toR vs,toF (Yx x (s.co.getD i 0) (vs.getD i 0) vs s).T,d,toR (Yx x (s.co.getD i 0) (vs.getD i 0) vs s).Y,toR (Yx x (s.co.getD i 0) (vs.getD i 0) vs s).P)/\BkW (b+3000) d (Yx x (s.co.getD i 0) (vs.getD i 0) vs s)/\d.length=co.length:=by
 obtain⟨w1,V,w3,P,Q⟩:=hw;have rd:=Qmr T;have hrow:vs[i]?=some vs[i]:=oi hvl;obtain⟨cF,K⟩:∃ cF,co[i]?=some cF:=⟨co[i]' om,oi _⟩
 have ec:s.co.getD i 0=fv cF:=by rw[<-w1];exact Qmt K
 rw[ec] at u |-;have kcF:Fk b cF:=V cF (ud K);have dA:x.Op=6\/x.Op=11\/x.Op=7\/x.Op=8\/x.Op=9\/x.Op=10->0<=x.A/\x.A<(i:Int):=λh=>rd _ (rdT_A h);have dB:x.Op=7\/x.Op=8\/x.Op=9\/x.Op=10->0<=x.B/\x.B<(i:Int):=λh=>rd _ (rdT_B h);have gA:x.Op=6\/x.Op=11\/x.Op=7\/x.Op=8\/x.Op=9\/x.Op=10->getI (toR vs) x.A=some (toF (vs.getD x.A.toNat 0)):=λh=>Qiu (dA h).1 (by have:=(dA h).2;omega);have gB:x.Op=7\/x.Op=8\/x.Op=9\/x.Op=10->getI (toR vs) x.B=some (toF (vs.getD x.B.toNat 0)):=λh=>Qiu (dB h).1 (by have:=(dB h).2;omega);have gI:getI (toR vs) (i:Int)=some (toF (vs.getD i 0)):=by
  have:=Qiu (l:=vs) (r:=(i:Int)) om om;rwa [ya] at this
 have qA:qw (vs.getD x.A.toNat 0)<=129:=Vp hv oz;have qB:qw (vs.getD x.B.toNat 0)<=129:=Vp hv oz;have qI:qw (vs.getD i 0)<=129:=Vp hv oz;unfold Zz Yx;rw[Q7 hx,sbind,Q7 K,sbind,Qdy (k:=b) hn om om kcF,sbind];simp only[bifd];have sg:(fv cF).num.sign=0↔fv cF=0:=by rw[du,jt]
 by_cases c0:fv cF=0
 . rw[oq (sg.2 c0),oq c0]
   exact⟨co,rfl,⟨w1,Vf V om,om,Jb P om,Jb Q om⟩,rfl⟩
 rw[oj λg=>c0 (sg.1 g),oj c0];generalize vs.getD x.A.toNat 0=va at gA qA |-;generalize vs.getD x.B.toNat 0=vb at gB qB |-;generalize vs.getD i 0=vi at gI qI |-;have kc2:Fk 129 (toF (fv cF)):=Jq u;have kmono:FR (b+3000) co:=Vf V om;by_cases o2:x.Op=2
 . simp only[oq o2]
   have J:=Zx w3 u;rw[Wo (k:=b) hn om om (Jq w3) kcF,sbind,Jf];exact⟨co,rfl,⟨w1,kmono,by show qw (s.T+fv cF)<=_;omega,Jb P om,Jb Q om⟩,rfl⟩
 simp only[oj o2];by_cases o3:x.Op=3
 . simp only[oq o3]
   obtain⟨a1,a2⟩:=Qxp T o3;have q0:=Vp (i:=x.A.toNat) P om;rw[Qiu a1 om,sbind,Wo (k:=b) hn om om (Jq q0) kcF,sbind,sbind,Jf,Jfx];exact⟨co,rfl,⟨w1,kmono,by show qw s.T<=_;omega,Jb (Qud om P u) om,Jb Q om⟩,rfl⟩
 simp only[oj o3];by_cases o4:x.Op=4
 . simp only[oq o4]
   obtain⟨a1,a2⟩:=Qxq T o4;have q0:=Vp (i:=x.A.toNat) Q om;rw[Qiu a1 om,sbind,Wo (k:=b) hn om om (Jq q0) kcF,sbind,sbind,Jf,Jfx];exact⟨co,rfl,⟨w1,kmono,by show qw s.T<=_;omega,Jb P om,Jb (Qud om Q u) om⟩,rfl⟩
 simp only[oj o4];have wrap:∀ {d:List Qa}{l:List Rat}{k:Nat},rv d=l->FR k d->k<=b+3000->BkW (b+3000) d ⟨l,s.T,s.Y,s.P⟩:=λe hk hle=>⟨e,Vf hk hle,by show qw s.T<=_;omega,Jb P om,Jb Q om⟩
 have one:∀(a:Int) (q:Rat) (E:Nat),0<=a->a<(i:Int)->qw q<=E->1<=E->E<=1300->∃ d,J1 n t (toR vs) co (toF s.T) (toR s.Y) (toR s.P) a (toF q)=some (t,toR vs,toF s.T,d)/\rv d=addAt s.co a q/\FR (b+E+1) d/\d.length=co.length:=λa q E h0 h1 J L Y=>by obtain⟨d,m,v,B,F⟩:=Qvo (n:=n) (t:=t) (done:=toR vs) (gT:=toF s.T) (gY:=toR s.Y) (gP:=toR s.P) hn L om V (Jq J) h0 om;rw[Jf,w1] at v;exact⟨d,m,v,B,F⟩
 have two:∀(a R:Int) (q q':Rat) (E H:Nat),0<=a->a<(i:Int)->qw q<=E->1<=E->E<=1300->0<=R->R<(i:Int)->qw q'<=H->1<=H->H<=1300->∃ f d,J1 n t (toR vs) co (toF s.T) (toR s.Y) (toR s.P) a (toF q)=some (t,toR vs,toF s.T,f)/\J1 n t (toR vs) f (toF s.T) (toR s.Y) (toR s.P) R (toF q')=some (t,toR vs,toF s.T,d)/\BkW (b+3000) d ⟨addAt (addAt s.co a q) R q',s.T,s.Y,s.P⟩/\d.length=co.length:=λa R q q' E H h0 h1 J L Y h0' h1' hq' X hk2'=>by
  obtain⟨f,m,v,B,F⟩:=one a q E h0 h1 J L Y;obtain⟨d,G,A,f3,f4⟩:=Qvo (n:=n) (t:=t) (done:=toR vs) (gT:=toF s.T) (gY:=toR s.Y) (gP:=toR s.P) (a:=R) hn X om B (Jq hq') h0' om;rw[Jf,v] at A;exact⟨f,d,m,G,wrap A f3 om,om⟩
 have send0:∀(a:Int),0<=a->a<(i:Int)->∃ d,J1 n t (toR vs) co (toF s.T) (toR s.Y) (toR s.P) a cF=some (t,toR vs,toF s.T,d)/\rv d=addAt s.co a (fv cF)/\FR (b+129+1) d/\d.length=co.length:=λa h0 h1=>by obtain⟨y,g1,g2⟩:=Q8a (l:=co) h0 om;have C:=V y (ud g1);have J:=Zx (qw_fv C om) u;unfold J1;rw[g2,sbind,Wo (k:=b) hn om om C kcF,sbind,sbind];refine⟨_,rfl,?_,Jdc (Vf V om) (Jq J),vw⟩;rw[Jdb,Jf,<-w1];unfold addAt;rw[Qmt g1]
 have send1:∀ {f:List Qa}{S:Nat}(a:Int),b<=S->S<200000000->FR S f->f.length=co.length->0<=a->a<(i:Int)->∃ d,J1 n t (toR vs) f (toF s.T) (toR s.Y) (toR s.P) a cF=some (t,toR vs,toF s.T,d)/\rv d=addAt (rv f) a (fv cF)/\FR (S+129+1) d/\d.length=co.length:=fun {f S} a hb0 hb2 hk hl h0 h1=>by obtain⟨y,g1,g2⟩:=Q8a (l:=f) h0 om;have C:=hk y (ud g1);have J:=Zx (qw_fv C om) u;unfold J1;rw[g2,sbind,Wo (k:=S) hn om om C (Wg kcF hb0),sbind,sbind];refine⟨_,rfl,?_,Jdc (Vf hk om) (Jq J),by rw[vw];exact hl⟩;rw[Jdb,Jf];unfold addAt;rw[Qmt g1]
 by_cases o6:x.Op=6
 . simp only[oq o6]
   obtain⟨d,m,v,B,F⟩:=one x.A (-fv cF) 129 (dA om).1 (dA om).2 (by rw[Qjz];exact u) oz oz;rw[Qhn hn (Fk_Fw kcF om),sbind,m,sbind];exact⟨d,rfl,wrap v B om,F⟩
 simp only[oj o6];by_cases o7:x.Op=7
 . simp only[oq o7]
   obtain⟨f,m,v,B,F⟩:=send0 x.A (dA om).1 (dA om).2;obtain⟨d,G,A,f3,f4⟩:=send1 x.B om om B F (dB om).1 (dB om).2;rw[v] at A;rw[m,sbind];simp only[];rw[G,sbind];exact⟨d,rfl,wrap A f3 om,f4⟩
 simp only[oj o7];by_cases o8:x.Op=8
 . simp only[oq o8]
   obtain⟨f,m,v,B,F⟩:=send0 x.A (dA om).1 (dA om).2;obtain⟨d,G,A,f3,f4⟩:=Qvo (n:=n) (t:=t) (done:=toR vs) (gT:=toF s.T) (gY:=toR s.Y) (gP:=toR s.P) (a:=x.B) (cF:=toF (-fv cF)) (kc:=129) hn oz om B (Jq (by rw[Qjz];exact u)) (dB om).1 (by have:=(dB om).2;omega);rw[v,Jf] at A;rw[m,sbind,Qhn hn (Fk_Fw kcF om),sbind];simp only[];rw[G,sbind];exact⟨d,rfl,wrap A f3 om,om⟩
 simp only[oj o8];by_cases o9:x.Op=9
 . simp only[oq o9]
   have U:=X0 u qB;have q2:=X0 u qA;obtain⟨f,d,m,G,A,f3⟩:=two x.A x.B (fv cF*vb) (fv cF*va) 258 258 (dA om).1 (dA om).2 U oz oz (dB om).1 (dB om).2 q2 oz oz;rw[gB om,sbind,Yc (k:=b) hn om om kcF (Jq om),sbind,Jf,m,sbind];simp only[];rw[gA om,sbind,Yc (k:=b) hn om om kcF (Jq om),sbind,Jf,G,sbind];exact⟨d,rfl,A,f3⟩
 simp only[oj o9];by_cases o10:x.Op=10
 . simp only[oq o10]
   unfold Qh0;have U:=Qqb u qB;have q2:=X0 U qI;have q3:qw (-(fv cF / vb*vi))<=387:=by rw[Qjz];omega
   obtain⟨f,d,m,G,A,f3⟩:=two x.A x.B (fv cF / vb) (-(fv cF / vb*vi)) 258 387 (dA om).1 (dA om).2 U oz oz (dB om).1 (dB om).2 q3 oz oz;have j:∃ ok,Qcf n cF (toF vb)=some (toF (fv cF / vb),ok):=by
    rw[Qho (k:=b) hn om om kcF (Jq om),Jf];by_cases M:vb=0
    . rw[oq M,M,show fv cF / 0=0 by rw[db,Rat.inv_zero,Rat.mul_zero]];exact⟨_,rfl⟩
    . rw[oj M];exact⟨_,rfl⟩
   obtain⟨ok,j⟩:=j;rw[gI,sbind,gB om,sbind,j,sbind];simp only[];rw[m,sbind,Yc (k:=258) hn om om (Jq om) (Jq om),sbind,Jf,Jf,Qhn hn (Fk_Fw (Jq (k:=387) om) om),sbind,Jf];simp only[];rw[G,sbind,sbind];exact⟨d,rfl,A,f3⟩
 simp only[oj o10];by_cases O:x.Op=11
 . simp only[oq O]
   unfold Qh1;simp only[jn_eq,bifd];have hB8:x.B.natAbs<=8:=by unfold mayR at T;rw[oj (show ¬ x.Op=1 by omega),oj (show ¬ x.Op=2 by omega),oj (show ¬ x.Op=3 by omega),oj (show ¬ x.Op=4 by omega),oj (show ¬ x.Op=6 by omega),oq O] at T;have W:=T.2.2;omega
   have qi:=Q38 (z:=x.B) hB8
   have N:∀ w:Rat,qw w<=1100->turnQ va vi x.B=w->∃ d,((Ko n x.B).bind λr22=>(W5 n r22 (toF w)).bind λr24=>(W5 n cF r24).bind λr26=>(J1 n t (toR vs) co (toF s.T) (toR s.Y) (toR s.P) x.A r26).bind λI=>(some (I.1,I.2.1,I.2.2.1,I.2.2.2):Option (Qm×List Qa×Qa×List Qa)))=some (t,toR vs,toF s.T,d)/\BkW (b+3000) d ⟨addAt s.co x.A (fv cF*((x.B:Rat)*turnQ va vi x.B)),s.T,s.Y,s.P⟩/\d.length=co.length:=λw hw e=>by
    have U:=X0 qi hw;have q2:=X0 u U;obtain⟨d,m,v,B,F⟩:=one x.A (fv cF*((x.B:Rat)*w)) 1230 (dA om).1 (dA om).2 om oz oz;rw[Qma hn om om,sbind,Yc (k:=1200) hn om om (Jq om) (Jq om),sbind,Jf,Jf,Yc (k:=b+1200) hn om om (Wg kcF om) (Jq om),sbind,Jf,m,sbind,e];exact⟨d,rfl,wrap v B om,F⟩
   rw[gI,sbind,Zp hn,sbind];by_cases h0:0<x.B
   . have hw1:=Qxn qA (e:=x.B - 1) om
     obtain⟨d,k1,k2,Z⟩:=N (va ^ (x.B - 1)) om (by unfold turnQ;rw[oq h0]);rw[oq h0,gA om,sbind,w64 om om,Qob (k:=129) hn om om (Jq qA),sbind,Jf,oj (show ¬(x.B - 1 < -8\/8<x.B - 1\/(x.B - 1<0/\va=0)) by omega)];simp only[];rw[k1,sbind];exact⟨d,rfl,k2,Z⟩
   . rw[oj h0]
     by_cases W:x.B<0
     . have hw1:=Qqb qI qA
       have j:∃ ok,Qcf n (toF vi) (toF va)=some (toF (vi / va),ok):=by
        rw[Qho (k:=129) hn om om (Jq om) (Jq om),Jf,Jf];by_cases M:va=0
        . rw[oq M,M,show vi / 0=0 by rw[db,Rat.inv_zero,Rat.mul_zero]];exact⟨_,rfl⟩
        . rw[oj M];exact⟨_,rfl⟩
       obtain⟨ok,j⟩:=j;obtain⟨d,k1,k2,Z⟩:=N (vi / va) om (by unfold turnQ;rw[oj h0,oq W]);rw[oq W,gA om,sbind,j,sbind];simp only[];rw[k1,sbind];exact⟨d,rfl,k2,Z⟩
     . obtain⟨d,k1,k2,Z⟩:=N 0 (by rw[Zo];omega) (by unfold turnQ;rw[oj h0,oj W])
       rw[oj W,k1,sbind];exact⟨d,rfl,k2,Z⟩
 simp only[oj O];exact⟨co,rfl,⟨w1,kmono,om,Jb P om,Jb Q om⟩,rfl⟩
set_option maxRecDepth 100000
def pullQ(lim:Int)(code:List Qv)(vs:List Rat):Nat->BkS->Nat ⊕ BkS
 | 0,s=>.inr s
 | i+1,s=>match code[i]? with
   | none=>.inr s
   | some x=>if (qz (s.co.getD i 0):Int)<=lim then pullQ lim code vs i (Yx x (s.co.getD i 0) (vs.getD i 0) vs s) else .inl i
def coQ(m:Nat)(outs:List Int)(w:List Rat):List Rat:=(List.zip outs w).foldl (λco z=>addAt co z.1 z.2) (List.replicate m 0)
def backQ(t:Qm)(lim:Int)(T:Rat)(Y P w:List Rat):(Int×Int×Nat) ⊕ (Rat×List Rat×List Rat):=
 match runQ lim T Y P t.Code 0 [] with
 | .inl e=>.inl (e.1,0,e.2)
 | .inr vs=>match pullQ lim t.Code vs vs.length ⟨coQ vs.length t.Az w,0,List.replicate t.A0.toNat 0,List.replicate t.A3.toNat 0⟩ with
   | .inl i=>.inl (6,2,i)
   | .inr s=>match fitQ lim (s.T::(s.Y++s.P)) 0 with
     | some j=>.inl (6,3,j)
     | none=>.inr (s.T,s.Y,s.P)
theorem Ja5{n k:Nat}{t:Qm}{p:V3}{bits:Int}(hn:big<=n)(i:129<=k)(hk:k<1048576)(j:Q1i n k t)(d:Fk k p.T)(f:FR k p.Y)(a:FR k p.P)(m:(p.Y.length:Int)=t.A0)(hp:(p.P.length:Int)=t.A3):
 Qka n t p bits=some (match runQ (min (max bits 0) 4096) (fv p.T) (rv p.Y) (rv p.P) t.Code 0 [] with | .inl e=>([],⟨e.1,0,0,(e.2:Int)⟩) | .inr l=>(toR l,⟨0,0,0,0⟩)):=by
 obtain⟨r,h,w⟩:=j;obtain⟨⟨q,s⟩,⟨u,v⟩,x,A⟩:=r.1;have eT:=qw_fv d om;have eY:=QR_rv f om;have eP:=QR_rv a om;unfold Qka Qgp X9;rw[V0 hn (Fk_Fw d om),sbind,Qcx hn om f om,sbind,Qcx hn om a om,sbind,sbind,sbind];simp only[];obtain⟨B,e⟩:=Jc8 (g:=⟨⟨0,0⟩,min (max bits 0) 4096⟩) hn i hk r h w eT eY eP (by rw[Ji];exact m) (by rw[Ji];exact hp) (by simp only[];omega);rw[e,sbind];simp only[];cases runQ (min (max bits 0) 4096) (fv p.T) (rv p.Y) (rv p.P) t.Code 0 []<;>rfl
theorem Jde(m:Nat):rv (List.replicate m (⟨⟨false,[]⟩,[]⟩:Qa))=List.replicate m 0:=by unfold rv;rw[List.map_replicate];congr 1
theorem Jdf(m k:Nat):FR k (List.replicate m (⟨⟨false,[]⟩,[]⟩:Qa)):=λx a=>by rw[(tb.1 a).2];exact⟨(λ_ h=>by cases h),yx _,(λ_ h=>by cases h),yx _⟩
theorem Qxv{n:Nat}{a b:Nat}(hn:big<=n)(d:a<=300)(hb:b<=300):Qk1 n (a:Int) (b:Int)=some (toF 0,toR (List.replicate a 0),toR (List.replicate b 0)):=by unfold Qk1;rw[Zp hn,sbind,Qf1 hn d,sbind,Qf1 hn hb,sbind]
theorem Q6c{k m:Nat}(hk:1<=k):QR k (List.replicate m 0):=λq a=>by rw[(tb.1 a).2,Zo];exact hk
theorem Jjm{n:Nat}{t:Qm}{vs:List Rat}{F:Qa×List Qa×List Qa}(hn:big<=n)(U:tapeR t)(V:QR 129 vs)(W:vs.length=t.Code.length):∀(i:Nat) (m:Nat) (co:List Qa) (s:BkS) (g:Qk) (b:Nat),i<=vs.length->i<m->129<=b->b+i*3000<100000000->BkW b co s->co.length=vs.length->(s.Y.length:Int)=t.A0->(s.P.length:Int)=t.A3->g.limit<=4096 ->
 ∃ C f,C.limit=g.limit/\loopM (λ(a:Qm×(List Qa)×(List Qa)×Qa×(List Qa)×(List Qa)×Qk×Int)=>
  bif decide ((0:Int)<=a.2.2.2.2.2.2.2) then (
   (getI a.2.2.1 a.2.2.2.2.2.2.2).bind λJ=>
   (Vr n J).bind λI=>
   (Wa n a.2.2.2.2.2.2.1 I).bind λB=>
   bif !B.1 then (
    some (Lp.out (Lp.out (((⟨F.1,F.2.1,F.2.2⟩:V8),(⟨(6:Int),0,(2:Int),a.2.2.2.2.2.2.2⟩:Qe))))))
   else (
    (Zz n a.1 a.2.1 a.2.2.1 a.2.2.2.1 a.2.2.2.2.1 a.2.2.2.2.2.1 a.2.2.2.2.2.2.2).bind λd=>
    some (Lp.go (d.1,d.2.1,d.2.2.2.1,d.2.2.1,d.2.2.2.2.1,d.2.2.2.2.2,B.2,wrap64 (a.2.2.2.2.2.2.2 - (1:Int))))))
  else (
   some (Lp.out (Lp.go (a.1,a.2.1,a.2.2.1,a.2.2.2.1,a.2.2.2.2.1,a.2.2.2.2.2.1,a.2.2.2.2.2.2.1))))) m (t,toR vs,co,toF s.T,toR s.Y,toR s.P,g,(i:Int) - 1) =
   some (match pullQ g.limit t.Code vs i s with | .inl j=>Lp.out (((⟨F.1,F.2.1,F.2.2⟩:V8),(⟨6,0,2,(j:Int)⟩:Qe))) | .inr z=>Lp.go (t,toR vs,f,toF z.T,toR z.Y,toR z.P,C)) /\
   ∀ z,pullQ g.limit t.Code vs i s=.inr z->qw z.T<=b+i*3000/\QR (b+i*3000) z.Y/\QR (b+i*3000) z.P/\z.Y.length=s.Y.length/\z.P.length=s.P.length:=by
 intro i
 induction i with
 | zero=>
   intro m co s g b _ L A _ l _ _ _ _;refine⟨g,co,rfl,?_,?_⟩;simp only[pullQ];refine Kz ?_ L;rw[oo (show ¬(0:Int)<=((0:Nat):Int) - 1 by omega),bifF];intro z v;simp only[pullQ] at v;cases v;exact⟨by have:=l.t;omega,Jb l.y om,Jb l.p om,rfl,rfl⟩
 | succ i X=>
   intro m co s g b hi L A R l H M hp T;have E:t.Code[i]?=some (t.Code[i]' om):=oi _;generalize t.Code[i]' om=x at E;obtain⟨cF,e⟩:∃ cF,co[i]?=some cF:=⟨co[i]' om,oi _⟩
   have K:s.co.getD i 0=fv cF:=by rw[<-l.c];exact Qmt e
   have kcF:Fk b cF:=l.k cF (ud e);have hq:=qw_fv kcF om;obtain⟨m,rfl⟩:∃ q,m=q+1:=⟨m - 1,om⟩
   simp only[pullQ,E];by_cases u:(qz (s.co.getD i 0):Int)<=g.limit;have S:qw (s.co.getD i 0)<=129:=by have:=qw_qz (q:=s.co.getD i 0) (b:=4096) om;omega
   obtain⟨f,N,O,e3⟩:=Jdd (i:=i) hn A om l E (U.2.1 i x E) V om H S M hp;obtain⟨l1,Z,l3⟩:=Qkk (x:=x) (c:=s.co.getD i 0) (r:=vs.getD i 0) (vs:=vs) (s:=s);simp only[oq u];rw[K] at u;obtain⟨C,G,P,Q,f3⟩:=X m f _ (noteG g (fv cF)) (b+3000) om om om om O om (by rw[Z];exact M) (by rw[l3];exact hp) T;refine⟨C,G,P,?_,λz v=>?_⟩;refine(Qau ?_).trans Q;rw[show((i+1:Nat):Int) - 1=(i:Int) by omega,ol (show(0:Int)<=(i:Int) by omega),bifT,Q7 e,sbind,V0 hn (Fk_Fw kcF om),sbind,Qoy hn om,sbind];simp only[];rw[ol u,ou,bifF,N,sbind,w64 om om];obtain⟨k1,k2,Y,k4,k5⟩:=f3 z v;exact⟨om,Jb k2 om,Jb Y om,om,om⟩;simp only[oj u];rw[K] at u;refine⟨g,co,rfl,?_,λz v=>by cases v⟩;refine Kz ?_ om;rw[show((i+1:Nat):Int) - 1=(i:Int) by omega,ol (show(0:Int)<=(i:Int) by omega),bifT,Q7 e,sbind,V0 hn (Fk_Fw kcF om),sbind,Qoy hn om,sbind];simp only[];rw[oo u,ow,bifT]
theorem Q8b{n k kw:Nat}{t:Qm}{p:V3}{w:List Qa}{bits:Int}(hn:big<=n)(h1:129<=k)(hk:k<1048576)(H:1<=kw)(hkw:kw<=1000000)(R:Q1i n k t)(hT:Fk k p.T)(hY:FR k p.Y)(hP:FR k p.P)(hw:FR kw w)(hy:(p.Y.length:Int)=t.A0)(hp:(p.P.length:Int)=t.A3)(hwl:w.length=t.Az.length):
 Qnh n t p w bits=some (match backQ t (min (max bits 0) 4096) (fv p.T) (rv p.Y) (rv p.P) (rv w) with | .inl e=>(⟨toF 0,[],[]⟩,⟨e.1,0,e.2.1,(e.2.2:Int)⟩) | .inr z=>(⟨toF z.1,toR z.2.1,toR z.2.2⟩,⟨0,0,0,0⟩)) /\
 (∀ e,backQ t (min (max bits 0) 4096) (fv p.T) (rv p.Y) (rv p.P) (rv w)=.inl e->e.1≠0)/\∀ z,backQ t (min (max bits 0) 4096) (fv p.T) (rv p.Y) (rv p.P) (rv w)=.inr z->QR 129 z.2.1/\QR 129 z.2.2/\(z.2.1.length:Int)=t.A0/\(z.2.2.length:Int)=t.A3:=by
 have hd:=R.r.1;obtain⟨⟨d1,d2⟩,⟨d3,d4⟩,d5,d6⟩:=hd;unfold Qnh backQ;have z0:=Qxv (n:=n) (a:=0) (b:=0) hn oz oz;rw[show((0:Nat):Int)=0 from rfl] at z0;rw[z0,sbind,ol (show(w.length:Int)=(t.Az.length:Int) by omega),ou,bifF,Ja5 hn h1 hk R hT hY hP hy hp,sbind];cases hr:runQ (min (max bits 0) 4096) (fv p.T) (rv p.Y) (rv p.P) t.Code 0 [] with
 | inl e=>
   have hk:=Qoz hr;simp only[];rw[Ky om,ow,bifT];exact⟨rfl,(λg hg=>by cases hg;show e.1≠0;omega),λz hz=>by cases hz⟩
 | inr vs=>
   obtain⟨l1,l2⟩:=Qtb om (λ_ h=>by cases h) hr;have hl:vs.length=t.Code.length:=by simpa using l1
   simp only[];rw[Kk,ou,bifF,Jj,Qev om om,sbind];have zz:=Qxv (n:=n) (a:=t.A0.toNat) (b:=t.A3.toNat) hn om om;rw[Int.toNat_of_nonneg om,Int.toNat_of_nonneg d3] at zz;rw[zz,sbind]
   have J:∀(os:List Int) (i:Nat) (co:List Qa) (q:List Rat) (b:Nat) (K:Lp (Qm×(List Qa)×(List Qa)×Qa) (V8×Qe)->Option (V8×Qe)),(∀(j:Nat) o,os[j]?=some o->(0<=o/\o<(vs.length:Int))/\t.Az[i+j]?=some o)->i+os.length=t.Az.length->rv co=q->FR b co->co.length=vs.length->b+os.length*(kw+1)<1000000000 ->
    ∃ f,(rangeL (λ(Y:Nat) (x28:Int) (A:Qm×(List Qa)×(List Qa)×Qa)=>
      (getI w (Y:Int)).bind λy30=>
      (J1 n A.1 A.2.1 A.2.2.1 A.2.2.2 (toR (List.replicate t.A0.toNat 0)) (toR (List.replicate t.A3.toNat 0)) x28 y30).bind λv=>
      some (Lp.go (v.1,v.2.1,v.2.2.2,v.2.2.1))) os i (t,toR vs,co,toF 0)).bind K=K (.go (t,toR vs,f,toF 0))/\rv f=(List.zip os ((rv w).drop i)).foldl (λco z=>addAt co z.1 z.2) q/\FR (b+os.length*(kw+1)) f/\f.length=vs.length:=by
    intro os
    induction os with
    | nil=>
      intro i co q b K _ _ e hb hc _;exact⟨co,rfl,by rw[List.zip_nil_left];exact e,Vf hb om,hc⟩
    | cons o os ih=>
      intro i co q b K hm hi e hb hc W;rw[xn] at hi W;obtain⟨⟨o1,o2⟩,o3⟩:=hm 0 o rfl;have C:i<w.length:=om
      have L:w[i]?=some w[i]:=oi C;have M:=hw w[i] (xi C);have hdrop:(rv w).drop i=fv w[i]::(rv w).drop (i+1):=by
       have G:i<(rv w).length:=by rw[Ji];exact C
       rw[xe G];congr 1;exact gy _
      generalize w[i]=wi at L M hdrop;have I:(os.length+1)*(kw+1)=os.length*(kw+1)+(kw+1):=uz _ _;obtain⟨U,s1,s2,s3,s4⟩:=Qvo (n:=n) (t:=t) (done:=toR vs) (gT:=toF 0) (gY:=toR (List.replicate t.A0.toNat 0)) (gP:=toR (List.replicate t.A3.toNat 0)) (a:=o) hn H om hb M o1 om
      obtain⟨f,V,P,f3,f4⟩:=ih (i+1) U (addAt q o (fv wi)) (b+kw+1) K (λj o' Q=>by
       have:=hm (j+1) o' (by simpa using Q)
       rwa [show i+(j+1)=i+1+j by omega] at this) om (by rw[s2,e]) s3 om om
      refine⟨f,?_,?_,Vf f3 (by rw[xn,I];omega),f4⟩
      . simp only[rangeL]
        rw[Q7 L,sbind,s1,sbind];exact V
      . rw[hdrop,List.zip_cons_cons,dr]
        exact P
   have hkm:t.Az.length*(kw+1)<=6*(kw+1):=xh _ om
   obtain⟨f,V,P,f3,f4⟩:=J t.Az 0 (List.replicate vs.length ⟨⟨false,[]⟩,[]⟩) (List.replicate vs.length 0) 129 (lpK λ(B:Qm×(List Qa)×(List Qa)×Qa)=>
    (X9 bits).bind λZ=>
    (loopM (λ(d:Qm×(List Qa)×(List Qa)×Qa×(List Qa)×(List Qa)×Qk×Int)=>
     bif decide ((0:Int)<=d.2.2.2.2.2.2.2) then (
      (getI d.2.2.1 d.2.2.2.2.2.2.2).bind λy58=>
      (Vr n y58).bind λr60=>
      (Wa n d.2.2.2.2.2.2.1 r60).bind λN=>
      bif !N.1 then (
       some (Lp.out (Lp.out (((⟨toF 0,toR (List.replicate 0 0),toR (List.replicate 0 0)⟩:V8),(⟨(6:Int),0,(2:Int),d.2.2.2.2.2.2.2⟩:Qe))))))
      else (
       (Zz n d.1 d.2.1 d.2.2.1 d.2.2.2.1 d.2.2.2.2.1 d.2.2.2.2.2.1 d.2.2.2.2.2.2.2).bind λs=>
       some (Lp.go (s.1,s.2.1,s.2.2.2.1,s.2.2.1,s.2.2.2.2.1,s.2.2.2.2.2,N.2,wrap64 (d.2.2.2.2.2.2.2 - (1:Int))))))
     else (
      some (Lp.out (Lp.go (d.1,d.2.1,d.2.2.1,d.2.2.2.1,d.2.2.2.2.1,d.2.2.2.2.2.1,d.2.2.2.2.2.2.1))))) n (B.1,B.2.1,B.2.2.1,B.2.2.2,toR (List.replicate t.A0.toNat 0),toR (List.replicate t.A3.toNat 0),Z,wrap64 ((vs.length:Int) - (1:Int)))).bind (lpK λ(r:Qm×(List Qa)×(List Qa)×Qa×(List Qa)×(List Qa)×Qk)=>
    (Qpi (⟨r.2.2.2.1,r.2.2.2.2.1,r.2.2.2.2.2.1⟩:V8)).bind λr66=>
    (Xr n r.2.2.2.2.2.2 r66).bind λO=>
    bif !O.2.1 then (
     some ((⟨toF 0,toR (List.replicate 0 0),toR (List.replicate 0 0)⟩:V8),(⟨(6:Int),0,(3:Int),O.1⟩:Qe)))
    else (
     some ((⟨r.2.2.2.1,r.2.2.2.2.1,r.2.2.2.2.2.1⟩:V8),(⟨0,0,0,0⟩:Qe))))) (λj o Q=>by rw[xg];exact⟨by have:=R.r.2.2 o (Jm Q);omega,Q⟩) om (Jde _) (Jdf _ _) oc om
   rw[dt] at P;have X:BkW (129+t.Az.length*(kw+1)) f ⟨coQ vs.length t.Az (rv w),0,List.replicate t.A0.toNat 0,List.replicate t.A3.toNat 0⟩:=⟨P,f3,by show qw 0<=_;rw[Zo];omega,Q6c om,Q6c om⟩
   obtain⟨g',co2,p1,p2,p3⟩:=Jjm (F:=(toF 0,toR (List.replicate 0 0),toR (List.replicate 0 0))) hn R.r l2 hl vs.length n f _ ⟨⟨0,0⟩,min (max bits 0) 4096⟩ _ (xr _) (by unfold big at hn;omega) om om X f4 oh oh (by show min (max bits 0) 4096<=4096;omega);refine⟨?_,?_,?_⟩
   . refine Eq.trans V ?_
     rw[Vn];unfold X9;rw[sbind,w64 om om];simp only[] at p2 |-;rw[p2,sbind];cases hp:pullQ (min (max bits 0) 4096) t.Code vs vs.length ⟨coQ vs.length t.Az (rv w),0,List.replicate t.A0.toNat 0,List.replicate t.A3.toNat 0⟩ with
     | inl j=>rfl
     | inr z=>
       obtain⟨b1,b2,b3,S,T⟩:=p3 z hp;simp only[yt] at S T;simp only[];rw[Vn];unfold Qpi;simp only[];rw[J5 (by rw[Jj];simp;omega) (by rw[Jj];simp;omega),sbind,J5 (by simp only[yn,Jj,xn,yr];omega) (by simp only[yn,Jj,xn,yr];omega),sbind,sbind];have el:[toF z.T]++toR z.Y++toR z.P=toR (z.T::(z.Y++z.P)):=by unfold toR;simp
       obtain⟨g2,r1,r2⟩:=Qt9 (g:=g') (l:=z.T::(z.Y++z.P)) hn (λx u=>by
        rcases xu.1 u with rfl | u
        . omega
        . rcases yd.1 u with u | u
          . have:=b2 x u;omega
          . have:=b3 x u;omega)
       rw[el,r2,sbind,p1];simp only[];cases fitQ (min (max bits 0) 4096) (z.T::(z.Y++z.P)) 0<;>rfl
   . intro e m
     cases hp:pullQ (min (max bits 0) 4096) t.Code vs vs.length ⟨coQ vs.length t.Az (rv w),0,List.replicate t.A0.toNat 0,List.replicate t.A3.toNat 0⟩ with
     | inl j=>rw[hp] at m;cases m;show(6:Int)≠0;decide
     | inr z=>
       rw[hp] at m;simp only[] at m;cases E:fitQ (min (max bits 0) 4096) (z.T::(z.Y++z.P)) 0 with
       | some j=>rw[E] at m;cases m;show(6:Int)≠0;decide
       | none=>rw[E] at m;cases m
   . intro e m
     cases hp:pullQ (min (max bits 0) 4096) t.Code vs vs.length ⟨coQ vs.length t.Az (rv w),0,List.replicate t.A0.toNat 0,List.replicate t.A3.toNat 0⟩ with
     | inl j=>rw[hp] at m;cases m
     | inr z=>
       obtain⟨b1,b2,b3,S,T⟩:=p3 z hp;simp only[yt] at S T;rw[hp] at m;simp only[] at m;cases E:fitQ (min (max bits 0) 4096) (z.T::(z.Y++z.P)) 0 with
       | some j=>rw[E] at m;cases m
       | none=>
         rw[E] at m;cases m;have hq:=Qk6 om E;exact⟨λx u=>hq x (.tail _ (yp _ u)),λx u=>hq x (.tail _ (uj _ u)),by show(z.Y.length:Int)=_;omega,by show(z.P.length:Int)=_;omega⟩
set_option maxRecDepth 100000
def bslQ(As:List (List Rat))(b H:Rat)(W:List Rat)(i:Nat)(ls:List (List Rat)):List Rat:=
 scaleQ H (mixQ ((As.drop (i+1)).map λa=>a.getD i 0) ls (scaleQ b W))
def bstageQ(t:Qm)(lim:Int)(T H:Rat)(P y:List Rat)(c:Rat)(k:List Rat)(i:Nat):Qe ⊕ (List Rat×List Rat):=
 match fitQ lim k 0 with
 | some j=>.inl ⟨6,0,(i:Int),300+(j:Int)⟩
 | none=>match backQ t lim (T+H*c) y P k with
   | .inl e=>.inl ⟨e.1,0,(i:Int),(e.2.2:Int)⟩
   | .inr z=>.inr (z.2.1,z.2.2)
structure BdS where
 ls:List (List Rat)
 Y:List Rat
 P:List Rat
def bstagesQ(t:Qm)(s:Qw)(lim:Int)(T H:Rat)(P W:List Rat)(yss:List (List Rat)):Nat->BdS->Qe ⊕ BdS
 | 0,z=>.inr z
 | i+1,z=>match bstageQ t lim T H P (yss.getD i []) ((rv s.C).getD i 0) (bslQ (s.A.map rv) ((rv s.B).getD i 0) H W i z.ls) i with
   | .inl f=>.inl f
   | .inr g=>bstagesQ t s lim T H P W yss i ⟨g.1::z.ls,addQ z.Y g.1,addQ z.P g.2⟩
def bdoQ(t:Qm)(s:Qw)(lim:Int)(T H:Rat)(P W:List Rat)(yss:List (List Rat)):Qe ⊕ (List Rat×List Rat):=
 match bstagesQ t s lim T H P W yss s.B.length ⟨[],W,List.replicate P.length 0⟩ with
 | .inl f=>.inl f
 | .inr z=>match fitQ lim z.Y 0 with
   | some j=>.inl ⟨6,0,(s.B.length:Int),300+(j:Int)⟩
   | none=>match fitQ lim z.P 0 with
     | some j=>.inl ⟨6,0,(s.B.length:Int)+1,300+(j:Int)⟩
     | none=>.inr (z.Y,z.P)
theorem Jnt{out l:List Rat}{c:Rat}:addQ out (scaleQ c l)=List.zipWith (λx o=>o+c*x) l out:=by unfold addQ scaleQ;rw[dc,List.zipWith_comm]
theorem Qzy{n k:Nat}{a b c d:List Qa}(hn:big<=n)(j:1<=k)(hk:k<1099511627776)(l:FR k a)(hb:FR k b)(m:FR k c)(hd:FR k d)(q:a.length<=1000000)(i:b.length<=1000000):
 Qmk n ⟨a,b⟩ ⟨c,d⟩=some (if a.length=c.length/\b.length=d.length then (⟨toR (addQ (rv a) (rv c)),toR (addQ (rv b) (rv d))⟩,true) else (⟨[],[]⟩,false)):=by
 unfold Qmk;rw[Qfi hn j hk l m q,sbind,Qfi hn j hk hb hd i,sbind];simp only[jn_eq];by_cases e:a.length=c.length;by_cases f:b.length=d.length;rw[oq e,oq f,oq ⟨e,f⟩];rfl;rw[oq e,oj f,oj (λh:a.length=c.length/\b.length=d.length=>f h.2)];rfl;rw[oj e,oj (λh:a.length=c.length/\b.length=d.length=>e h.1)];rfl
section
variable {n k:Nat}{p:Qg}{t h:Qa}{y w:List Qa}{g:Qk}{md:Jk}{sm:J3}
theorem Qy8{l:List Rat}{ys:List (List Qa)}{x2:Int}(hn:big<=n)(i:QR 1099511627775 l)(m:l.length<=1000):
 ∃ a,a.limit=g.limit/\Xs n p t h w md ys sm g (toR l) x2=some (match fitQ g.limit l 0 with | none=>(⟨0,0,0,0⟩,a) | some j=>(⟨6,0,x2,300+(j:Int)⟩,a)):=by
 obtain⟨a,d,e⟩:=Qt9 (g:=g) hn i;refine⟨a,d,?_⟩;unfold Xs;rw[e,sbind];cases f:fitQ g.limit l 0 with
 | none=>rfl
 | some j=>
   have:=Qj1 f;simp only[ow,bifT];rw[w64 om om]
theorem Jdg{i:Nat}{b:Qa}{ls:List (List Rat)}{ys:List (List Qa)}(hn:big<=n)(h0:129<=k)(hk:k<8000)(ok:PrbOK n k p t h y)(Y:FR k w)(hwl:w.length=y.length)(hb:p.Av.B[i]?=some b)(hls:ls.length+(i+1)=p.Av.B.length)
 (f:∀ a∈ls,QR 129 a/\a.length=y.length) (N:∀(q:Nat) a,ls[q]?=some a->ys[i+1+q]?=some (toR a)) :
 Qb3 n p t h w md ys sm g (i:Int)=some (toR (bslQ (p.Av.A.map rv) (fv b) (fv h) (rv w) i ls))/\QR (21*k) (bslQ (p.Av.A.map rv) (fv b) (fv h) (rv w) i ls)/\(bslQ (p.Av.A.map rv) (fv b) (fv h) (rv w) i ls).length=w.length:=by
 obtain⟨⟨d1,d2⟩,⟨d3,d4⟩,d5,d6⟩:=ok.tp.r.1;obtain⟨⟨g1,g2⟩,g3,g4,g5,g6⟩:=ok.sr.2.1;have hyl:=ok.yl;have A:=ok.sw.b b (Jm hb);have I:=qw_fv A om;have H:=qw_fv ok.hk om;have Z:=Qkj I (QR_rv Y om);have l0:(scaleQ (fv b) (rv w)).length=w.length:=by rw[W6,Ji]
 have loop:∀(r:List (List Qa)) (ls:List (List Rat)) (j m c:Nat) (out:List Rat),r.length=ls.length->j+r.length=p.Av.B.length->(∀(q:Nat) a,r[q]?=some a->p.Av.A[j+q]?=some a)->(∀(q:Nat) a,ls[q]?=some a->ys[j+q]?=some (toR a))->(∀ a∈ls,QR 129 a/\a.length=y.length)->i<j->QR c out->1<=c->c+r.length*(k+130)<100000000->out.length=y.length->r.length<m ->
  loopM (λ(d:(List Qa)×Int)=>
   bif decide (d.2<(p.Av.B.length:Int)) then (
    (getI p.Av.A d.2).bind λR=>
    (getI R (i:Int)).bind λS=>
    (getI ys d.2).bind λT=>
    (Yo n S T).bind λP=>
    (Qbo n ([d.1,P]:List (List Qa))).bind λQ=>
    some (Lp.go (Q.1,wrap64 (d.2+(1:Int)))))
   else (
    some (Lp.out d.1))) m (toR out,(j:Int))=some (toR (mixQ (r.map λa=>(rv a).getD i 0) ls out)):=by
  intro r
  induction r with
  | nil=>
    intro ls j m c out s L _ _ _ _ _ _ _ _ F;rw[yr] at s L F;have:ls=[]:=xx s.symm;subst this;refine Kz ?_ F;rw[oo om,bifF];rfl
  | cons a r ih=>
    intro ls j m c out s L U V G hij C hc1 J hol F;rw[xn] at s L F J;obtain⟨l,ls,rfl⟩:∃ l O,ls=l::O:=by
     cases ls with
     | nil=>simp at s
     | cons l ls=>exact⟨l,ls,rfl⟩
    rw[xn] at s;obtain⟨m,rfl⟩:∃ q,m=q+1:=⟨m - 1,om⟩
    have eA:p.Av.A[j]?=some a:=U 0 a rfl;have eY:ys[j]?=some (toR l):=V 0 l rfl;obtain⟨lq,ll⟩:=G l (.head _);have hal:=g6 j a eA;obtain⟨x,M⟩:∃ x,a[i]?=some x:=⟨a[i]' om,oi _⟩
    have E:=ok.sw.a a (Jm eA) x (Jm M);have X:(r.length+1)*(k+130)=r.length*(k+130)+(k+130):=uz _ _;have q1:=Qkj (qw_fv E om) lq;have q2:=Qn0 C q1;have e1:(addQ out (scaleQ (fv x) l)).length=y.length:=by rw[Zl,W6];omega
    refine(Qau ?_).trans (ih ls (j+1) m (c+(k+129)+1) (addQ out (scaleQ (fv x) l)) om om (λq u e=>by have:=U (q+1) u (by simpa using e);rwa [show j+(q+1)=j+1+q by omega] at this) (λq u e=>by have:=V (q+1) u (by simpa using e);rwa [show j+(q+1)=j+1+q by omega] at this) (λu e=>G u (.tail _ e)) om q2 om om e1 om) |>.trans ?_
    simp only[];rw[ol om,bifT,Q7 eA,sbind,Q7 M,sbind,Q7 eY,sbind,Zq (k:=k) hn om om E (Vf (Vd lq) h0) (by rw[Jj];omega),sbind,Wn,Qfi (k:=c+(k+129)) hn om om (Vd (Jb C om)) (Vd (Jb q1 om)) (by rw[Jj];omega),sbind,Jj,Jj,W6,oq om,Wn,Wn,w1 om];simp only[yy,mixQ];rw[Jnt,Qmt M]
 have B:(p.Av.A.drop (i+1)).length=ls.length:=by rw[uc];omega
 have hm8:ls.length*(k+130)<=8*(k+130):=xh _ om;have e0:=loop (p.Av.A.drop (i+1)) ls (i+1) n (k+k) (scaleQ (fv b) (rv w)) B om (λq a e=>by rwa [vc] at e) N f om Z om (by rw[B];omega) om (by unfold big at hn;omega);have ea:((p.Av.A.map rv).drop (i+1)).map (λa=>a.getD i 0)=(p.Av.A.drop (i+1)).map λa=>(rv a).getD i 0:=by
  rw[<-wt,yo];rfl
 have K:QR k ((p.Av.A.drop (i+1)).map λa=>(rv a).getD i 0):=λq G=>by obtain⟨a,v,rfl⟩:=xz.1 G;exact Vp (QR_rv (ok.sw.a a (vu v)) om) om
 have qm:=Qt7 (k:=129) K (λa v=>(f a v).1) Z;have lm:=Qg7 (m:=w.length) (cs:=(p.Av.A.drop (i+1)).map λa=>(rv a).getD i 0) (l:=ls) (λa v=>by rw[(f a v).2];omega) l0;have W:ls.length*(k+129+1)<=8*(k+129+1):=xh _ om;unfold bslQ;rw[ea];refine⟨?_,Jb (Qkj H qm) om,by rw[W6];exact lm⟩;unfold Qb3;rw[Q7 hb,sbind,Zq (k:=k) hn om om A Y om,sbind,w1 om,e0,sbind,Zq (k:=21*k) hn om om (Wg ok.hk om) (Vd (Jb qm om)) (by rw[Jj];omega),sbind,Wn]
theorem Je6{i:Nat}{b c:Qa}{d sY sP:List Rat}{ls yss:List (List Rat)}{ys ks0:List (List Qa)}{nx er:List Qa}{bb:Nat}(hn:big<=n)(h0:129<=k)(hk:k<8000)(ok:PrbOK n k p t h y)(Y:FR k w)(G:w.length=y.length)(W:g.limit=limQ p.Ay)
 (hb:p.Av.B[i]?=some b) (N:p.Av.C[i]?=some c) (H:yss[i]?=some d) (I:QR 129 d) (P:d.length=y.length) (F:ls.length+(i+1)=p.Av.B.length)
 (E:∀ a∈ls,QR 129 a/\a.length=y.length) (J:∀(q:Nat) a,ls[q]?=some a->ys[i+1+q]?=some (toR a)) (A:i<ys.length) (l:129<=bb) (V:bb<1000000) (qY:QR bb sY) (qP:QR bb sP) (lY:sY.length=y.length) (lP:sP.length=p.P.length) :
 ∃ B,B.limit=g.limit/\∃ r,Qak n p t h w ⟨toRR yss,ks0,nx,er⟩ ys ⟨toR sY,toR sP⟩ g (i:Int)=some r /\
   match bstageQ p.Tape (limQ p.Ay) (fv t) (fv h) (rv p.P) d (fv c) (bslQ (p.Av.A.map rv) (fv b) (fv h) (rv w) i ls) i with
   | .inl f=>r.1=f/\f.Ax≠0
   | .inr z=>r=(⟨0,0,0,0⟩,p,t,h,w,⟨toRR yss,ks0,nx,er⟩,⟨toR (addQ sY z.1),toR (addQ sP z.2)⟩,ys.set i (toR z.1),B)/\QR 129 z.1/\QR 129 z.2/\z.1.length=y.length/\z.2.length=p.P.length:=by
 obtain⟨⟨d1,d2⟩,⟨d3,d4⟩,d5,d6⟩:=ok.tp.r.1;obtain⟨⟨g1,g2⟩,g3,g4,g5,g6⟩:=ok.sr.2.1;have hyl:=ok.yl;have X:=ok.pl;have m:=ok.sw.c c (Jm N);have hi:=Kc hb;obtain⟨s1,L,s3⟩:=Jdg (md:=⟨toRR yss,ks0,nx,er⟩) (sm:=⟨toR sY,toR sP⟩) (g:=g) hn h0 hk ok Y G hb F E J;unfold Qak;rw[s1,sbind];generalize bslQ (p.Av.A.map rv) (fv b) (fv h) (rv w) i ls=K at L s3;obtain⟨B,S,T⟩:=Qy8 (p:=p) (t:=t) (h:=h) (w:=w) (g:=g) (md:=⟨toRR yss,ks0,nx,er⟩) (sm:=⟨toR sY,toR sP⟩) (ys:=ys) (x2:=(i:Int)) hn (Jb L (show 21*k<=1099511627775 by omega)) om;refine⟨B,S,?_⟩;rw[T,sbind,W];unfold bstageQ;cases hf:fitQ (limQ p.Ay) K 0 with
 | some j=>
   simp only[];rw[Ky oz,ow,bifT];exact⟨_,rfl,rfl,oz⟩
 | none=>
   simp only[];rw[Kk,ou,bifF];have v:=X0 (qw_fv ok.hk om) (qw_fv m om);have M:=Zx (qw_fv ok.tk om) v;rw[Qwp hn h0 om ok.tk ok.hk m N,sbind,Q7 (show(toRR yss)[i]?=some (toR d) by unfold toRR;rw[xm,H];rfl),sbind];obtain⟨U,C,f3⟩:=Q8b (k:=22*k) (kw:=21*k) (t:=p.Tape) (p:=⟨toF (fv t+fv h*fv c),toR d,p.P⟩) (w:=toR K) (bits:=p.Ay) hn om om om om ⟨ok.tp.r,ok.tp.h,λx Z=>Wg (ok.tp.w x Z) om⟩ (Jq om) (Vd (Jb I om)) (Vf ok.pk om) (Vd L) (by simp only[Jj];omega) ok.pl (by rw[Jj];omega);rw[U,sbind];simp only[] at C f3 |-;rw[Jf,Wn,Wn] at C f3 |-;have u:limQ p.Ay=min (max p.Ay 0) 4096:=rfl;rw[u];cases O:backQ p.Tape (min (max p.Ay 0) 4096) (fv t+fv h*fv c) d (rv p.P) K with
   | inl e=>
     have s:=C e O;simp only[];rw[Ky s,ow,bifT];exact⟨_,rfl,rfl,s⟩
   | inr z=>
     obtain⟨Q,R,q3,q4⟩:=f3 z O;simp only[];rw[Kk,ou,bifF,Qb8 A,sbind,Qzy (k:=bb) hn om om (Vd qY) (Vd qP) (Vd (Jb Q l)) (Vd (Jb R l)) (by rw[Jj];omega) (by rw[Jj];omega),sbind,Jj,Jj,Jj,Jj,oq ⟨om,om⟩,Wn,Wn,Wn,Wn,ya];exact⟨_,rfl,rfl,Q,R,om,om⟩
abbrev BdSt:=Qg×Qa×Qa×(List Qa)×Jk×(List (List Qa))×J3×Qk×Int
abbrev BdG:=Qg×Qa×Qa×(List Qa)×Jk×(List (List Qa))×J3×Qk
abbrev BdR:=Qe×Qg×Qa×Qa×(List Qa)×Jk×J3×(List (List Qa))×Qk
def bdBody(n:Nat)(a:BdSt):Option (Lp BdSt (Lp BdG BdR)):=
    bif decide ((0:Int)<=a.2.2.2.2.2.2.2.2) then (
     (Qak n a.1 a.2.1 a.2.2.1 a.2.2.2.1 a.2.2.2.2.1 a.2.2.2.2.2.1 a.2.2.2.2.2.2.1 a.2.2.2.2.2.2.2.1 a.2.2.2.2.2.2.2.2).bind λd=>
     bif !(Qs d.1 (⟨0,0,0,0⟩:Qe)) then (
      some (Lp.out (Lp.out ((d.1,d.2.1,d.2.2.1,d.2.2.2.1,d.2.2.2.2.1,d.2.2.2.2.2.1,d.2.2.2.2.2.2.1,d.2.2.2.2.2.2.2.1,d.2.2.2.2.2.2.2.2)))))
     else (
      some (Lp.go (d.2.1,d.2.2.1,d.2.2.2.1,d.2.2.2.2.1,d.2.2.2.2.2.1,d.2.2.2.2.2.2.2.1,d.2.2.2.2.2.2.1,d.2.2.2.2.2.2.2.2,wrap64 (a.2.2.2.2.2.2.2.2 - (1:Int))))))
    else (
     some (Lp.out (Lp.go (a.1,a.2.1,a.2.2.1,a.2.2.2.1,a.2.2.2.2.1,a.2.2.2.2.2.1,a.2.2.2.2.2.2.1,a.2.2.2.2.2.2.2.1))))
def bdEnd(n:Nat)(x0_p:Qg)(t9:BdG):Option BdR:=
 (Xs n t9.1 t9.2.1 t9.2.2.1 t9.2.2.2.1 t9.2.2.2.2.1 t9.2.2.2.2.2.1 t9.2.2.2.2.2.2.1 t9.2.2.2.2.2.2.2 t9.2.2.2.2.2.2.1.Y (x0_p.Av.B.length:Int)).bind λa=>
 bif !(Qs a.1 (⟨0,0,0,0⟩:Qe)) then (
  some (a.1,t9.1,t9.2.1,t9.2.2.1,t9.2.2.2.1,t9.2.2.2.2.1,t9.2.2.2.2.2.2.1,t9.2.2.2.2.2.1,a.2))
 else (
  (Xs n t9.1 t9.2.1 t9.2.2.1 t9.2.2.2.1 t9.2.2.2.2.1 t9.2.2.2.2.2.1 t9.2.2.2.2.2.2.1 a.2 t9.2.2.2.2.2.2.1.P (wrap64 ((x0_p.Av.B.length:Int)+(1:Int)))).bind λd=>
  some (d.1,t9.1,t9.2.1,t9.2.2.1,t9.2.2.2.1,t9.2.2.2.2.1,t9.2.2.2.2.2.2.1,t9.2.2.2.2.2.1,d.2))
theorem Jjn(ys):Qdm n p t h w md ys sm g=(loopM (bdBody n) n (p,t,h,w,md,ys,sm,g,wrap64 ((p.Av.B.length:Int) - (1:Int)))).bind (lpK (bdEnd n p)):=wm (wm rfl)
structure BdOK(b m mp:Nat)(z:BdS):Prop where
 y:QR b z.Y
 p:QR b z.P
 yl:z.Y.length=m
 pl:z.P.length=mp
 l:∀ a∈z.ls,QR 129 a/\a.length=m
theorem Jnu{yss:List (List Rat)}{ks0:List (List Qa)}{nx er:List Qa}(hn:big<=n)(h0:129<=k)(hk:k<8000)(ok:PrbOK n k p t h y)(Y:FR k w)(O:w.length=y.length)
 (G:∀ a∈yss,QR 129 a/\a.length=y.length) (hyssl:yss.length=p.Av.B.length):∀(i m:Nat) (g:Qk) (z:BdS) (ys:List (List Qa)) (b:Nat),i<=p.Av.B.length->i<m->z.ls.length+i=p.Av.B.length->ys.length=p.Av.B.length->(∀(q:Nat) a,z.ls[q]?=some a->ys[i+q]?=some (toR a))->129<=b->b+i*130<1000000->BdOK b y.length p.P.length z->g.limit=limQ p.Ay ->
 match bstagesQ p.Tape p.Av (limQ p.Ay) (fv t) (fv h) (rv p.P) (rv w) yss i z with
 | .inl f=>∃ r,loopM (bdBody n) m (p,t,h,w,⟨toRR yss,ks0,nx,er⟩,ys,⟨toR z.Y,toR z.P⟩,g,(i:Int) - 1)=some (Lp.out r)/\r.1=f/\f.Ax≠0
 | .inr x=>∃ J j,J.limit=limQ p.Ay/\loopM (bdBody n) m (p,t,h,w,⟨toRR yss,ks0,nx,er⟩,ys,⟨toR z.Y,toR z.P⟩,g,(i:Int) - 1)=some (Lp.go (p,t,h,w,⟨toRR yss,ks0,nx,er⟩,j,⟨toR x.Y,toR x.P⟩,J))/\BdOK (b+i*130) y.length p.P.length x:=by
 obtain⟨⟨g1,g2⟩,g3,g4,g5,g6⟩:=ok.sr.2.1;intro i
 induction i with
 | zero=>
   intro m g z ys b _ R _ _ _ _ _ d N;simp only[bstagesQ];refine⟨g,ys,N,Kz ?_ R,⟨Jb d.y om,Jb d.p om,d.yl,d.pl,d.l⟩⟩;unfold bdBody;simp only[];rw[oo om,bifF]
 | succ i ih=>
   intro m g z ys b hi R Z F E M X d N;obtain⟨m,rfl⟩:∃ q,m=q+1:=⟨m - 1,om⟩
   obtain⟨S,A⟩:∃ x,p.Av.B[i]?=some x:=⟨p.Av.B[i]' om,oi _⟩
   obtain⟨ci,B⟩:∃ x,p.Av.C[i]?=some x:=⟨p.Av.C[i]' om,oi _⟩
   obtain⟨P,e⟩:∃ x,yss[i]?=some x:=⟨yss[i]' om,oi _⟩
   obtain⟨yq,yl⟩:=G P (Jm e);obtain⟨J,e1,r,T,H⟩:=Je6 (g:=g) (ks0:=ks0) (nx:=nx) (er:=er) (ys:=ys) (ls:=z.ls) (sY:=z.Y) (sP:=z.P) (bb:=b) hn h0 hk ok Y O N A B e yq yl om d.l (λq a u=>E q a u) om M om d.y d.p d.yl d.pl;simp only[bstagesQ];have W:yss.getD i []=P:=by rw[ot,e];rfl
   rw[W,Qmt B,Qmt A]
   have l:bdBody n (p,t,h,w,⟨toRR yss,ks0,nx,er⟩,ys,⟨toR z.Y,toR z.P⟩,g,((i+1:Nat):Int) - 1)=(bif !(Qs r.1 (⟨0,0,0,0⟩:Qe)) then (
    some (Lp.out (Lp.out ((r.1,r.2.1,r.2.2.1,r.2.2.2.1,r.2.2.2.2.1,r.2.2.2.2.2.1,r.2.2.2.2.2.2.1,r.2.2.2.2.2.2.2.1,r.2.2.2.2.2.2.2.2)))))
    else (
     some (Lp.go (r.2.1,r.2.2.1,r.2.2.2.1,r.2.2.2.2.1,r.2.2.2.2.2.1,r.2.2.2.2.2.2.2.1,r.2.2.2.2.2.2.1,r.2.2.2.2.2.2.2.2,wrap64 (((i+1:Nat):Int) - 1 - (1:Int)))))):=by
    unfold bdBody;simp only[];rw[ol om,bifT,show((i+1:Nat):Int) - 1=(i:Int) by omega,T,sbind]
   cases hs:bstageQ p.Tape (limQ p.Ay) (fv t) (fv h) (rv p.P) P (fv ci) (bslQ (p.Av.A.map rv) (fv S) (fv h) (rv w) i z.ls) i with
   | inl f=>
     rw[hs] at H;obtain⟨I,s⟩:=H;obtain⟨⟨f1,f2,f3,f4⟩,r⟩:=r;simp only[] at I;subst I;simp only[] at l |-;rw[Ky s,ow,bifT] at l;exact⟨_,Kz l om,rfl,s⟩
   | inr x=>
     rw[hs] at H;obtain⟨I,s,U,Q,V⟩:=H;subst I;simp only[] at l |-;rw[Kk,ou,bifF,show((i+1:Nat):Int) - 1 - 1=(i:Int) - 1 by omega,w64 om om] at l;rw[Qau l];have C:(i+1)*130=i*130+130:=uz _ _
     have:=ih m J ⟨x.1::z.ls,addQ z.Y x.1,addQ z.P x.2⟩ (ys.set i (toR x.1)) (b+130) om om (by show z.ls.length+1+i=_;omega) (by rw[vw];exact F) (λq a u=>by
      cases q with
      | zero=>
        simp only[ja,Option.some.injEq] at u;subst u;rw[xp,List.getElem?_set_self om]
      | succ q=>
        rw[List.getElem?_set_ne om,show i+(q+1)=i+1+q by omega];exact E q a (by simpa using u)) om om ⟨Jb (Qn0 d.y s) om,Jb (Qn0 d.p U) om,by show(addQ z.Y x.1).length=_;rw[Zl,Q,d.yl,jy],by show(addQ z.P x.2).length=_;rw[Zl,V,d.pl,jy],λa L=>by
        rcases xu.1 L with rfl | L;exact⟨s,Q⟩
        exact d.l a L⟩ om
     simp only[] at this;cases hr:bstagesQ p.Tape p.Av (limQ p.Ay) (fv t) (fv h) (rv p.P) (rv w) yss i ⟨x.1::z.ls,addQ z.Y x.1,addQ z.P x.2⟩ with
     | inl f=>rw[hr] at this;exact this
     | inr v=>
       rw[hr] at this;obtain⟨K,j,a1,a2,a3⟩:=this;exact⟨K,j,a1,a2,by rw[C,show b+(i*130+130)=b+130+i*130 by omega];exact a3⟩
theorem Jjo{yss:List (List Rat)}{ks0 ys:List (List Qa)}{nx er:List Qa}(hn:big<=n)(h0:129<=k)(hk:k<8000)(ok:PrbOK n k p t h y)(B:FR k w)(d:w.length=y.length)
 (m:∀ a∈yss,QR 129 a/\a.length=y.length) (hyssl:yss.length=p.Av.B.length) (l:ys.length=p.Av.B.length) (I:g.limit=limQ p.Ay) :
 ∃ r,Qdm n p t h w ⟨toRR yss,ks0,nx,er⟩ ys ⟨toR (rv w),toR (List.replicate p.P.length 0)⟩ g=some r /\
   match bdoQ p.Tape p.Av (limQ p.Ay) (fv t) (fv h) (rv p.P) (rv w) yss with
   | .inl f=>r.1=f/\f.Ax≠0
   | .inr z=>r.1=⟨0,0,0,0⟩/\r.2.2.2.2.2.2.1=⟨toR z.1,toR z.2⟩/\QR 129 z.1/\QR 129 z.2/\z.1.length=w.length/\z.2.length=p.P.length:=by
 obtain⟨⟨L,M⟩,⟨N,O⟩,P,Q⟩:=ok.tp.r.1;obtain⟨⟨g1,R⟩,g3,g4,S,T⟩:=ok.sr.2.1;have K:=ok.yl;have J:=ok.pl;have i:=Jnu (ks0:=ks0) (nx:=nx) (er:=er) hn h0 hk ok B d m hyssl p.Av.B.length n g ⟨[],rv w,List.replicate p.P.length 0⟩ ys k (xr _) (by unfold big at hn;omega) oc l (λq a G=>by simp at G) h0 om ⟨QR_rv B om,Q6c om,by show(rv w).length=_;rw[Ji];exact d,oc,λ_ h=>by cases h⟩ I;rw[Jjn,w64 om om];unfold bdoQ;rw[Ji p.P];simp only[] at i;cases hs:bstagesQ p.Tape p.Av (limQ p.Ay) (fv t) (fv h) (rv p.P) (rv w) yss p.Av.B.length ⟨[],rv w,List.replicate p.P.length 0⟩ with
 | inl f=>
   rw[hs] at i;obtain⟨r,x,u,A⟩:=i;rw[x,sbind,Yz];exact⟨r,rfl,u,A⟩
 | inr z=>
   rw[hs] at i;obtain⟨E,s,a1,a2,a3⟩:=i;rw[a2,sbind,Vn];unfold bdEnd;simp only[];obtain⟨e,x,u⟩:=Qy8 (p:=p) (t:=t) (h:=h) (w:=w) (g:=E) (md:=⟨toRR yss,ks0,nx,er⟩) (sm:=⟨toR z.Y,toR z.P⟩) (ys:=s) (x2:=(p.Av.B.length:Int)) hn (Jb a3.y om) (by rw[a3.yl];omega);rw[u,sbind,a1];cases H:fitQ (limQ p.Ay) z.Y 0 with
   | some j=>
     simp only[];rw[Ky oz,ow,bifT];exact⟨_,rfl,rfl,oz⟩
   | none=>
     simp only[];rw[Kk,ou,bifF,w1 om];obtain⟨F,A,C⟩:=Qy8 (p:=p) (t:=t) (h:=h) (w:=w) (g:=e) (md:=⟨toRR yss,ks0,nx,er⟩) (sm:=⟨toR z.Y,toR z.P⟩) (ys:=s) (x2:=((p.Av.B.length+1:Nat):Int)) hn (Jb a3.p om) (by rw[a3.pl];omega);rw[C,sbind,show e.limit=limQ p.Ay by omega];cases v:fitQ (limQ p.Ay) z.P 0 with
     | some j=>exact⟨_,rfl,rfl,by show(6:Int)≠0;decide⟩
     | none=>exact⟨_,rfl,rfl,rfl,Qk6 (by unfold limQ;omega) H,Qk6 (by unfold limQ;omega) v,by rw[a3.yl,d],a3.pl⟩
end
noncomputable def backThQ(p:Qg)(T H:Rat)(Y W:List Rat):Qe ⊕ (MadeQ×List Rat×List Rat):=
 match stepQ p T H Y with
 | .inl f=>if f.Ax=2\/W.length≠Y.length then .inl ⟨2,0,0,0⟩ else .inl f
 | .inr z=>if W.length≠Y.length then .inl ⟨2,0,0,0⟩ else match bdoQ p.Tape p.Av (limQ p.Ay) T H (rv p.P) W z.ys with
   | .inl f=>.inl f
   | .inr x=>.inr (z,x.1,x.2)
theorem Q1l:∀ {l:List Rat},addQ l (List.replicate l.length 0)=l
 | []=>rfl
 | a::l=>by have:=Q1l (l:=l);unfold addQ at this |-;rw[xn,uq,jh,this,ui]
theorem Qsl{n k:Nat}{p:Qg}{t h:Qa}{y w:List Qa}(hn:big<=n)(h0:129<=k)(hk:k<8000)(C:PrbW k p)(A:Fk k t)(v:Fk k h)(E:FR k y)(B:FR k w):
 Qjf n p t h y w=some (match backThQ p (fv t) (fv h) (rv y) (rv w) with | .inl f=>(⟨[],[]⟩,f) | .inr z=>(⟨toR z.2.1,toR z.2.2⟩,⟨0,0,0,0⟩))/\(∀ f,backThQ p (fv t) (fv h) (rv y) (rv w)=.inl f->f.Ax≠0)/\∀ z,backThQ p (fv t) (fv h) (rv y) (rv w)=.inr z->stepQ p (fv t) (fv h) (rv y)=.inr z.1/\QR 129 z.2.1/\QR 129 z.2.2/\z.2.1.length=y.length/\z.2.2.length=p.P.length/\w.length=y.length:=by
 obtain⟨m,q⟩:=Qqd hn h0 hk C A v E;unfold Qjf backThQ;simp only[jn_eq];rw[m,sbind];cases hs:stepQ p (fv t) (fv h) (rv y) with
 | inl f=>
   have u:=q f hs;obtain⟨s,M,f3,f4⟩:=f;simp only[];rw[Ji,Ji,bifd];by_cases c1:s=2
   . rw[oq c1,oq (Or.inl c1)]
     exact⟨rfl,(λf h=>by cases h;show(2:Int)≠0;decide),λz h=>by cases h⟩
   rw[oj c1];by_cases d:w.length=y.length
   case neg=>
    rw[oo (show ¬(w.length:Int)=(y.length:Int) by omega),oq (.inr d)];exact⟨rfl,(λf h=>by cases h;show(2:Int)≠0;decide),λz h=>by cases h⟩
   rw[ol (show(w.length:Int)=(y.length:Int) by omega),ou,bifF,Ky u,ow,bifT,oj (by rintro(g | g)<;>contradiction)];exact⟨rfl,(λf h=>by cases h;exact u),λz h=>by cases h⟩
 | inr z=>
   obtain⟨P,F,Z,r4,r5⟩:=Qg8 hs;obtain⟨Q,R⟩:=Qy7 hs;rw[Ji] at F;have ok:=C.ok hn hk P A v E F;obtain⟨⟨m,q⟩,⟨S,T⟩,U,V⟩:=ok.tp.r.1;obtain⟨⟨g1,W⟩,g3,g4,X,Y⟩:=ok.sr.2.1;have O:=ok.pl;simp only[];rw[Ji,Ji,show decide ((0:Int)=2)=false from rfl,bifF];by_cases d:w.length=y.length
   case neg=>
    rw[oo (show ¬(w.length:Int)=(y.length:Int) by omega),oq d];exact⟨rfl,(λf h=>by cases h;show(2:Int)≠0;decide),λz h=>by cases h⟩
   rw[ol (show(w.length:Int)=(y.length:Int) by omega),ou,bifF,Kk,ou,bifF,oj (by simp[d])];rw[Qf1 hn om,sbind,Qzy (k:=k) hn om om B (λ_ h=>by cases h) (Vd (Q6c om)) (λ_ h=>by cases h) om oc,sbind,oq ⟨by rw[Jj];simp,rfl⟩,Qev om om,sbind];unfold X9;rw[sbind,Qf1 hn om,sbind,Wn];have L:addQ (rv w) (List.replicate w.length 0)=rv w:=by
    have:=Q1l (l:=rv w);rwa [Ji] at this
   rw[L];obtain⟨r,G,e⟩:=Jjo (g:=⟨⟨0,0⟩,min (max p.Ay 0) 4096⟩) (yss:=z.ys) (ks0:=toRR z.ks) (nx:=toR z.next) (er:=toR z.err) (ys:=List.replicate p.Av.B.length []) hn h0 hk ok B d (λa N=>by have:=Q a N;rwa [Ji] at this) R oc rfl;rw[show toM z=⟨toRR z.ys,toRR z.ks,toR z.next,toR z.err⟩ from rfl];simp only[];rw[G,sbind];cases hd:bdoQ p.Tape p.Av (limQ p.Ay) (fv t) (fv h) (rv p.P) (rv w) z.ys with
   | inl f=>
     rw[hd] at e;obtain⟨j,i⟩:=e;refine⟨?_,(λf h=>by cases h;exact i),λz h=>by cases h⟩;simp only[];rw[j];obtain⟨s,M,f3,f4⟩:=f;rw[Ky i,ow,bifT]
   | inr x=>
     rw[hd] at e;obtain⟨j,i,H,I,J,K⟩:=e;refine⟨?_,(λf h=>by cases h),λz h=>by cases h;exact⟨rfl,H,I,J.trans d,K,d⟩⟩;simp only[];rw[j,i,Kk,ou,bifF]
set_option maxRecDepth 100000
theorem Qy9{l:List Rat}{a:Int}:addAt l a 0=l:=by unfold addAt;rw[ui];by_cases h:a.toNat<l.length;rw[ot,oi h];exact List.set_getElem_self h;exact List.set_eq_of_length_le om
structure SameL(a b:BkS):Prop where
 c:b.co.length=a.co.length
 y:b.Y.length=a.Y.length
 p:b.P.length=a.P.length
theorem SameL.bk{x:Qv}{c1 d r:Rat}{vs:List Rat}{s1 a:BkS}(h:SameL s1 a):SameL (Yx x c1 r vs s1) (Yx x d r vs a):=by obtain⟨a1,a2,a3⟩:=Qkk (x:=x) (c:=c1) (r:=r) (vs:=vs) (s:=s1);obtain⟨e,f,i⟩:=Qkk (x:=x) (c:=d) (r:=r) (vs:=vs) (s:=a);exact⟨by rw[a1,e,h.c],by rw[a2,f,h.y],by rw[a3,i,h.p]⟩
theorem Q8c{m:Nat}{os:List Int}{w:List Rat}:(coQ m os w).length=m:=by
 unfold coQ;have:∀(l:List (Int×Rat)) (a:List Rat),(l.foldl (λco z=>addAt co z.1 z.2) a).length=a.length:=by
  intro l
  induction l with
  | nil=>intro a;rfl
  | cons x l d=>intro a;rw[dr,d,Yw]
 rw[this];simp
theorem Qza{As:List (List Rat)}{b H:Rat}{i:Nat}{W:List Rat}{l:List (List Rat)}(g:∀ a∈l,a.length=W.length):(bslQ As b H W i l).length=W.length:=by unfold bslQ;rw[W6];exact Qg7 g (by rw[W6])
theorem Jdh{m j:Nat}:(List.replicate m (0:Rat)).getD j 0=0:=by rw[ot,tx];split<;>rfl
set_option maxRecDepth 100000
theorem Qzb{l:List Rat}{a:Int}{c:Rat}{j:Nat}:(addAt l a c).getD j 0=if j=a.toNat/\j<l.length then l.getD j 0+c else l.getD j 0:=by unfold addAt;generalize a.toNat=a;rw[ot,ot,ot,List.getElem?_set];by_cases h:j=a;subst h;by_cases d:j<l.length;rw[oq rfl,oq d,oq ⟨rfl,d⟩];rfl;rw[oq rfl,oj d,oj (λh=>d h.2),xd om];rw[oj (λe=>h e.symm),oj (λe=>h e.1)]
theorem Q4a{t:Qm}{i:Nat}{x:Qv}(h:mayR t i x):x.Op=1\/x.Op=2\/x.Op=3\/x.Op=4\/x.Op=6\/x.Op=7\/x.Op=8\/x.Op=9\/x.Op=10\/x.Op=11:=by unfold mayR at h;by_cases c1:x.Op=1;omega;rw[oj c1] at h;by_cases e:x.Op=2;omega;by_cases f:x.Op=3;omega;by_cases j:x.Op=4;omega;by_cases l:x.Op=6;omega;by_cases d:x.Op=11;omega;rw[oj e,oj f,oj j,oj l,oj d] at h;have a:=h.2.2;unfold rdT at a;rw[oj om] at a;by_cases m:x.Op=7\/x.Op=8\/x.Op=9\/x.Op=10;omega;rw[oj m] at a;simp at a
section
variable {t:Qm}{lim:Int}{T':Rat}{Y' P' vs ds:List Rat}
end
theorem Qdz{l:List Rat}{i j:Nat}(h:j<i):(l.take i).getD j 0=l.getD j 0:=by rw[ot,ot,ur,oq h]
abbrev Tri:=Rat×Rat×List Rat
def triT(t:Q9):Tri:=(fv t.T,fv t.H,rv t.Y)
def tri(h:Qt):List Tri:=(okT h.Aw).map triT
def ChT:Rat->List Tri->Rat->Prop
 | t,[],e=>e=t
 | t,x::l,e=>x.1=t/\ChT (x.1+x.2.1) l e
theorem Q2l:∀ {l1 a:List Tri}{t e:Rat},ChT t (l1++a) e->∃ d,ChT t l1 d/\ChT d a e
 | [],a,t,e,h=>⟨t,rfl,h⟩
 | x::l1,a,t,e,h=>by obtain⟨f,i⟩:=h;obtain⟨d,j,l⟩:=Q2l i;exact⟨d,⟨f,j⟩,l⟩
def atI(h:Qt)(i:Nat):Rat:=match h.Aw[i]? with
 | some t=>fv t.T
 | none=>fv h.T
theorem Jlo(h:Qt)(i:Nat):fv (nextT h i)=atI h (i+1):=by unfold nextT atI;cases h.Aw[i+1]?<;>rfl
theorem Q6d{h:Qt}(hp:Qkr h):∀(m i:Nat),i+m=h.Aw.length->ChT (atI h i) ((okT (h.Aw.drop i)).map triT) (fv h.T)
 | 0,i,hi=>by have e:h.Aw[i]?=none:=xd om;rw[xj om];show fv h.T=atI h i;unfold atI;rw[e]
 | m+1,i,hi=>by
   have a:h.Aw[i]?=some (h.Aw[i]' om):=oi om;generalize h.Aw[i]' om=x at a;obtain⟨c1,d⟩:=hp.n i x a;have j:=Q6d hp m (i+1) om;rw[Jlo] at c1 d;have f:atI h i=fv x.T:=by unfold atI;rw[a]
   rw[Qub a];unfold okT;rw[List.filter_cons];cases hk:x.Ok with
   | true=>
     rw[oq rfl,yy];refine⟨f.symm,?_⟩;show ChT (fv x.T+fv x.H) _ _;rw[<-c1 hk];exact j
   | false=>
     rw[oj oz,f,<-(d hk).1];exact j
theorem Q9w{h:Qt}(hp:Qkr h):ChT (atI h 0) (tri h) (fv h.T):=Q6d hp h.Aw.length 0 om
theorem Qte(h:Qt):(tri h).length=(okT h.Aw).length:=by simp[tri]
theorem Jfy(h:Qt):szs h=(tri h).map (·.2.1):=by unfold szs tri;rw[yo];rfl
def TriK(k d:Nat)(x:Tri):Prop:=qw x.1<=k/\qw x.2.1<=k/\0<x.2.1/\QR k x.2.2/\x.2.2.length=d
theorem Jjp{h:Qt}{k:Nat}(hk:1<=k)(hp:Qkr h)(i:∀ t∈h.Aw,FT k t):∀ x∈tri h,TriK k h.Y.length x:=λx j=>by obtain⟨t,d,rfl⟩:=xz.1 j;have a:=(dm.1 d).1;obtain⟨e,f,_⟩:=i t a;have s:=hp.s t a;exact⟨qw_fv (e _ oc) hk,qw_fv (e _ oc) hk,s.2.1,QR_rv f hk,by show(rv t.Y).length=_;rw[Ji];exact hp.l.1 t a⟩
def kepQ(A:List Tri)(c:Nat):Vq:=⟨(c:Int),toR (A.map (·.2.1)),toR ((mrk A.length c).map λm=>(A.getD m (0,0,[])).1),toRR ((mrk A.length c).map λm=>(A.getD m (0,0,[])).2.2)⟩
theorem Jnv{n k:Nat}{h:Qt}{x:Int}(hn:big<=n)(r:1<=k)(hk:k<1099511627776)(H:h.Aw.length<=200)(u:∀ t∈h.Aw,FT k t)(B:Fk k h.T)(C:FR k h.Y)(l:h.Y.length<=1000000):
 Qro n h x=some (kepQ (tri h) (cutI x)):=by
 obtain⟨c1,G⟩:=cut_b x;have E:=Qn1 h.Aw;unfold Qro;rw[Qy0,sbind,Q6b hn r hk om u,sbind,Q6a hn r hk om u B C l,sbind];have v:((toR (szs h)).length:Int)=(((tri h).length:Nat):Int):=by rw[Jj,Jfy];simp
 have A:(tri h).length<=200:=by rw[Qte];omega
 rw[v,Qy1 hn A,sbind];have j:∀ m∈mrk (tri h).length (cutI x),m<(tri h).length:=λm a=>by obtain⟨_,_,_,h⟩:=Q2g c1 a;exact h
 have q:(mrk (tri h).length (cutI x)).length<=200:=by rw[Qmo];have:=Qp6 (n:=(tri h).length) c1;omega
 unfold kepQ;rw[Jfy];generalize mrk (tri h).length (cutI x)=ms at j q |-
 have gT:∀ m,m<(tri h).length->getI (((okT h.Aw).map nT).map (·.T)++[toF (fv h.T)]) (m:Int)=some (toF ((tri h).getD m (0,0,[])).1):=λm a=>by
  have d:m<(okT h.Aw).length:=by rw[Qte] at a;exact a
  refine Q7 ?_;rw[yh oh,xm,xm,oi d,ot];simp[tri,oi d,triT,nT]
 have gY:∀ m,m<(tri h).length->getI (((okT h.Aw).map nT).map (·.Y)++[toR (rv h.Y)]) (m:Int)=some (toR ((tri h).getD m (0,0,[])).2.2):=λm a=>by
  have d:m<(okT h.Aw).length:=by rw[Qte] at a;exact a
  refine Q7 ?_;rw[yh oh,xm,xm,oi d,ot];simp[tri,oi d,triT,nT]
 rw[Zw (s:=(([]:List Qa),([]:List (List Qa)))) (F:=λi=>(toR ((ms.take i).map λm=>((tri h).getD m (0,0,[])).1),toRR ((ms.take i).map λm=>((tri h).getD m (0,0,[])).2.2))) (iL ms) (λi y f=>?_) rfl,Vn];rw[show(iL ms).length=ms.length by simp[iL],xc];unfold iL at f;rw[xm] at f;cases a:ms[i]? with
 | none=>rw[a] at f;cases f
 | some m=>
   rw[a] at f;cases f;have e:=j m (ud a);have hi:=(ug.1 a).1;simp only[];rw[gT m e,sbind,J5 (by simp[Jj];omega) (by simp[Jj];omega),sbind,gY m e,sbind,J5 (by simp[Vi];omega) (by simp[Vi];omega),sbind,vn,a];simp[toR,toRR]
theorem Qxw{A:List Tri}{c:Nat}:(kepQ A c).A5.length=A.length/\(kepQ A c).Ts.length=cnt A.length c/\(kepQ A c).Ys.length=cnt A.length c:=by refine⟨?_,?_,?_⟩;show(toR _).length=_;rw[Jj,ov];show(toR _).length=_;rw[Jj,ov,Qmo];show(toRR _).length=_;rw[Vi,ov,Qmo]
theorem Q8d{n k d:Nat}{A:List Tri}{x:Int}(hn:big<=n)(e:1<=k)(hk:k<1099511627776)(f:∀ t∈A,TriK k d t)(j:A.length<=200):Qlv n (kepQ A (cutI x))=some true:=by
 obtain⟨c1,B⟩:=cut_b x;obtain⟨l1,u,v⟩:=Qxw (A:=A) (c:=cutI x);unfold Qlv;simp only[jn_eq];rw[Q9u]
 case hb=>
  intro i y r;have a:=ud r;obtain⟨q,l,rfl⟩:=xz.1 a;obtain⟨t,m,rfl⟩:=xz.1 l;obtain⟨_,k2,s,_⟩:=f t m;rw[Qdy hn e hk (Jq k2),sbind,Jf,oo (λh=>Qq3.1 h s)];rfl
 rw[l1,show(kepQ A (cutI x)).A9=((cutI x:Nat):Int) from rfl,Qy1 hn j,sbind,Qy0,sbind,Ji9,u,v];have a:((iL (mrk A.length (cutI x))).length:Int)=((cnt A.length (cutI x):Nat):Int):=by rw[Jcz,Qxg]
 rw[a,ol rfl,bifT,ol (show((A.length:Nat):Int)<=200 by omega),bifT,ol rfl,bifT]
theorem Jjq(a:Qx):Qe0 a a=true:=by unfold Qe0;simp
theorem Jjr{a b:Qx}(h:¬ a=b):Qe0 a b=false:=by obtain⟨a1,a2⟩:=a;obtain⟨f,i⟩:=b;unfold Qe0;by_cases d:a1=f;have j:¬ a2=i:=λe=>h (by rw[d,e]);simp[j];simp[d]
theorem Jht{n j:Nat}{A:List Tri}{x:Int}(hn:big<=n)(a:A.length<=200)(d:j<cnt A.length (cutI x)):Qlw n (kepQ A (cutI x)) (sgm A.length (cutI x) (j*cutI x))=some true:=by obtain⟨l1,f,l⟩:=Qxw (A:=A) (c:=cutI x);unfold Qlw;rw[l1,show(kepQ A (cutI x)).A9=((cutI x:Nat):Int) from rfl,Qzr hn a,sbind,Ji9];have e:sgm A.length (cutI x) (j*cutI x)∈(mrk A.length (cutI x)).reverse.map (sgm A.length (cutI x)):=vf (List.mem_reverse.2 (ud (Qqy d)));obtain⟨i,hi⟩:=yg e;rw[Z3 (P:=λ_ y=>¬ y=sgm A.length (cutI x) (j*cutI x)) (r:=true)];rw[oj λh=>h i _ hi rfl];intro i y _;constructor;intro h;rw[Jjr h];rfl;intro h;obtain rfl:=Classical.not_not.1 h;rw[Jjq];rfl
noncomputable def anewQ(p:Qg):List Tri->Nat->List Rat->Qe ⊕ List (List Rat)
 | [],_,_=>.inr []
 | x::l,i,y=>match stepQ p x.1 x.2.1 y with
   | .inl f=>.inl ⟨f.Ax,((i+1:Nat):Int),f.A4,f.At⟩
   | .inr z=>match anewQ p l (i+1) z.next with
     | .inl f=>.inl f
     | .inr r=>.inr (z.next::r)
theorem Q8e{p:Qg}:∀ {l:List Tri}{i:Nat}{y:List Rat}{r:List (List Rat)},anewQ p l i y=.inr r->r.length=l.length/\∀ a∈r,QR 129 a/\a.length=y.length
 | [],i,y,r,h=>by simp only[anewQ] at h;cases h;exact⟨rfl,λ_ h=>by cases h⟩
 | x::l,i,y,r,h=>by
   simp only[anewQ] at h;cases hs:stepQ p x.1 x.2.1 y with
   | inl f=>rw[hs] at h;cases h
   | inr z=>
     rw[hs] at h;simp only[] at h;cases hr:anewQ p l (i+1) z.next with
     | inl f=>rw[hr] at h;cases h
     | inr m=>
       rw[hr] at h;cases h;obtain⟨_,_,j,e,_⟩:=Qg8 hs;obtain⟨a1,a2⟩:=Q8e hr;refine⟨by simp[a1],λa d=>?_⟩;rcases xu.1 d with rfl | d
       . exact⟨j,e⟩
       . have:=a2 a d;exact⟨this.1,by rw[this.2,e]⟩
theorem Q1m{p:Qg}(hp:∀(x:Tri) y f,stepQ p x.1 x.2.1 y=.inl f->f.Ax≠0):∀ {l:List Tri}{i:Nat}{y:List Rat}{f},anewQ p l i y=.inl f->f.Ax≠0
 | [],i,y,f,h=>by simp only[anewQ] at h;cases h
 | x::l,i,y,f,h=>by
   simp only[anewQ] at h;cases hs:stepQ p x.1 x.2.1 y with
   | inl g=>rw[hs] at h;cases h;exact hp x y g hs
   | inr z=>
     rw[hs] at h;simp only[] at h;cases hr:anewQ p l (i+1) z.next with
     | inl g=>rw[hr] at h;cases h;exact Q1m hp hr
     | inr a=>rw[hr] at h;cases h
theorem Jjs{n k d:Nat}{p:Qg}{m:Nat}{e:Rat}(hn:big<=n)(h0:129<=k)(hk:k<8000)(N:PrbW k p)(T:m<=200):∀(l:List Tri) (i:Nat) (t:Rat) (y:List Rat) (j:List (List Rat)),ChT t l e->(∀ x∈l,TriK k d x)->QR k y->i+l.length<=200->j.length+l.length<=400 ->
 (rangeL (λ(A:Nat) (u:Qa) (s:Qa×(List Qa)×(List (List Qa)))=>
  (Qgq n p s.1 u s.2.1).bind λq=>
  bif !(Qs q.2 (⟨0,0,0,0⟩:Qe)) then (
   some (Lp.out ((([]:List (List Qa)),(⟨q.2.Ax,wrap64 ((wrap64 ((m:Int)+(A:Int)))+(1:Int)),q.2.A4,q.2.At⟩:Qe)))))
  else (
   (Vy n s.1 u).bind λB=>
   (appM 24 s.2.2 ([q.1.Next]:List (List Qa))).bind λE=>
   some (Lp.go (B,q.1.Next,E)))) (toR (l.map (·.2.1))) i (toF t,toR y,toRR j)).bind (lpK λ(C:Qa×(List Qa)×(List (List Qa)))=>
  some (C.2.2,(⟨0,0,0,0⟩:Qe))) =
  some (match anewQ p l (m+i) y with | .inl f=>([],f) | .inr r=>(toRR (j++r),⟨0,0,0,0⟩)):=by
 intro l
 induction l with
 | nil=>intro i t y j _ _ _ _ _;simp only[anewQ,uh];rfl
 | cons x l P=>
   intro i t y j L H O hi v;obtain⟨c1,I⟩:=L;obtain⟨a1,a2,a3,a4,a5⟩:=H x oc;simp only[xn] at hi v;subst c1;obtain⟨F,G⟩:=Qqd (t:=toF x.1) (h:=toF x.2.1) (y:=toR y) hn h0 hk N (Jq a1) (Jq a2) (Vd O);rw[Jf,Jf,Wn] at F G;have J:toR ((x::l).map (·.2.1))=toF x.2.1::toR (l.map (·.2.1)):=rfl;rw[J];simp only[rangeL,anewQ];rw[F,sbind];cases hs:stepQ p x.1 x.2.1 y with
   | inl f=>
     have M:=G f hs;simp only[];rw[show Qs f ⟨0,0,0,0⟩=false by obtain⟨R,S,f3,f4⟩:=f;exact Ky M,ow,bifT,sbind,sbind,Yz,w64 (x:=(m:Int)+(i:Int)) om om,w64 (x:=(m:Int)+(i:Int)+1) om om];rw[show(m:Int)+(i:Int)+1=((m+i+1:Nat):Int) by omega]
   | inr z=>
     obtain⟨_,_,Q,U,_⟩:=Qg8 hs;simp only[];rw[Kk,ou,bifF,Wo (k:=k) hn om om (Jq a1) (Jq a2),sbind,Jf,Jf,J5 (by simp[Vi];omega) (by simp[Vi];omega),sbind,sbind];simp only[];have K:toRR j++[(toM z).Next]=toRR (j++[z.next]):=by simp[toRR,toM]
     rw[K,show(toM z).Next=toR z.next from rfl,P (i+1) (x.1+x.2.1) z.next (j++[z.next]) I (λa v=>H a (by simp[v])) (Jb Q h0) om oh,show m+(i+1)=m+i+1 by omega];cases hr:anewQ p l (m+i+1) z.next with
     | inl f=>rfl
     | inr r=>simp only[];rw[xf];rfl
theorem Q1n{c:Nat}(h:1<=c):grd (((c:Nat):Int) != 0)=some ():=by unfold grd;rw[show(((c:Nat):Int) != 0)=true by simp;omega];rfl
theorem Que{j c:Nat}(a:1<=c)(f:j*c<=1000000):wrap64 (Int.tdiv ((j*c:Nat):Int) ((c:Nat):Int))=(j:Int):=by
 have e:Int.tdiv ((j*c:Nat):Int) ((c:Nat):Int)=(j:Int):=by rw[Int.natCast_mul,Int.mul_tdiv_cancel _ om]
 have d:j*1<=j*c:=ut _ a;rw[e,w64 om om]
def segA(A:List Tri)(c m:Nat):List Tri:=(A.take (min (m+c) A.length)).drop m
theorem Qcb{A:List Tri}{c m:Nat}:(segA A c m).length=min (m+c) A.length - m:=by unfold segA;simp
theorem Jjt{A:List Tri}{c m:Nat}(d:m<A.length)(a:1<=c):(A.take (min (m+c) A.length - 1)).drop m=(segA A c m).take (min (m+c) A.length - 1 - m):=by unfold segA;rw[List.take_drop,List.take_take];congr 2;omega
theorem Quf{A:List Tri}{c m:Nat}:∀ x∈segA A c m,x∈A:=λ_ a=>ym (vu a)
theorem Qzc{A:List Tri}{c m:Nat}{t0 j:Rat}(f:ChT t0 A j)(i:m<A.length)(v:1<=c):∃ e,ChT (A.getD m (0,0,[])).1 (segA A c m) e:=by
 have l:A=A.take m++A.drop m:=(ue m A).symm;rw[l] at f;obtain⟨u,_,a⟩:=Q2l f;have q:A.drop m=segA A c m++A.drop (min (m+c) A.length):=by unfold segA;rw[List.drop_take];have:=ue (min (m+c) A.length - m) (A.drop m);rw[List.drop_drop,show m+(min (m+c) A.length - m)=min (m+c) A.length by omega] at this;exact this.symm
 have d:=a;rw[xe i] at d;have r:(A.getD m (0,0,[])).1=u:=by rw[ot,oi i];exact d.1
 rw[q] at a;obtain⟨e,s,_⟩:=Q2l a;exact⟨e,by rw[r];exact s⟩
theorem Jdi{l:List Tri}{t e:Rat}(i:Nat)(h:ChT t l e):∃ a,ChT t (l.take i) a:=by rw[<-ue i l] at h;obtain⟨a,d,_⟩:=Q2l h;exact⟨a,d⟩
theorem Jju{A:List Tri}{c j:Nat}(a:j<cnt A.length c):getI (kepQ A c).Ts (j:Int)=some (toF (A.getD (j*c) (0,0,[])).1):=by refine Q7 ?_;show(toR _)[j]?=_;unfold toR;rw[xm,xm,Qqy a];rfl
theorem Jqo{A:List Tri}{c j:Nat}(a:j<cnt A.length c):getI (kepQ A c).Ys (j:Int)=some (toR (A.getD (j*c) (0,0,[])).2.2):=by refine Q7 ?_;show(toRR _)[j]?=_;unfold toRR;rw[xm,xm,Qqy a];rfl
theorem Qug{A:List Tri}{m:Nat}(a:m<A.length):A.getD m (0,0,[])∈A:=by rw[ot,oi a];exact xi a
theorem Jjv{n k d j:Nat}{p:Qg}{A:List Tri}{x:Int}{t0 G:Rat}(hn:big<=n)(h0:129<=k)(hk:k<8000)(E:PrbW k p)(hr:prbR p)(hd:(d:Int)=p.Tape.A0)(l:∀ t∈A,TriK k d t)(C:A.length<=200)(J:ChT t0 A G)(i:j<cnt A.length (cutI x)):
 Qni n p (kepQ A (cutI x)) (sgm A.length (cutI x) (j*cutI x))=some (match anewQ p ((segA A (cutI x) (j*cutI x)).take (min (j*cutI x+cutI x) A.length - 1 - j*cutI x)) (j*cutI x) (A.getD (j*cutI x) (0,0,[])).2.2 with
  | .inl f=>([],f)
  | .inr r=>(toRR ((A.getD (j*cutI x) (0,0,[])).2.2::r),⟨0,0,0,0⟩)):=by
 obtain⟨c1,P⟩:=cut_b x;have u:=(Qf7 c1).1 i;have I:=Q8d (x:=x) hn (show 1<=k by omega) om l C;have H:=Jht (x:=x) hn C i;unfold Qni;simp only[jn_eq];rw[Qms hn h0 hk E,sbind,dP_t hr,ou,bifF,I,sbind,ou,bifF,H,sbind,ou,bifF];generalize K:cutI x=c at *;obtain⟨M,N,O,v,B⟩:=l _ (Qug u);obtain⟨e,q⟩:=Qzc J u c1;show((grd (((c:Nat):Int) != 0)).bind λ_=>_)=_;rw[Q1n c1,sbind];show((getI (kepQ A c).Ts (wrap64 (Int.tdiv ((j*c:Nat):Int) ((c:Nat):Int)))).bind λ_=>_)=_;rw[Que c1 om,Jju i,sbind];show((grd (((c:Nat):Int) != 0)).bind λ_=>_)=_;rw[Q1n c1,sbind];show((getI (kepQ A c).Ys (wrap64 (Int.tdiv ((j*c:Nat):Int) ((c:Nat):Int)))).bind λ_=>_)=_;rw[Que c1 om,Jqo i,sbind,Jj,B,ol hd,ou,bifF,Qf0 hn,sbind,Zq (k:=k) hn om om (Jq (by rw[Qxu];omega)) (Vd v) (by rw[Jj,B];obtain⟨g,_⟩:=hr;have:=g.1.1.2;omega),sbind,Jf,Wn,Qxt];have eT:wrap64 ((sgm A.length c (j*c)).To - 1)=((min (j*c+c) A.length - 1:Nat):Int):=by
  show wrap64 (((min (j*c+c) A.length:Nat):Int) - 1)=_;rw[w64 om om];omega
 have eS:sub (kepQ A c).A5 ((j*c:Nat):Int) ((min (j*c+c) A.length - 1:Nat):Int)=some (toR (((segA A c (j*c)).take (min (j*c+c) A.length - 1 - j*c)).map (·.2.1))):=by rw[Qs7 om (by rw[Qxw.1];omega),<-Jjt u c1];show some (((toR (A.map (·.2.1))).take _).drop _)=_;unfold toR;rw[<-wc,<-wc,<-wt,<-wt]
 rw[eT];show((sub (kepQ A c).A5 ((j*c:Nat):Int) _).bind λ_=>_)=_;rw[eS,sbind];obtain⟨F,a⟩:=Jdi (min (j*c+c) A.length - 1 - j*c) q;have s:=Jjs (n:=n) (k:=k) (d:=d) (p:=p) (m:=j*c) (e:=F) hn h0 hk E om ((segA A c (j*c)).take (min (j*c+c) A.length - 1 - j*c)) 0 (A.getD (j*c) (0,0,[])).1 (A.getD (j*c) (0,0,[])).2.2 [(A.getD (j*c) (0,0,[])).2.2] a (λx L=>l x (Quf x (ym L))) v (by rw[xa,Qcb];omega) (by rw[xa,Qcb];simp;omega);refine s.trans ?_;rw[xp];rfl
theorem Jdj{n k d j:Nat}{p:Qg}{w sum:List Qa}{g:Qk}{A:List Tri}{x:Int}{t0 r:Rat}(hn:big<=n)(K:1<=k)(hk:k<1099511627776)(q:∀ t∈A,TriK k d t)(W:A.length<=200)(u:ChT t0 A r)(H:j<cnt A.length (cutI x)):
 Qc1 n p (kepQ A (cutI x)) w sum g (sgm A.length (cutI x) (j*cutI x))=some (toR ((segA A (cutI x) (j*cutI x)).map (·.1))):=by
 obtain⟨c1,V⟩:=cut_b x;have I:=(Qf7 c1).1 H;unfold Qc1;generalize L:cutI x=c at *;obtain⟨Q,R,S,T,U⟩:=q _ (Qug I);obtain⟨e,v⟩:=Qzc u I c1;show((grd (((c:Nat):Int) != 0)).bind λ_=>_)=_;rw[Q1n c1,sbind];show((getI (kepQ A c).Ts (wrap64 (Int.tdiv ((j*c:Nat):Int) ((c:Nat):Int)))).bind λ_=>_)=_;rw[Que c1 om,Jju H,sbind];have eS:sub (kepQ A c).A5 ((j*c:Nat):Int) ((min (j*c+c) A.length:Nat):Int)=some (toR ((segA A c (j*c)).map (·.2.1))):=by
  rw[Qs7 om (by rw[Qxw.1];omega)];show some (((toR (A.map (·.2.1))).take _).drop _)=_;unfold toR segA;rw[<-wc,<-wc,<-wt,<-wt]
 show((sub (kepQ A c).A5 ((j*c:Nat):Int) ((min (j*c+c) A.length:Nat):Int)).bind λ_=>_)=_;rw[eS,sbind]
 have B:∀(l:List Tri) (i:Nat) (t:Rat) (f:List Rat),ChT t l e->(∀ x∈l,TriK k d x)->f.length+l.length<=400 ->
  (rangeL (λ(_:Nat) (F:Qa) (m:Qa×(List Qa))=>
  (appM 56 m.2 ([m.1]:List Qa)).bind λG=>
  (Vy n m.1 F).bind λC=>
  some (Lp.go (C,G))) (toR (l.map (·.2.1))) i (toF t,toR f)).bind (lpK λ(E:Qa×(List Qa))=>
 some E.2)=some (toR (f++l.map (·.1))):=by
  intro l
  induction l with
  | nil=>intro i t f _ _ _;show some (toR f)=some (toR (f++[]));rw[uh]
  | cons y l N=>
    intro i t f u q s;obtain⟨O,P⟩:=u;obtain⟨a1,a2,_⟩:=q y oc;simp only[xn] at s;subst O;have r:toR ((y::l).map (·.2.1))=toF y.2.1::toR (l.map (·.2.1)):=rfl;rw[r];simp only[rangeL];rw[J5 (by simp[Jj];omega) (by simp[Jj];omega),sbind,Wo (k:=k) hn K hk (Jq a1) (Jq a2),sbind,Jf,Jf,sbind];have J:toR f++[toF y.1]=toR (f++[y.1]):=by simp[toR]
    rw[J];refine(N (i+1) (y.1+y.2.1) (f++[y.1]) P (λa s=>q a (by simp[s])) oh).trans ?_;rw[yy,xf];rfl
 exact(B (segA A c (j*c)) 0 _ [] v (λx M=>q x (Quf x M)) (by rw[Qcb];simp;omega)).trans rfl
noncomputable def bstQ(p:Qg)(i:Nat)(x:Tri)(y:List Rat)(g:List Rat×List Rat):Qe ⊕ (List Rat×List Rat):=
 match backThQ p x.1 x.2.1 y g.1 with
 | .inl f=>.inl ⟨f.Ax,((i+1:Nat):Int),f.A4,f.At⟩
 | .inr z=>match fitQ (limQ p.Ay) (addQ g.2 z.2.2) 0 with
   | some a=>.inl ⟨6,((i+1:Nat):Int),10,300+(a:Int)⟩
   | none=>.inr (z.2.1,addQ g.2 z.2.2)
theorem Jdk{lim:Int}:∀ {l:List Rat}{i a:Nat},fitQ lim l i=some a->a<i+l.length
 | [],i,a,h=>by cases h
 | q::l,i,a,h=>by simp only[fitQ] at h;split at h;have:=Jdk h;simp only[xn];omega;cases h;simp
theorem Jhu{n k d i:Nat}{p:Qg}{kept:Vq}{w sum y:List Rat}{g:Qk}{x:Tri}(hn:big<=n)(h0:129<=k)(hk:k<8000)(J:PrbW k p)(hr:prbR p)(q:getI kept.A5 (i:Int)=some (toF x.2.1))(hi:i<=200)(K:TriK k d x)(L:QR k y)(v:y.length=d)(u:QR k w)(hs:QR 129 sum)(I:sum.length=p.P.length)(j:g.limit=limQ p.Ay):
 ∃ R,Qcy n p kept (toR w) (toR sum) g (i:Int) (toF x.1) (toR y)=some R/\match bstQ p i x y (w,sum) with
   | .inl f=>R.1=f/\f.Ax≠0
   | .inr z=>∃ l,l.limit=limQ p.Ay/\R=(⟨0,0,0,0⟩,p,kept,toR z.1,toR z.2,l)/\QR 129 z.1/\QR 129 z.2/\z.1.length=d/\z.2.length=p.P.length:=by
 obtain⟨M,x2,_⟩:=K;have G:p.P.length<=1000000:=by have S:=hr.2.2;obtain⟨⟨⟨_,_⟩,⟨m,O⟩,_⟩,_⟩:=hr.1;omega
 obtain⟨A,B,m⟩:=Qsl (n:=n) (k:=k) (p:=p) (t:=toF x.1) (h:=toF x.2.1) (y:=toR y) (w:=toR w) hn h0 hk J (Jq M) (Jq x2) (Vd L) (Vd u);rw[Jf,Jf,Wn,Wn] at A B m;have s:limQ p.Ay<=4096:=by unfold limQ;omega
 unfold Qcy bstQ;rw[q,sbind,A,sbind];cases hb:backThQ p x.1 x.2.1 y w with
 | inl f=>
   have C:=B f hb;simp only[];rw[show Qs f ⟨0,0,0,0⟩=false by obtain⟨P,Q,f3,f4⟩:=f;exact Ky C,ow,bifT,w1 om];exact⟨_,rfl,rfl,C⟩
 | inr z=>
   obtain⟨_,N,E,z3,z4,z5⟩:=m z hb;simp only[];rw[Kk,ou,bifF,Qfi (k:=129) hn oz oz (Vd hs) (Vd E) (by rw[Jj];omega),sbind,oq (by rw[Jj,Jj];omega),Wn,Wn];have H:QR 1099511627775 (addQ sum z.2.2):=Jb (Qn0 hs E) oz;have r:(addQ sum z.2.2).length=p.P.length:=by rw[Zl];omega
   obtain⟨l,g1,F⟩:=Qt9 (g:=g) hn H;simp only[];rw[F,j,sbind];cases e:fitQ (limQ p.Ay) (addQ sum z.2.2) 0 with
   | some a=>
     have T:=Jdk e;simp only[];rw[ow,bifT,w1 om,w64 (x:=300+(a:Int)) om om];exact⟨_,rfl,rfl,oz⟩
   | none=>
     simp only[];rw[ou,bifF];exact⟨_,rfl,l,by rw[g1,j],rfl,N,Qk6 s e,by rw[z3,Jj,v],r⟩
noncomputable def swQ(p:Qg)(m:Nat)(xs:List Tri)(ys:List (List Rat)):Nat->List Rat×List Rat->Qe ⊕ (List Rat×List Rat)
 | 0,g=>.inr g
 | d+1,g=>match bstQ p (m+d) (xs.getD d (0,0,[])) (ys.getD d []) g with
   | .inl f=>.inl f
   | .inr z=>swQ p m xs ys d z
noncomputable def segQ(p:Qg)(A:List Tri)(c m:Nat)(g:List Rat×List Rat):Qe ⊕ (List Rat×List Rat):=
 match anewQ p ((segA A c m).take (min (m+c) A.length - 1 - m)) m (A.getD m (0,0,[])).2.2 with
 | .inl f=>.inl f
 | .inr r=>swQ p m (segA A c m) ((A.getD m (0,0,[])).2.2::r) (min (m+c) A.length - m) g
theorem Je7{σ τ:Type}{f:Nat->σ->Option (Lp σ τ)}{L:Nat}{s:σ}:rangeN f (L:Int) s=rangeD f L s:=by unfold rangeN;rw[ol (show(-9223372036854775808:Int)<(L:Int) by omega),ya];rfl
theorem Jnw{n k d m:Nat}{p:Qg}{kept:Vq}{xs:List Tri}{ys:List (List Rat)}(hn:big<=n)(h0:129<=k)(hk:k<8000)(I:PrbW k p)(hr:prbR p)(hm:m+xs.length<=200)(X:ys.length=xs.length)
 (V:∀(i:Nat) x,xs[i]?=some x->TriK k d x/\getI kept.A5 ((m+i:Nat):Int)=some (toF x.2.1)) (W:∀ y∈ys,QR k y/\y.length=d) :
 ∀(j:Nat) (w sum:List Rat) (g:Qk),j<=xs.length->QR k w->QR 129 sum->sum.length=p.P.length->g.limit=limQ p.Ay ->
 ∃ o,rangeD (λ(v:Nat) (r:Qg×Vq×(List Qa)×(List Qa)×Qk)=>
   (getI (toR (xs.map (·.1))) (v:Int)).bind λK=>
   (getI (toRR ys) (v:Int)).bind λL=>
   (Qcy n r.1 r.2.1 r.2.2.1 r.2.2.2.1 r.2.2.2.2 (wrap64 ((m:Int)+(v:Int))) K L).bind λa=>
   bif !(Qs a.1 (⟨0,0,0,0⟩:Qe)) then (
    some (Lp.out (a.2.1,a.2.2.1,a.2.2.2.1,a.2.2.2.2.1,a.2.2.2.2.2,a.1)))
   else (
    some (Lp.go (a.2.1,a.2.2.1,a.2.2.2.1,a.2.2.2.2.1,a.2.2.2.2.2)))) j (p,kept,toR w,toR sum,g)=some o /\
   match swQ p m xs ys j (w,sum) with
   | .inl f=>∃ q,o=.out q/\q.2.2.2.2.2=f/\f.Ax≠0
   | .inr z=>∃ C,o=.go (p,kept,toR z.1,toR z.2,C)/\C.limit=limQ p.Ay/\QR k z.1/\QR 129 z.2/\z.1.length=(if j=0 then w.length else d)/\z.2.length=p.P.length:=by
 intro j
 induction j with
 | zero=>
   intro w sum g _ I hs H e;exact⟨_,rfl,g,rfl,e,I,hs,rfl,H⟩
 | succ j Y=>
   intro w sum g hj J hs H e;have s:xs[j]?=some (xs[j]' om):=oi om;have u:ys[j]?=some (ys[j]' om):=oi om;have B:=xi (l:=ys) (n:=j) om;generalize xs[j]' om=x at s;generalize ys[j]' om=y at u B;obtain⟨x1,x2⟩:=V j x s;obtain⟨y1,y2⟩:=W y B;obtain⟨R,r1,F⟩:=Jhu (n:=n) (k:=k) (d:=d) (i:=m+j) (p:=p) (kept:=kept) (w:=w) (sum:=sum) (y:=y) (g:=g) (x:=x) hn h0 hk I hr x2 om x1 y1 y2 J hs H e;have g1:getI (toR (xs.map (·.1))) (j:Int)=some (toF x.1):=Q7 (by unfold toR;rw[xm,xm,s];rfl);have G:getI (toRR ys) (j:Int)=some (toR y):=Q7 (by unfold toRR;rw[xm,u];rfl);simp only[rangeD,swQ];rw[g1,sbind,G,sbind,w64 (x:=(m:Int)+(j:Int)) om om,show(m:Int)+(j:Int)=((m+j:Nat):Int) by omega,r1,sbind,ot,s,ot,u];simp only[gz];cases hb:bstQ p (m+j) x y (w,sum) with
   | inl f=>
     rw[hb] at F;obtain⟨M,N⟩:=F;rw[show Qs R.1 ⟨0,0,0,0⟩=false by rw[M];obtain⟨f1,f2,f3,f4⟩:=f;exact Ky N,ow,bifT,sbind];exact⟨_,rfl,_,rfl,M,N⟩
   | inr z=>
     rw[hb] at F;obtain⟨C,l1,rfl,Z,l4,l5,l6⟩:=F;rw[Kk,ou,bifF,sbind];obtain⟨o,o1,E⟩:=Y z.1 z.2 C om (Jb Z h0) l4 l6 l1;refine⟨o,o1,?_⟩;simp only[];cases A:swQ p m xs ys j z with
     | inl f=>rw[A] at E;exact E
     | inr z'=>
       rw[A] at E;obtain⟨G,O,P,Q,S,T,U⟩:=E;refine⟨G,O,P,Q,S,?_,U⟩;rw[oj (Nat.succ_ne_zero j),T];split;exact l5;rfl
theorem Jdl{n k d j:Nat}{p:Qg}{A:List Tri}{x:Int}{t0 S:Rat}{w sum:List Rat}{g:Qk}(hn:big<=n)(h0:129<=k)(hk:k<8000)(P:PrbW k p)(hr:prbR p)(hd:(d:Int)=p.Tape.A0)(u:∀ t∈A,TriK k d t)(L:A.length<=200)(N:ChT t0 A S)(E:j<cnt A.length (cutI x))
 (H:QR k w) (_:w.length=d) (hs:QR 129 sum) (G:sum.length=p.P.length) (e:g.limit=limQ p.Ay) :
 ∃ R,Qbb n p (kepQ A (cutI x)) (toR w) (toR sum) g (sgm A.length (cutI x) (j*cutI x))=some R/\match segQ p A (cutI x) (j*cutI x) (w,sum) with
   | .inl f=>R.1=f/\f.Ax≠0
   | .inr z=>∃ s,s.limit=limQ p.Ay/\R=(⟨0,0,0,0⟩,p,kepQ A (cutI x),toR z.1,toR z.2,s)/\QR k z.1/\QR 129 z.2/\z.1.length=d/\z.2.length=p.P.length:=by
 obtain⟨c1,c2⟩:=cut_b x;have V:=(Qf7 c1).1 E;have B:=Jjv (x:=x) hn h0 hk P hr hd u L N E;have C:=Jdj (n:=n) (k:=k) (d:=d) (p:=p) (w:=toR w) (sum:=toR sum) (g:=g) (x:=x) hn om om u L N E;unfold Qbb segQ;rw[B,sbind];generalize U:cutI x=c at *;obtain⟨b1,b2,b3,Q,K⟩:=u _ (Qug V);cases M:anewQ p ((segA A c (j*c)).take (min (j*c+c) A.length - 1 - j*c)) (j*c) (A.getD (j*c) (0,0,[])).2.2 with
 | inl f=>
   have O:=Q1m (λx y f h=>Qs4 h) M;simp only[];rw[show Qs f ⟨0,0,0,0⟩=false by obtain⟨f1,f2,f3,f4⟩:=f;exact Ky O,ow,bifT];exact⟨_,rfl,rfl,O⟩
 | inr r=>
   obtain⟨r1,r2⟩:=Q8e M;simp only[];rw[Kk,ou,bifF,C,sbind];have T:wrap64 ((sgm A.length c (j*c)).To - (sgm A.length c (j*c)).From)=((min (j*c+c) A.length - j*c:Nat):Int):=by show wrap64 (((min (j*c+c) A.length:Nat):Int) - ((j*c:Nat):Int))=_;rw[w64 om om];omega
   rw[T,Je7];have F:r.length=min (j*c+c) A.length - 1 - j*c:=by rw[r1,xa,Qcb];omega
   obtain⟨o,W,v⟩:=Jnw (n:=n) (k:=k) (d:=d) (m:=j*c) (p:=p) (kept:=kepQ A c) (xs:=segA A c (j*c)) (ys:=(A.getD (j*c) (0,0,[])).2.2::r) hn h0 hk P hr (by rw[Qcb];omega) (by rw[xn,F,Qcb];omega)
    (λi y a=>⟨u y (Quf y (ud a)),Q7 (by
     have hi:=(ug.1 a).1;rw[Qcb] at hi;show(toR _)[j*c+i]?=_;unfold toR;rw[xm,xm];unfold segA at a;rw[vc,jz om] at a
     rw[a];rfl)⟩)
    (λy a=>by
     rcases xu.1 a with rfl | a;exact⟨Q,K⟩
     have:=r2 y a;exact⟨Jb this.1 h0,by rw[this.2,K]⟩)
    (min (j*c+c) A.length - j*c) w sum g (by rw[Qcb];omega) H hs G e
   erw [W]
   rw[sbind];cases l:swQ p (j*c) (segA A c (j*c)) ((A.getD (j*c) (0,0,[])).2.2::r) (min (j*c+c) A.length - j*c) (w,sum) with
   | inl f=>
     rw[l] at v;obtain⟨q,rfl,I,J⟩:=v;exact⟨_,rfl,I,J⟩
   | inr z=>
     rw[l] at v;obtain⟨s,rfl,I,J,X,Y,Z⟩:=v;refine⟨_,rfl,s,I,rfl,J,X,?_,Z⟩;rw[Y,oj om]
noncomputable def allQ(p:Qg)(A:List Tri)(c:Nat):List Nat->List Rat×List Rat->Qe ⊕ (List Rat×List Rat)
 | [],g=>.inr g
 | m::l,g=>match segQ p A c m g with
   | .inl f=>.inl f
   | .inr z=>allQ p A c l z
def SwR(p:Qg)(h:Qt)(w:List Rat):Prop:=prbR p/\Qkr h/\(h.Y.length:Int)=p.Tape.A0/\w.length=h.Y.length
open Classical in
noncomputable def sweepQ(p:Qg)(h:Qt)(w:List Rat)(c:Nat):Qe ⊕ (List Rat×List Rat):=
 if SwR p h w then allQ p (tri h) c (mrk (tri h).length c).reverse (w,List.replicate p.P.length 0) else .inl ⟨2,0,0,0⟩
theorem Jlp{n k d:Nat}{p:Qg}{A:List Tri}{x:Int}{t0 I:Rat}(hn:big<=n)(h0:129<=k)(hk:k<8000)(B:PrbW k p)(hr:prbR p)(hd:(d:Int)=p.Tape.A0)(K:∀ t∈A,TriK k d t)(L:A.length<=200)(M:ChT t0 A I):
 ∀(l:List Nat) (i:Nat) (w sum:List Rat) (g:Qk),(∀ m∈l,∃ j,j<cnt A.length (cutI x)/\m=j*cutI x)->QR k w->w.length=d->QR 129 sum->sum.length=p.P.length->g.limit=limQ p.Ay ->
 (rangeL (λ(_:Nat) (F:Qx) (e:Qg×Vq×(List Qa)×(List Qa)×Qk)=>
  (Qbb n e.1 e.2.1 e.2.2.1 e.2.2.2.1 e.2.2.2.2 F).bind λa=>
  bif !(Qs a.1 (⟨0,0,0,0⟩:Qe)) then (
   some (Lp.out (((⟨[],[]⟩:J3),a.1))))
  else (
   some (Lp.go (a.2.1,a.2.2.1,a.2.2.2.1,a.2.2.2.2.1,a.2.2.2.2.2)))) (l.map (sgm A.length (cutI x))) i (p,kepQ A (cutI x),toR w,toR sum,g)).bind (lpK λ(s:Qg×Vq×(List Qa)×(List Qa)×Qk)=>
  some ((⟨s.2.2.1,s.2.2.2.1⟩:J3),(⟨0,0,0,0⟩:Qe))) =
  some (match allQ p A (cutI x) l (w,sum) with | .inl f=>(⟨[],[]⟩,f) | .inr z=>(⟨toR z.1,toR z.2⟩,⟨0,0,0,0⟩)) /\
  (∀ f,allQ p A (cutI x) l (w,sum)=.inl f->f.Ax≠0)/\∀ z,allQ p A (cutI x) l (w,sum)=.inr z->QR k z.1/\QR 129 z.2/\z.1.length=d/\z.2.length=p.P.length:=by
 intro l
 induction l with
 | nil=>intro i w sum g _ B u hs q _;exact⟨rfl,(λf h=>by cases h),λz h=>by cases h;exact⟨B,hs,u,q⟩⟩
 | cons m l P=>
   intro i w sum g u E C hs q r;obtain⟨j,N,rfl⟩:=u m oc;obtain⟨R,V,v⟩:=Jdl (n:=n) (k:=k) (d:=d) (j:=j) (p:=p) (A:=A) (x:=x) (w:=w) (sum:=sum) (g:=g) hn h0 hk B hr hd K L M N E C hs q r;simp only[yy,rangeL,allQ];rw[V,sbind];cases hb:segQ p A (cutI x) (j*cutI x) (w,sum) with
   | inl f=>
     rw[hb] at v;obtain⟨G,H⟩:=v;rw[show Qs R.1 ⟨0,0,0,0⟩=false by rw[G];obtain⟨X,Y,f3,f4⟩:=f;exact Ky H,ow,bifT,sbind,sbind,Yz,G];exact⟨rfl,(λW h=>by cases h;exact H),λz h=>by cases h⟩
   | inr z=>
     rw[hb] at v;obtain⟨J,l1,rfl,Q,S,T,U⟩:=v;rw[Kk,ou,bifF,sbind];exact P (i+1) z.1 z.2 J (λm O=>u m (by simp[O])) Q T S U l1
theorem Qif{n k:Nat}{p:Qg}{h:Qt}{w:List Qa}{x:Int}(hn:big<=n)(h0:129<=k)(hk:k<8000)(F:PrbW k p)(I:h.Aw.length<=200)(u:∀ t∈h.Aw,FT k t)(C:Fk k h.T)(E:FR k h.Y)(e:h.Y.length<=1000000)(l:FR k w)(v:w.length<=1000000):
 Qff n p h w x=some (match sweepQ p h (rv w) (cutI x) with | .inl f=>(⟨[],[]⟩,f) | .inr z=>(⟨toR z.1,toR z.2⟩,⟨0,0,0,0⟩)) /\
  (∀ f,sweepQ p h (rv w) (cutI x)=.inl f->f.Ax≠0)/\∀ z,sweepQ p h (rv w) (cutI x)=.inr z->QR k z.1/\QR 129 z.2/\z.1.length=h.Y.length/\z.2.length=p.P.length:=by
 obtain⟨c1,L⟩:=cut_b x;unfold Qff sweepQ;simp only[jn_eq];rw[Qms hn h0 hk F,sbind,bifnP];by_cases hr:prbR p
 case neg=>rw[oj hr,oj (λg=>hr g.1),bifT];exact⟨rfl,(λf h=>by cases h;decide),λz h=>by cases h⟩
 rw[oq hr,Qqe hn om om om u C E e,sbind,bifnP];by_cases hp:Qkr h
 case neg=>rw[oj hp,oj (λg=>hp g.2.1),bifT];exact⟨rfl,(λf h=>by cases h;decide),λz h=>by cases h⟩
 rw[oq hp];by_cases hd:(h.Y.length:Int)=p.Tape.A0
 case neg=>rw[oo hd,oj (λg=>hd g.2.2.1),ow,bifT,bifT];exact⟨rfl,(λf h=>by cases h;decide),λz h=>by cases h⟩
 rw[ol hd,ou,bifF];by_cases a:(w.length:Int)=(h.Y.length:Int)
 case neg=>rw[oo a,oj (λg=>a (by have:=g.2.2.2;rw[Ji] at this;omega)),ow,bifT];exact⟨rfl,(λf h=>by cases h;decide),λz h=>by cases h⟩
 have i:w.length=h.Y.length:=om
 rw[ol a,oq ⟨hr,hp,hd,by rw[Ji];exact i⟩,ou,bifF];have r:p.P.length<=300:=by have O:=hr.2.2;obtain⟨⟨⟨_,_⟩,⟨M,N⟩,_⟩,_⟩:=hr.1;omega
 have B:(tri h).length<=200:=by have:=Qn1 h.Aw;rw[Qte];omega
 rw[Jnv (x:=x) hn om om I u C E e,sbind,Qf0 hn,sbind,Zq (k:=k) hn om om (Jq (by rw[Qxu];omega)) l v,sbind,Jf,Qxt,Qf1 hn r,sbind];unfold X9;rw[sbind,Qxw.1,Qzr hn B,sbind]
 have s:=Jlp (n:=n) (k:=k) (d:=h.Y.length) (p:=p) (A:=tri h) (x:=x) hn h0 hk F hr hd (Jjp om hp u) B (Q9w hp) (mrk (tri h).length (cutI x)).reverse 0 (rv w) (List.replicate p.P.length 0) ⟨⟨0,0⟩,min (max p.Ay 0) 4096⟩
  (λm J=>by obtain⟨j,G,H,_⟩:=Q2g c1 (List.mem_reverse.1 J);exact⟨j,G,H⟩) (QR_rv l om) (by rw[Ji];exact i) (λq K=>by rw[List.eq_of_mem_replicate K,Zo];decide) oc rfl
 exact s
end Go.Proofs.YtbdgngdpkdagoaaGreatDoor
