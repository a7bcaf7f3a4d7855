import Derived.Test.YtbdgngdpkdagoabGreatDoorP1
namespace Go.Proofs.YtbdgngdpkdagoabGreatDoor
open Go Go.RowKit
def sumQ(l:List Rat):Rat:=l.foldl (λo x=>o+x) 0
theorem Qui{k:Nat}:∀ {l:List Rat}{b:Nat}{z:Rat},QR k l->qw z<=b->qw (l.foldl (λo x=>o+x) z)<=b+l.length*(k+1)
 | [],b,z,_,h=>by simpa using h
 | x::l,b,z,a,h=>by rw[jx];have:=Qui (l:=l) (λq d=>a q (.tail _ d)) (Zn h (a x (.head _)));rw[xm,vk];omega
theorem Qwm{n k:Nat}{a:List Qc}(hn:big<=n)(m:1<=k)(hk:k<1048576)(e:FR k a)(u:a.length<=1000):Qgf n a=some (toF (sumQ (rv a))):=by
 unfold Qgf;rw[Qac hn,sbind,Qjy (λi=>toF ((rv (a.take i)).foldl (λo x=>o+x) 0)) a,Xi,xu];rfl;intro i x d;have hi:=K1 d;have f:a.take (i+1)=a.take i++[x]:=by rw[gc,d];rfl
 have j:rv (a.take (i+1))=rv (a.take i)++[fv x]:=by unfold rv;rw[f,yf];rfl
 have r:=Qui (l:=rv (a.take i)) (b:=1) (z:=0) (QR_rv (λy q=>e y (yx q)) m) (by rw[Qab];exact xn _);have s:(rv (a.take i)).length*(k+1)<=1000*1048576:=gi (by rw[J5];simp;omega) om;rw[Xt (k:=2000000000) hn om om (Js om) (Vm (e x (Jr d)) om),sbind,j,List.foldl_append,Jf];rfl;rfl
def numR(x:Qc):Prop:=x=toF (fv x)/\qz (fv x)<=190
theorem Jex{n k:Nat}{x:Qc}(hn:big<=n)(hk:k<1048576)(a:Fk k x):
 ((Yl n x).bind λd=>bif !d then some true else (Y5 n x).bind λf=>some (decide ((190:Int)<f)))=some (!dP (numR x)):=by
 rw[Qro hn (Fk_Fw a om),sbind,@decP _ (Classical.propDecidable _),bifnP];unfold numR;by_cases h:x=toF (fv x)
 . have j:qw (fv x)<1099511627776:=by
    rcases dm k with h0 | h0
    . subst h0
      have:=qw_fv (Vm a (show 0<=1 by omega)) (xn 1);omega
    . have:=qw_fv a h0;omega
   have e:Y5 n x=some (qz (fv x):Int):=by
    conv=>lhs;rw[h]
    exact Qwi hn j
   rw[oo h,e,sbind];by_cases i:qz (fv x)<=190
   . rw[dP_t ⟨h,i⟩,oj om];rfl
   . rw[dP_f λg=>i g.2,oi om];rfl
 . rw[ol h,dP_f λg=>h g.1];rfl
theorem Qrz{n k:Nat}{l:List (List Qc)}(hn:big<=n)(hk:k<1048576)(v:∀ r∈l,FR k r):Qf2 n l=some (dP (∀ r∈l,∀ x∈r,numR x)):=by
 unfold Qf2;rw[Qb8 (λ_ (r:List Qc)=>∀ x∈r,numR x) (r:=false)];rw[Qil];by_cases h:∀ r∈l,∀ x∈r,numR x;rw[oo h,dP_t h];rw[ol h,dP_f h];intro i r hr
 have s:(rangeL (λ(_:Nat) (q:Qc) (_:Unit)=>
  jn (λ(a:(Bool)->Option _)=>
   (Yl n q).bind λd=>
   bif !d then (
    a true)
   else (
    (Y5 n q).bind λf=>
    a (decide ((190:Int)<f)))) (λ(m:Bool)=>
   bif m then (
    some (Lp.out (Lp.out (false))))
   else (
    some (Lp.go ())))) r 0 ()).bind (lpK λ(_:Unit)=>some (Lp.go ()))=@ite _ (∀ x∈r,numR x) (Classical.propDecidable _) (some (Lp.go ())) (some (Lp.out (σ:=Unit) (τ:=Bool) false)):=by
  rw[Qb8 (λ_ (x:Qc)=>numR x) (r:=Lp.out false),Qil];intro j x w;have e:=Jex hn hk (v r (Jr hr) x (Jr w))
  have u:(jn (λ(a:(Bool)->Option (Lp Unit (Lp Unit Bool)))=>
   (Yl n x).bind λd=>
   bif !d then (
    a true)
   else (
    (Y5 n x).bind λf=>
    a (decide ((190:Int)<f)))) (λ(m:Bool)=>
   bif m then (
    some (Lp.out (Lp.out (false))))
   else (
    some (Lp.go ()))))=((Yl n x).bind λd=>bif !d then some true else (Y5 n x).bind λf=>some (decide ((190:Int)<f))).bind λm=>bif m then (
    some (Lp.out (Lp.out (false))))
   else (
    some (Lp.go ())):=by
   rw[jn_eq];cases Yl n x with
   | none=>rfl
   | some b=>
     rw[sbind,sbind];cases b;rfl;rw[ot,bifF,bifF];cases Y5 n x with
     | none=>rfl
     | some z=>rfl
  rw[u,e,sbind];constructor;intro h;rw[dP_t h];rfl;intro h;rw[dP_f h];rfl
 rw[s];constructor;intro h;rw[oo h];intro h;rw[ol h]
def shapeR(s:Q2):Prop:=(1<=s.B.length/\s.B.length<=8)/\s.C.length=s.B.length/\s.A.length=s.B.length/\(s.E.length=s.B.length\/s.E.length=0)/\∀(i:Nat) r,s.A[i]?=some r->r.length=i
theorem Q3x(s:Q2):Qk0 s=some (dP (shapeR s)):=by
 unfold Qk0 shapeR;simp only[jn_eq,bifd,bifnd];by_cases c1:(s.B.length:Int)<1
 . rw[oo c1,bifT,dP_f om]
 rw[ol c1];by_cases j:(8:Int)<(s.B.length:Int)
 . rw[oo j,bifT,dP_f om]
 rw[ol j];by_cases l:(s.C.length:Int)=(s.B.length:Int)
 case neg=>rw[ol l,bifT,dP_f om]
 rw[oo l];by_cases m:(s.A.length:Int)=(s.B.length:Int)
 case neg=>rw[ol m,bifT,dP_f om]
 rw[oo m]
 have hr:=Qb8 (f:=λ(a:Nat) (d:List Qc) (_:Unit)=>bif !decide ((d.length:Int)=(a:Int)) then some (Lp.out false) else some (Lp.go ())) (K:=λ_=>some true) (r:=false) (λi (r:List Qc)=>r.length=i) s.A (λi x w=>by
  constructor
  . intro h;rw[oi om];rfl
  . intro h;rw[oj om];rfl)
 have e:(rangeL (λ(a:Nat) (d:List Qc) (_:Unit)=>if (d.length:Int)=(a:Int) then some (Lp.go ()) else some (Lp.out false)) s.A 0 ()).bind (lpK λ_=>some true)=(rangeL (λ(a:Nat) (d:List Qc) (_:Unit)=>bif !decide ((d.length:Int)=(a:Int)) then some (Lp.out false) else some (Lp.go ())) s.A 0 ()).bind (lpK λ_=>some true):=by simp only[bifnd]
 have fin:(s.E.length=s.B.length\/s.E.length=0)->(rangeL (λ(a:Nat) (d:List Qc) (_:Unit)=>if (d.length:Int)=(a:Int) then some (Lp.go ()) else some (Lp.out false)) s.A 0 ()).bind (lpK λ_=>some true)=some (dP ((1<=s.B.length/\s.B.length<=8)/\s.C.length=s.B.length/\s.A.length=s.B.length/\(s.E.length=s.B.length\/s.E.length=0)/\∀(i:Nat) r,s.A[i]?=some r->r.length=i)):=by
  intro v;rw[e,hr];by_cases h:∀(i:Nat) r,s.A[i]?=some r->r.length=i
  . rw[oo h,dP_t ⟨om,om,om,v,h⟩]
  . rw[ol h,dP_f λg=>h g.2.2.2.2]
 by_cases q:(s.E.length:Int)=(s.B.length:Int)
 . rw[oo q,bifF];exact fin (.inl om)
 . rw[ol q]
   by_cases u:(s.E.length:Int)=0
   . rw[oo u];exact fin (.inr om)
   . rw[ol u,dP_f om]
structure SchW(k:Nat)(s:Q2):Prop where
 a:∀ r∈s.A,FR k r
 b:FR k s.B
 c:FR k s.C
 e:FR k s.E
 n:s.Bh.length<=4611686018427387904
def rowsR(s:Q2):Prop:=∀(i:Nat) r,s.A[i]?=some r->sumQ (rv r)=fv (s.C.getD i ⟨⟨false,[]⟩,[]⟩)
theorem Q41{n k:Nat}{s:Q2}(hn:big<=n)(f:1<=k)(hk:k<1048576)(m:SchW k s)(e:shapeR s):Ql8 n s=some (dP (rowsR s)):=by
 unfold Ql8;obtain⟨⟨g1,w⟩,g3,g4,x,q⟩:=e;rw[Qb8 (λi (r:List Qc)=>sumQ (rv r)=fv (s.C.getD i ⟨⟨false,[]⟩,[]⟩)) (r:=false)];unfold rowsR;by_cases h:∀(i:Nat) r,s.A[i]?=some r->sumQ (rv r)=fv (s.C.getD i ⟨⟨false,[]⟩,[]⟩);rw[oo h,dP_t h];rw[ol h,dP_f h];intro i r hr;have hi:=K1 hr;have j:s.C[i]?=some (s.C.getD i ⟨⟨false,[]⟩,[]⟩):=by rw[xh,oq (show i<s.C.length by omega)];rfl
 have a:=m.a r (Jr hr);have v:=q i r hr;have d:=m.c _ (Jr j);have A:=Qui (l:=rv r) (b:=1) (z:=0) (QR_rv a f) (by rw[Qab];exact xn _);have u:(rv r).length*(k+1)<=8*1048576:=gi (by rw[J5];omega) om;rw[Qwm hn f hk a om,sbind,Je j,sbind,Qb7 (k:=10000000) hn om om (Js (by unfold sumQ;omega)) (Vm d om),sbind,Jf];constructor;intro h;rw[oi h];rfl;intro h;rw[oj h];rfl
def schR(s:Q2):Prop:=wdB 2 s.Bh=true/\shapeR s/\((∀ r∈s.A,∀ x∈r,numR x)/\∀ r∈[s.B,s.C,s.E],∀ x∈r,numR x)/\rowsR s/\sumQ (rv s.B)=1/\(s.E≠[]->sumQ (rv s.E)=1)
theorem Q9r{n k:Nat}{a:List Qc}(hn:big<=n)(e:1<=k)(hk:k<1048576)(i:FR k a)(r:a.length<=8){β:Type}(f:Bool->Option β):
 ((Qgf n a).bind λd=>(Xl n d (toF 1)).bind f)=f (decide (sumQ (rv a)=1)):=by
 have q:=Qui (l:=rv a) (b:=1) (z:=0) (QR_rv i e) (by rw[Qab];exact xn _);have j:(rv a).length*(k+1)<=8*1048576:=gi (by rw[J5];omega) om;have m:qw 1<=10000000:=by unfold qw;rw[show(1:Rat).num=1 from rfl,show(1:Rat).den=1 from rfl,show(1:Int).natAbs=1 from rfl,toL1];omega
 rw[Qwm hn e hk i om,sbind,Qb7 (k:=10000000) hn om om (Js (by unfold sumQ;omega)) (Js m),sbind,Jf,Jf]
theorem Q3y{n k:Nat}{s:Q2}(hn:big<=n)(u:1<=k)(hk:k<1048576)(d:SchW k s):∃ v,Qh3 n s=some v/\(v=0↔schR s):=by
 unfold Qh3;rw[Qi8 hn,sbind,Q8l (w:=⟨2,s.Bh,0⟩) hn d.n,sbind];simp only[];unfold schR;cases G:wdB 2 s.Bh
 . exact⟨1,rfl,oc⟩
 rw[ot,bifF,Q3x,sbind,bifnP];by_cases a:shapeR s
 case neg=>rw[ol a];exact⟨2,rfl,λh=>om,λh=>absurd h.2.1 a⟩
 rw[oo a];have B:=a;obtain⟨⟨g1,C⟩,g3,g4,E,F⟩:=B;simp only[jn_eq];rw[Qrz hn hk d.a,sbind,bifnP]
 have A:∀ r∈[s.B,s.C,s.E],FR k r:=λr hr=>by
  rcases xg.1 hr with rfl | hr
  . exact d.b
  rcases xg.1 hr with rfl | hr
  . exact d.c
  rcases xg.1 hr with rfl | hr
  . exact d.e
  cases hr
 by_cases i:∀ r∈s.A,∀ x∈r,numR x
 case neg=>rw[ol i,bifT];exact⟨3,rfl,λh=>om,λh=>absurd h.2.2.1.1 i⟩
 rw[oo i,Qrz hn hk A,sbind,bifnP];by_cases j:∀ r∈[s.B,s.C,s.E],∀ x∈r,numR x
 case neg=>rw[ol j];exact⟨3,rfl,λh=>om,λh=>absurd h.2.2.1.2 j⟩
 rw[oo j,Q41 hn u hk d a,sbind,bifnP];by_cases l:rowsR s
 case neg=>rw[ol l];exact⟨4,rfl,λh=>om,λh=>absurd h.2.2.2.1 l⟩
 rw[oo l,Q9r hn u hk d.b om,bifnd];by_cases f:sumQ (rv s.B)=1
 case neg=>rw[ol f];exact⟨5,rfl,λh=>om,λh=>absurd h.2.2.2.2.1 f⟩
 rw[oo f,bifd];by_cases q:(0:Int)<(s.E.length:Int)
 . have e:s.E≠[]:=λh=>by rw[h] at q;simp at q
   rw[oo q,Q9r hn u hk d.e om,bifnd];by_cases m:sumQ (rv s.E)=1
   . rw[oo m];exact⟨0,rfl,λ_=>⟨by trivial,a,⟨i,j⟩,l,f,λ_=>m⟩,λ_=>rfl⟩
   . rw[ol m];exact⟨6,rfl,λh=>om,λh=>absurd (h.2.2.2.2.2 e) m⟩
 . have e:s.E=[]:=ow om
   rw[ol q,bifF];exact⟨0,rfl,λ_=>⟨by trivial,a,⟨i,j⟩,l,f,λh=>absurd e h⟩,λ_=>rfl⟩
theorem Qtv{n k:Nat}{s:Q2}(hn:big<=n)(e:1<=k)(hk:k<1048576)(f:SchW k s):Qh4 n s=some (dP (schR s)):=by obtain⟨v,a,d⟩:=Q3y hn e hk f;unfold Qh4;rw[a,sbind];exact Qei d
def gapQ(s:Q2):List Rat:=if s.E=[] then [] else addQ (rv s.B) (scaleQ (-1) (rv s.E))
theorem Qwn{n k:Nat}{s:Q2}(hn:big<=n)(e:1<=k)(hk:k<1048576)(d:SchW k s)(hr:schR s):Qgi n s=some (toR (gapQ s)):=by
 unfold Qgi gapQ;simp only[jn_eq];rw[Qtv hn e hk d,sbind,dP_t hr,ot,bifF];obtain⟨⟨g1,j⟩,g3,g4,l,m⟩:=hr.2.1;by_cases a:s.E=[]
 rw[oo a,a];rfl;have q:s.E.length≠0:=λh=>a (ow h);have i:qw (((-1:Int):Int):Rat)<=1:=by unfold qw;rw[Rat.num_intCast,Rat.den_intCast,show(-1:Int).natAbs=1 from rfl,toL1];omega
 have f:(((-1:Int):Int):Rat)=-1:=rfl;rw[ol a,oj om,bifF];unfold Qwa;rw[Qlm hn oz oz,sbind,Qbe (k:=k+1) hn om om (Js om) (W3 d.e om) om,sbind,Jf];rw[Qln (k:=k+1) hn om om (W3 d.b om) (X8 (Jx (Qnr i (QR_rv d.e e)) om)) om,sbind,Kr,Qcd,J5,oo om,sbind,Zo,f]
theorem Q6v{k:Nat}{s:Q2}(a:1<=k)(d:SchW k s):QR (2*k+2) (gapQ s):=by
 unfold gapQ;split;intro x e;cases e;have f:qw (-1:Rat)<=1:=by unfold qw;rw[show(-1:Rat).num=-1 from rfl,show(-1:Rat).den=1 from rfl,show(-1:Int).natAbs=1 from rfl,toL1];omega
 exact Jx (Qu8 (QR_rv d.b a) (Qnr f (QR_rv d.e a))) om
theorem Qgv{lim:Int}:∀ {l:List Rat}{i j:Nat},fitQ lim l i=some j->j<i+l.length
 | [],i,j,h=>by simp[fitQ] at h
 | q::l,i,j,h=>by simp only[fitQ] at h;split at h;have:=Qgv h;simp;omega;cases h;simp
structure MadeQ where
 ys:List (List Rat)
 ks:List (List Rat)
 next:List Rat
 err:List Rat
def towQ(H:Rat)(m:Nat)(c:List Rat)(kss:List (List Rat)):List Rat:=scaleQ H (mixQ c kss (List.replicate m 0))
def fromQ(H:Rat)(Y c:List Rat)(kss:List (List Rat)):List Rat:=addQ Y (towQ H Y.length c kss)
def stageQ(t:Qr)(lim:Int)(T H:Rat)(Y P:List Rat)(a:List Rat)(c:Rat)(i:Nat)(kss:List (List Rat)):Qe ⊕ (List Rat×List Rat):=
 match fitQ lim (fromQ H Y a kss) 0 with
 | some j=>.inl ⟨6,0,(i:Int),300+(j:Int)⟩
 | none=>match fieldQ t lim (T+H*c) (fromQ H Y a kss) P with
   | .inl e=>.inl ⟨e.1,0,(i:Int),(e.2:Int)⟩
   | .inr k=>.inr (fromQ H Y a kss,k)
def stagesQ(t:Qr)(lim:Int)(T H:Rat)(Y P:List Rat):List (List Rat×Rat)->Nat->List (List Rat)->List (List Rat)->Qe ⊕ (List (List Rat)×List (List Rat))
 | [],_,yss,kss=>.inr (yss,kss)
 | x::r,i,yss,kss=>match stageQ t lim T H Y P x.1 x.2 i kss with
   | .inl f=>.inl f
   | .inr z=>stagesQ t lim T H Y P r (i+1) (yss++[z.1]) (kss++[z.2])
def endQ(s:Q2)(lim:Int)(H:Rat)(Y:List Rat)(yss kss:List (List Rat)):Qe ⊕ MadeQ:=
 match fitQ lim (fromQ H Y (rv s.B) kss) 0 with
 | some j=>.inl ⟨6,0,(s.B.length:Int),300+(j:Int)⟩
 | none=>match fitQ lim (if gapQ s=[] then [] else towQ H Y.length (gapQ s) kss) 0 with
   | some j=>.inl ⟨6,0,(s.B.length:Int)+1,300+(j:Int)⟩
   | none=>.inr ⟨yss,kss,fromQ H Y (rv s.B) kss,if gapQ s=[] then [] else towQ H Y.length (gapQ s) kss⟩
def doQ(t:Qr)(s:Q2)(lim:Int)(T H:Rat)(Y P:List Rat):Qe ⊕ MadeQ:=
 match stagesQ t lim T H Y P (List.zip (s.A.map rv) (rv s.C)) 0 [] [] with
 | .inl f=>.inl f
 | .inr z=>endQ s lim H Y z.1 z.2
def toRR(l:List (List Rat)):List (List Qc):=l.map toR
theorem Qf5(l:List (List Rat)):(toRR l).length=l.length:=by unfold toRR;simp
theorem Jey(l:List (List Rat)):(toRR l).map rv=l:=by
 unfold toRR;rw[vo]
 conv=>rhs;rw[<-List.map_id l]
 exact wj λq _=>Zo q
theorem Q0b{l:List (List Rat)}{P:List Qc->Prop}(h:∀ a∈l,P (toR a)):∀ a∈toRR l,P a:=λa d=>by obtain⟨q,e,rfl⟩:=xd.1 d;exact h q e
theorem Qpb(m:Nat):QR 1 (List.replicate m 0):=λq a=>by rw[(jo.1 a).2,Qab];exact xn _
theorem Qsg{k m:Nat}{H:Rat}{c:List Rat}{kss:List (List Rat)}(e:qw H<=k)(f:QR k c)(hk:∀ a∈kss,QR 129 a)(i:kss.length<=8)(h0:129<=k):QR (20*k) (towQ H m c kss):=by have d:=Qu9 (z:=List.replicate m 0) f hk (Qpb m);have j:kss.length*(k+129+1)<=8*(k+129+1):=xt _ i;exact Jx (Qnr e d) om
theorem Qns{k:Nat}{H:Rat}{Y c:List Rat}{kss:List (List Rat)}(e:QR k Y)(d:qw H<=k)(f:QR k c)(hk:∀ a∈kss,QR 129 a)(i:kss.length<=8)(h0:129<=k):QR (22*k) (fromQ H Y c kss):=
 Jx (Qu8 e (Qsg d f hk i h0)) om
theorem Qmv{m:Nat}{H:Rat}{c:List Rat}{kss:List (List Rat)}(hk:∀ a∈kss,a.length=m):(towQ H m c kss).length=m:=by unfold towQ;rw[Qcd];exact Ql3 hk oc
theorem Qha{H:Rat}{Y c:List Rat}{kss:List (List Rat)}(hk:∀ a∈kss,a.length=Y.length):(fromQ H Y c kss).length=Y.length:=by unfold fromQ;rw[Qf4,Qmv hk,Nat.min_self]
section
variable {n k:Nat}{p:Qn}{t h:Qc}{y:List Qc}{g:Ql}{ys ks:List (List Qc)}{nx er:List Qc}
theorem Q4j{c:List Qc}{kss:List (List Rat)}(hn:big<=n)(h0:129<=k)(hk:k<16384)(q:Fk k h)(m:FR k c)(e:∀ a∈kss,QR 129 a)(r:kss.length<=8)(i:c.length=kss.length)(d:∀ a∈kss,a.length=y.length)(v:y.length<=6):
 Yf n p t h y g ys (toRR kss) nx er c=some (toR (towQ (fv h) y.length (rv c) kss)):=by
 unfold Yf;rw[Qva,Q2j (j:=k) (k:=129) hn om om om om m (Q0b λa f=>X8 (e a f)) om (by rw[Qf5];omega),sbind,oo ⟨by rw[Qf5,i],Q0b λa f=>by rw[Kr];exact d a f⟩];rw[Jey];have s:=Qu9 (z:=List.replicate y.length 0) (QR_rv m om) e (Qpb y.length);have u:kss.length*(k+129+1)<=8*(k+129+1):=xt _ r;have l:=Ql3 (cs:=rv c) d (show(List.replicate y.length (0:Rat)).length=y.length by simp);rw[Qbe (k:=20*k) hn om om (Vm q om) (X8 (Jx s om)) (by rw[Kr,l];omega),sbind,Zo];rfl
theorem Q9s{c:List Qc}{kss:List (List Rat)}(hn:big<=n)(h0:129<=k)(hk:k<16384)(q:Fk k h)(j:FR k y)(l:FR k c)(e:∀ a∈kss,QR 129 a)(r:kss.length<=8)(f:c.length=kss.length)(d:∀ a∈kss,a.length=y.length)(u:y.length<=6):
 Qbq n p t h y g ys (toRR kss) nx er c=some (toR (fromQ (fv h) (rv y) (rv c) kss)):=by
 unfold Qbq;have s:=Qsg (m:=y.length) (qw_fv q om) (QR_rv l om) e r h0;have i:=Qmv (H:=fv h) (c:=rv c) d;rw[Q4j hn h0 hk q l e r f d u,sbind,Qln (k:=20*k) hn om om (W3 j om) (X8 s) om,sbind,Kr,i,oo rfl,Zo];unfold fromQ;rw[J5]
theorem Q2m{l:List Rat}{x2:Int}(hn:big<=n)(i:QR 1099511627775 l)(m:l.length<=1000):
 ∃ a,a.limit=g.limit/\Y1 n p t h y g ys ks nx er (toR l) x2=some (match fitQ g.limit l 0 with | none=>(⟨0,0,0,0⟩,a) | some j=>(⟨6,0,x2,300+(j:Int)⟩,a)):=by
 obtain⟨a,d,e⟩:=Q0a (g:=g) hn i;refine⟨a,d,?_⟩;unfold Y1;rw[e,sbind];cases f:fitQ g.limit l 0 with
 | none=>rfl
 | some j=>
   have:=Qgv f;simp only[ov,bifT];rw[w64 om om]
structure PrbOK(n k:Nat)(p:Qn)(t h:Qc)(y:List Qc):Prop where
 tp:Q2k n k p.Tape
 sw:SchW k p.Ap
 sr:schR p.Ap
 pk:FR k p.P
 pl:(p.P.length:Int)=p.Tape.A9
 tk:Fk k t
 hk:Fk k h
 yk:FR k y
 yl:(y.length:Int)=p.Tape.A3
def limQ(bits:Int):Int:=min (max bits 0) 4096
theorem Qxw{i:Nat}{c:Qc}(hn:big<=n)(h0:129<=k)(hk:k<16384)(j:Fk k t)(e:Fk k h)(a:Fk k c)(d:p.Ap.C[i]?=some c):Qg1 n p t h (i:Int)=some (toF (fv t+fv h*fv c)):=by have hi:=K1 d;have f:=Wa (qw_fv e om) (qw_fv a om);unfold Qg1;simp only[jn_eq];rw[oj (show ¬(i:Int)<0 by omega),bifF,oj (show ¬(p.Ap.C.length:Int)<=(i:Int) by omega),bifF,Je d,sbind,Xf hn om om e a,sbind,Xt (k:=4*k) hn om om (Vm j om) (Js om),sbind,Jf]
theorem Jgf{i:Nat}{a:List Qc}{c:Qc}{kss:List (List Rat)}(hn:big<=n)(h0:129<=k)(hk:k<16384)(ok:PrbOK n k p t h y)(O:g.limit=limQ p.Aw)
 (B:p.Ap.A[i]?=some a) (G:p.Ap.C[i]?=some c) (S:ys.length<=8) (u:∀ a∈kss,QR 129 a) (Q:kss.length=i) (s:∀ a∈kss,a.length=y.length) :
 ∃ A,A.limit=g.limit/\∃ r,Qa3 n p t h y g ys (toRR kss) nx er (i:Int)=some r /\
   match stageQ p.Tape (limQ p.Aw) (fv t) (fv h) (rv y) (rv p.P) (rv a) (fv c) i kss with
   | .inl f=>r.1=f/\f.Ay≠0
   | .inr z=>r=(⟨0,0,0,0⟩,p,t,h,y,nx,er,A,ys++[toR z.1],toRR (kss++[z.2]))/\QR 129 z.2/\z.2.length=y.length:=by
 obtain⟨⟨U,V⟩,⟨W,X⟩,Z,d6⟩:=ok.tp.r.1;obtain⟨⟨g1,g2⟩,g3,g4,g5,L⟩:=ok.sr.2.1;have hi:=K1 B;have C:=ok.yl;have d:=ok.sw.a a (Jr B);have m:=ok.sw.c c (Jr G);have N:=L i a B;have F:=Qns (QR_rv ok.yk om) (qw_fv ok.hk om) (QR_rv d om) u om h0;have q:=Qha (H:=fv h) (Y:=rv y) (c:=rv a) (kss:=kss) (by rw[J5];exact s);rw[J5] at q;unfold Qa3;rw[Je B,sbind,Q9s hn h0 hk ok.hk ok.yk d u om om s om,sbind];obtain⟨A,J,K⟩:=Q2m (p:=p) (t:=t) (h:=h) (y:=y) (g:=g) (ys:=ys) (ks:=toRR kss) (nx:=nx) (er:=er) (x2:=(i:Int)) hn (Jx F (show 22*k<=1099511627775 by omega)) om;refine⟨A,J,?_⟩;rw[K,sbind,O];unfold stageQ;cases hf:fitQ (limQ p.Aw) (fromQ (fv h) (rv y) (rv a) kss) 0 with
 | some j=>
   simp only[];rw[Yx oz,ov,bifT];exact⟨_,rfl,rfl,oz⟩
 | none=>
   simp only[];rw[Wf,ot,bifF];unfold Qv9;have w:=Wa (qw_fv ok.hk om) (qw_fv m om);have E:=Zn (qw_fv ok.tk om) w;rw[Qxw hn h0 hk ok.tk ok.hk m G,sbind,sbind];have M:=Q8m (k:=22*k) (t:=p.Tape) (p:=⟨toF (fv t+fv h*fv c),toR (fromQ (fv h) (rv y) (rv a) kss),p.P⟩) (bits:=p.Aw) hn om om ⟨ok.tp.r,ok.tp.h,λx R=>Vm (ok.tp.w x R) om⟩ (Js om) (X8 F) (W3 ok.pk om) (by simp only[Kr,q];exact C) ok.pl;rw[M,sbind];simp only[];rw[Jf,Zo];have v:limQ p.Aw=min (max p.Aw 0) 4096:=rfl;rw[v];cases I:fieldQ p.Tape (min (max p.Aw 0) 4096) (fv t+fv h*fv c) (fromQ (fv h) (rv y) (rv a) kss) (rv p.P) with
   | inl e=>
     have P:=Qxv I;simp only[];rw[Yx om,ov,bifT];exact⟨_,rfl,rfl,by show e.1≠0;omega⟩
   | inr l=>
     obtain⟨q1,T⟩:=Q2l om I;simp only[];rw[Wf,ot,bifF,Vt oh oh,sbind,Vt (by rw[Qf5];simp;omega) (by rw[Qf5];simp;omega),sbind];refine⟨_,rfl,?_,T,om⟩;unfold toRR;rw[yf];rfl
end
section
variable {n k:Nat}{p:Qn}{t h:Qc}{y:List Qc}
def pairQ(s:Q2):List (List Rat×Rat):=List.zip (s.A.map rv) (rv s.C)
theorem Q9t{s:Q2}{i:Nat}{a:List Qc}{c:Qc}(e:s.A[i]?=some a)(f:s.C[i]?=some c):(pairQ s).drop i=(rv a,fv c)::(pairQ s).drop (i+1):=by
 have d:(pairQ s)[i]?=some (rv a,fv c):=by unfold pairQ rv;rw[jg];simp only[yr];exact⟨by rw[e];rfl,by rw[f];rfl⟩
 have hi:=K1 d;rw[xi hi];congr 1;rw[oq hi] at d;exact Option.some.inj d
theorem Jjc{g:Ql}(hn:big<=n)(h0:129<=k)(hk:k<8000)(ok:PrbOK n k p t h y)(O:g.limit=limQ p.Aw):
 ∃ r,Qft n p t h y g [] [] [] []=some r /\
   match doQ p.Tape p.Ap (limQ p.Aw) (fv t) (fv h) (rv y) (rv p.P) with
   | .inl f=>r.1=f/\f.Ay≠0
   | .inr z=>∃ x,r=(⟨0,0,0,0⟩,p,t,h,y,toR z.next,toR z.err,x,toRR z.ys,toRR z.ks)/\z.ys.length=p.Ap.B.length/\z.ks.length=p.Ap.B.length:=by
 obtain⟨⟨d1,d2⟩,⟨d3,d4⟩,d5,d6⟩:=ok.tp.r.1;obtain⟨⟨g1,g2⟩,g3,g4,J,g6⟩:=ok.sr.2.1;have hyl:=ok.yl;unfold Qft
 have key:∀(E:List Qc) (i:Nat) (g:Ql) (yss kss:List (List Rat)) (K:(Qn×Qc×Qc×(List Qc)×Ql×(List (List Qc))×(List (List Qc))×(List Qc)×(List Qc))->Option (Qe×Qn×Qc×Qc×(List Qc)×(List Qc)×(List Qc)×Ql×(List (List Qc))×(List (List Qc)))),
  i+E.length=p.Ap.B.length->yss.length=i->kss.length=i->(∀ a∈kss,QR 129 a)->(∀ a∈kss,a.length=y.length)->g.limit=limQ p.Aw ->
  match stagesQ p.Tape (limQ p.Aw) (fv t) (fv h) (rv y) (rv p.P) ((pairQ p.Ap).drop i) i yss kss with
  | .inl f=>∃ r,(rangeL (λ(A:Nat) (_:Qc) (l:Qn×Qc×Qc×(List Qc)×Ql×(List (List Qc))×(List (List Qc))×(List Qc)×(List Qc))=>
  (Qa3 n l.1 l.2.1 l.2.2.1 l.2.2.2.1 l.2.2.2.2.1 l.2.2.2.2.2.1 l.2.2.2.2.2.2.1 l.2.2.2.2.2.2.2.1 l.2.2.2.2.2.2.2.2 (A:Int)).bind λe=>
  bif !(Q7 e.1 (⟨0,0,0,0⟩:Qe)) then (
   some (Lp.out ((e.1,e.2.1,e.2.2.1,e.2.2.2.1,e.2.2.2.2.1,e.2.2.2.2.2.1,e.2.2.2.2.2.2.1,e.2.2.2.2.2.2.2.1,e.2.2.2.2.2.2.2.2.1,e.2.2.2.2.2.2.2.2.2))))
  else (
   some (Lp.go (e.2.1,e.2.2.1,e.2.2.2.1,e.2.2.2.2.1,e.2.2.2.2.2.2.2.1,e.2.2.2.2.2.2.2.2.1,e.2.2.2.2.2.2.2.2.2,e.2.2.2.2.2.1,e.2.2.2.2.2.2.1)))) E i (p,t,h,y,g,toRR yss,toRR kss,[],[])).bind (lpK K)=some r/\r.1=f/\f.Ay≠0
   | .inr z=>∃ x,x.limit=limQ p.Aw/\(rangeL (λ(A:Nat) (_:Qc) (l:Qn×Qc×Qc×(List Qc)×Ql×(List (List Qc))×(List (List Qc))×(List Qc)×(List Qc))=>
  (Qa3 n l.1 l.2.1 l.2.2.1 l.2.2.2.1 l.2.2.2.2.1 l.2.2.2.2.2.1 l.2.2.2.2.2.2.1 l.2.2.2.2.2.2.2.1 l.2.2.2.2.2.2.2.2 (A:Int)).bind λe=>
  bif !(Q7 e.1 (⟨0,0,0,0⟩:Qe)) then (
   some (Lp.out ((e.1,e.2.1,e.2.2.1,e.2.2.2.1,e.2.2.2.2.1,e.2.2.2.2.2.1,e.2.2.2.2.2.2.1,e.2.2.2.2.2.2.2.1,e.2.2.2.2.2.2.2.2.1,e.2.2.2.2.2.2.2.2.2))))
  else (
   some (Lp.go (e.2.1,e.2.2.1,e.2.2.2.1,e.2.2.2.2.1,e.2.2.2.2.2.2.2.1,e.2.2.2.2.2.2.2.2.1,e.2.2.2.2.2.2.2.2.2,e.2.2.2.2.2.1,e.2.2.2.2.2.2.1)))) E i (p,t,h,y,g,toRR yss,toRR kss,[],[])).bind (lpK K)=K (p,t,h,y,x,toRR z.1,toRR z.2,[],[])/\z.1.length=p.Ap.B.length/\z.2.length=p.Ap.B.length/\(∀ a∈z.2,QR 129 a)/\∀ a∈z.2,a.length=y.length:=by
  intro E
  induction E with
  | nil=>
    intro i g yss kss K hi hy1 Q hq Z O;have u:(pairQ p.Ap).drop i=[]:=by apply jm;unfold pairQ;simp only[yh,xq] at hi;rw[wo,J5,ou];omega
    rw[u];simp only[stagesQ];simp only[yh,xq] at hi;exact⟨g,O,rfl,om,om,hq,Z⟩
  | cons b E ih=>
    intro i g yss kss K hi hy1 Q hq Z O;rw[xm] at hi;have m:p.Ap.A[i]?=some (p.Ap.A[i]' om):=oq om;have hc:p.Ap.C[i]?=some (p.Ap.C[i]' om):=oq om;rw[Q9t m hc];generalize p.Ap.A[i]' om=a at m;generalize p.Ap.C[i]' om=c at hc;simp only[stagesQ,rangeL];obtain⟨x,e1,r,e2,I⟩:=Jgf (g:=g) (ys:=toRR yss) (nx:=[]) (er:=[]) hn h0 om ok O m hc (by rw[Qf5];omega) hq Q Z;rw[e2,sbind];cases R:stageQ p.Tape (limQ p.Aw) (fv t) (fv h) (rv y) (rv p.P) (rv a) (fv c) i kss with
    | inl f=>
      rw[R] at I;obtain⟨F,X⟩:=I;obtain⟨⟨f1,f2,f3,f4⟩,r⟩:=r;simp only[] at F;subst F;simp only[];rw[Yx X,ov,bifT,sbind];exact⟨_,rfl,rfl,X⟩
    | inr z=>
      rw[R] at I;obtain⟨F,X,e6⟩:=I;subst F;simp only[];rw[Wf,ot,bifF,sbind]
      have:=ih (i+1) x (yss++[z.1]) (kss++[z.2]) K om oh oh (λa m=>by
       rcases ym.1 m with m | m
       . exact hq a m
       . rw[xx.1 m];exact X) (λa m=>by
       rcases ym.1 m with m | m
       . exact Z a m
       . rw[xx.1 m];exact e6) om
      have e7:toRR yss++[toR z.1]=toRR (yss++[z.1]):=by unfold toRR;rw[yf];rfl
      rw[e7];exact this
 generalize hK:(λ(d:Qn×Qc×Qc×(List Qc)×Ql×(List (List Qc))×(List (List Qc))×(List Qc)×(List Qc))=>
  (Qbq n d.1 d.2.1 d.2.2.1 d.2.2.2.1 d.2.2.2.2.1 d.2.2.2.2.2.1 d.2.2.2.2.2.2.1 d.2.2.2.2.2.2.2.1 d.2.2.2.2.2.2.2.2 p.Ap.B).bind λq=>
 (Y1 n d.1 d.2.1 d.2.2.1 d.2.2.2.1 d.2.2.2.2.1 d.2.2.2.2.2.1 d.2.2.2.2.2.2.1 q d.2.2.2.2.2.2.2.2 q (p.Ap.B.length:Int)).bind λw=>
 bif !(Q7 w.1 (⟨0,0,0,0⟩:Qe)) then (
  some (w.1,d.1,d.2.1,d.2.2.1,d.2.2.2.1,q,d.2.2.2.2.2.2.2.2,w.2,d.2.2.2.2.2.1,d.2.2.2.2.2.2.1))
 else (
  jn (λ(S:((List Qc))->Option _)=>
   (Qgi n p.Ap).bind λV=>
   bif decide ((0:Int)<(V.length:Int)) then (
    (Yf n d.1 d.2.1 d.2.2.1 d.2.2.2.1 w.2 d.2.2.2.2.2.1 d.2.2.2.2.2.2.1 q d.2.2.2.2.2.2.2.2 V).bind λB=>
    S B)
   else (
    S d.2.2.2.2.2.2.2.2)) (λ(C:(List Qc))=>
   (Y1 n d.1 d.2.1 d.2.2.1 d.2.2.2.1 w.2 d.2.2.2.2.2.1 d.2.2.2.2.2.2.1 q C C (wrap64 ((p.Ap.B.length:Int)+(1:Int)))).bind λW=>
   some (W.1,d.1,d.2.1,d.2.2.1,d.2.2.2.1,q,C,W.2,d.2.2.2.2.2.1,d.2.2.2.2.2.2.1))))=K
 have G:=key p.Ap.B 0 g [] [] K om rfl rfl (λ_ h=>by cases h) (λ_ h=>by cases h) O;unfold doQ;rw[gy] at G;unfold pairQ at G;cases R:stagesQ p.Tape (limQ p.Aw) (fv t) (fv h) (rv y) (rv p.P) (List.zip (p.Ap.A.map rv) (rv p.Ap.C)) 0 [] [] with
 | inl f=>
   rw[R] at G;exact G
 | inr z=>
   rw[R] at G;obtain⟨x,q1,q2,q3,q4,T,U⟩:=G;obtain⟨yss,kss⟩:=z;simp only[] at q2 q3 q4 T U |-;have e0:toRR []=[]:=rfl;rw[e0] at q2;rw[q2,<-hK];simp only[];have hbB:=Qns (QR_rv ok.yk om) (qw_fv ok.hk om) (QR_rv ok.sw.b om) T om h0;have hlB:=Qha (H:=fv h) (Y:=rv y) (c:=rv p.Ap.B) (kss:=kss) (by rw[J5];exact U);rw[J5] at hlB;have P:=Q6v (k:=k) (s:=p.Ap) om ok.sw;rw[Q9s hn h0 om ok.hk ok.yk ok.sw.b T om om U om,sbind];obtain⟨v,e1,e2⟩:=Q2m (p:=p) (t:=t) (h:=h) (y:=y) (g:=x) (ys:=toRR yss) (ks:=toRR kss) (nx:=toR (fromQ (fv h) (rv y) (rv p.Ap.B) kss)) (er:=[]) (x2:=(p.Ap.B.length:Int)) hn (Jx hbB (show 22*k<=1099511627775 by omega)) om;rw[e2,sbind,q1];unfold endQ;cases hf:fitQ (limQ p.Aw) (fromQ (fv h) (rv y) (rv p.Ap.B) kss) 0 with
   | some j=>
     simp only[];rw[Yx oz,ov,bifT];exact⟨_,rfl,rfl,oz⟩
   | none=>
     simp only[];rw[Wf,ot,bifF,jn_eq,Qwn hn om om ok.sw ok.sr,sbind,Kr];have hE:((Yf n p t h y v (toRR yss) (toRR kss) (toR (fromQ (fv h) (rv y) (rv p.Ap.B) kss)) [] (toR (gapQ p.Ap)))=some (toR (towQ (fv h) y.length (gapQ p.Ap) kss))\/gapQ p.Ap=[])/\QR (41*k+1000) (if gapQ p.Ap=[] then [] else towQ (fv h) y.length (gapQ p.Ap) kss)/\(if gapQ p.Ap=[] then [] else towQ (fv h) y.length (gapQ p.Ap) kss).length<=1000:=by
      by_cases u:gapQ p.Ap=[]
      . rw[oo u];exact⟨.inr u,λ_ h=>(by cases h),oc⟩
      . have N:p.Ap.E.length=p.Ap.B.length:=by
         rcases J with J | J
         . exact J
         . exact absurd (by unfold gapQ;rw[oo (ow J)]) u
        have hgl:(gapQ p.Ap).length=p.Ap.B.length:=by unfold gapQ;rw[ol (λh=>by rw[h] at N;simp at N;omega),Qf4,Qcd,J5,J5];omega
        rw[ol u];have ht:=Q4j (k:=2*k+2) (p:=p) (t:=t) (h:=h) (y:=y) (g:=v) (ys:=toRR yss) (nx:=toR (fromQ (fv h) (rv y) (rv p.Ap.B) kss)) (er:=[]) (c:=toR (gapQ p.Ap)) (kss:=kss) hn om om (Vm ok.hk om) (X8 P) T om (by rw[Kr];omega) U om;rw[Zo] at ht;refine⟨.inl ht,Jx (Qsg (k:=2*k+2) (xe (qw_fv ok.hk om) om) P T om om) om,?_⟩;rw[Qmv U];omega
     obtain⟨hE1,L,M⟩:=hE;have hj:∀ {β:Type}(f:List Qc->Option β),(bif decide ((0:Int)<((gapQ p.Ap).length:Int)) then (Yf n p t h y v (toRR yss) (toRR kss) (toR (fromQ (fv h) (rv y) (rv p.Ap.B) kss)) [] (toR (gapQ p.Ap))).bind λB=>f B else f [])=f (toR (if gapQ p.Ap=[] then [] else towQ (fv h) y.length (gapQ p.Ap) kss)):=by
      intro β f;by_cases u:gapQ p.Ap=[]
      . rw[oo u,u];rfl
      . have:(gapQ p.Ap).length≠0:=λh=>u (ow h)
        rw[ol u,oi om,bifT,hE1.resolve_right u,sbind]
     rw[hj,w1 om,J5];generalize (if gapQ p.Ap=[] then [] else towQ (fv h) y.length (gapQ p.Ap) kss)=er at L M |-;obtain⟨g3',I,F⟩:=Q2m (p:=p) (t:=t) (h:=h) (y:=y) (g:=v) (ys:=toRR yss) (ks:=toRR kss) (nx:=toR (fromQ (fv h) (rv y) (rv p.Ap.B) kss)) (er:=toR er) (x2:=((p.Ap.B.length+1:Nat):Int)) hn (Jx L (show 41*k+1000<=1099511627775 by omega)) M;rw[F,sbind,show v.limit=limQ p.Aw by omega];cases hf2:fitQ (limQ p.Aw) er 0 with
     | some j=>exact⟨_,rfl,rfl,by show(6:Int)≠0;decide⟩
     | none=>exact⟨_,rfl,g3',rfl,q3,q4⟩
theorem Q6w(hn:big<=n)(d:1<=k)(hk:k<1048576)(f:TW p.Tape)(hd:-9223372036854775808<=p.Tape.A3/\p.Tape.A3<=9223372036854775807)(e:SchW k p.Ap):
 Qe4 n p=some (dP (tapeR p.Tape/\schR p.Ap/\(p.P.length:Int)=p.Tape.A9)):=by
 unfold Qe4;simp only[jn_eq];rw[Qwk hn f hd,sbind,bifP];by_cases c1:tapeR p.Tape;rw[oo c1,Qtv hn d hk e,sbind,bifP];by_cases a:schR p.Ap;rw[oo a];exact Qei ⟨λh=>⟨c1,a,h⟩,λh=>h.2.2⟩;rw[ol a,dP_f λh=>a h.2.1];rw[ol c1,dP_f λh=>c1 h.1]
end
def tI(x:Jv):Qz:=⟨x.Op,x.A,x.B,⟨⟨x.N.Neg,x.N.N⟩,x.N.D⟩⟩
theorem Qfi(f:Qa)(k:Nat):J2 f (k:Int)=some (!decide (f.N.length<=k/\f.D.length<=k)):=by unfold J2;simp only[jn_eq,bifd];by_cases h:(k:Int)<(f.N.length:Int);rw[oo h,oj om];rfl;rw[ol h];by_cases g:(k:Int)<(f.D.length:Int);rw[oi g,oj om];rfl;rw[oj g,oi om];rfl
theorem Q6x{n:Nat}{t:Q4}{many k:Nat}(hn:big<=n)(j:many<=1000000):∃ v,Qdv n t (many:Int) (k:Int)=some v/\(v=false->t.Code.length<=many/\t.Av.length<=many/\∀ c∈t.Code,c.N.N.length<=k/\c.N.D.length<=k):=by unfold Qdv;rw[Qkg (λi=>∀ c,t.Code[i]?=some c->c.N.N.length<=k/\c.N.D.length<=k) (min t.Code.length many) (r:=true)];by_cases h:∀ i,i<min t.Code.length many->∀ c,t.Code[i]?=some c->c.N.N.length<=k/\c.N.D.length<=k;rw[oo h];simp only[jn_eq,bifd];by_cases a:(many:Int)<(t.Code.length:Int);rw[oo a];exact⟨true,rfl,λh=>by cases h⟩;rw[ol a];refine⟨_,rfl,λf=>⟨om,by have:=jq f;omega,λc e=>?_⟩⟩;obtain⟨i,hi⟩:=vf e;exact h i (by have:=K1 hi;omega) c hi;rw[ol h];exact⟨true,rfl,λh=>by cases h⟩;intro i hi;have hp:t.Code[i]?=some t.Code[i]:=oq om;generalize t.Code[i]=c at hp;simp only[jn_eq,bifd];rw[oo om,oo om,Je hp,sbind,Qfi,sbind];by_cases h:c.N.N.length<=k/\c.N.D.length<=k;rw[oi h,ot,bifF,w1 om];exact⟨λ_=>rfl,λg=>absurd (λd hd=>by rw[hp] at hd;cases hd;exact h) g⟩;rw[oj h,ov,bifT];exact⟨λg=>absurd (g c hp) h,λ_=>rfl⟩;simp only[jn_eq,bifd];by_cases h:min t.Code.length many<t.Code.length;rw[oo om,ol om];rw[ol om,bifF];unfold big at hn;omega
theorem Jax{n:Nat}{t:Q4}(hn:big<=n)(a:t.Code.length<=1000000)(d:t.Av.length<=1000000):Qe6 n t=some ⟨t.Code.map tI,t.Av,t.A3,t.A9⟩:=by unfold Qe6;rw[Vt oh oh,sbind];rw[W1 (λi=>((t.Code.take i).map tI,(i:Int))) t.Code.length (t.Code.map tI)];rfl;intro i hi;have hp:t.Code[i]?=some t.Code[i]:=oq hi;generalize t.Code[i]=p at hp;simp only[bifd,Kb,sbind];rw[oo om,Je hp,sbind,Vt oh oh,sbind,w1 om,Qg8 tI hp];rfl;simp only[bifd];rw[ol om,xu];unfold big at hn;omega;rfl
def tF(x:Qa):Qc:=⟨⟨x.Neg,x.N⟩,x.D⟩
theorem Qa2{n:Nat}{l:List Qa}(hn:big<=n)(a:l.length<=1000000):Vu n l=some (l.map tF):=by unfold Vu;rw[W1 (λi=>((l.take i).map tF,(i:Int))) l.length (l.map tF)];intro i hi;have hp:l[i]?=some l[i]:=oq hi;generalize l[i]=p at hp;simp only[bifd,Kb,sbind];rw[oo om,Je hp,sbind,Vt oh oh,sbind,w1 om,Qg8 tF hp];rfl;simp only[bifd];rw[ol om,xu];unfold big at hn;omega;rfl
theorem Jay{n:Nat}{l:List (List Qa)}(hn:big<=n)(d:l.length<=1000000)(a:∀ r∈l,r.length<=1000000):Qe5 n l=some (l.map (·.map tF)):=by unfold Qe5;rw[W1 (λi=>((l.take i).map (·.map tF),(i:Int))) l.length (l.map (·.map tF))];intro i hi;have hp:l[i]?=some l[i]:=oq hi;generalize l[i]=p at hp;simp only[bifd];rw[oo om,Je hp,sbind,Qa2 hn (a p (Jr hp)),sbind,Vt oh oh,sbind,w1 om,Qg8 (·.map tF) hp];simp only[bifd];rw[ol om,xu];unfold big at hn;omega;rfl
def FL(many k:Nat)(l:List Qa):Prop:=l.length<=many/\∀ x∈l,x.N.length<=k/\x.D.length<=k
theorem Yb{n:Nat}{l:List Qa}{many k:Nat}(hn:big<=n)(f:many<=1000000):∃ v,Q9 n l (many:Int) (k:Int)=some v/\(v=false->FL many k l):=by unfold Q9;rw[Qkg (λi=>∀ c,l[i]?=some c->c.N.length<=k/\c.D.length<=k) (min l.length many) (r:=true)];by_cases h:∀ i,i<min l.length many->∀ c,l[i]?=some c->c.N.length<=k/\c.D.length<=k;rw[oo h];refine⟨_,rfl,λa=>⟨by have:=jq a;omega,λc e=>?_⟩⟩;have:=jq a;obtain⟨i,hi⟩:=vf e;exact h i (by have:=K1 hi;omega) c hi;rw[ol h];exact⟨true,rfl,λh=>by cases h⟩;intro i hi;have hp:l[i]?=some l[i]:=oq om;generalize l[i]=c at hp;simp only[jn_eq,bifd];rw[oo om,oo om,Je hp,sbind,Qfi,sbind];by_cases h:c.N.length<=k/\c.D.length<=k;rw[oi h,ot,bifF,w1 om];exact⟨λ_=>rfl,λg=>absurd (λd hd=>by rw[hp] at hd;cases hd;exact h) g⟩;rw[oj h,ov,bifT];exact⟨λg=>absurd (g c hp) h,λ_=>rfl⟩;simp only[jn_eq,bifd];by_cases h:min l.length many<l.length;rw[oo om,ol om];rw[ol om,bifF];unfold big at hn;omega
theorem Q6y{n:Nat}{s:Jo}{many k:Nat}(hn:big<=n)(j:many<=1000000):∃ v,Qdw n s (many:Int) (k:Int)=some v /\
 (v=false->s.Bh.length<=50/\s.A.length<=many/\FL many k s.B/\FL many k s.C/\FL many k s.E/\∀ r∈s.A,FL many k r):=by
 unfold Qdw;simp only[jn_eq,bifd];by_cases w:(50:Int)<(s.Bh.length:Int)
 . rw[oo w];exact⟨true,rfl,λh=>by cases h⟩
 rw[ol w];by_cases x:(many:Int)<(s.A.length:Int)
 . rw[oo x];exact⟨true,rfl,λh=>by cases h⟩
 rw[ol x];obtain⟨b,B,C⟩:=Yb (l:=s.B) (k:=k) hn j;rw[B,sbind];cases b
 case true=>exact⟨true,rfl,λh=>by cases h⟩
 rw[bifF];obtain⟨c,E,F⟩:=Yb (l:=s.C) (k:=k) hn j;rw[E,sbind];cases c
 case true=>exact⟨true,rfl,λh=>by cases h⟩
 rw[bifF];obtain⟨e,G,H⟩:=Yb (l:=s.E) (k:=k) hn j;rw[G,sbind];cases e
 case true=>exact⟨true,rfl,λh=>by cases h⟩
 rw[bifF];have A:∀ r,∃ v,Q9 n r (many:Int) (k:Int)=some v/\(v=false->FL many k r):=λr=>Yb hn j
 have I:=Qkg (f:=λ(a:Int)=>
  if a<(s.A.length:Int) then (
   (getI s.A a).bind λq=>
   (Q9 n q (many:Int) (k:Int)).bind λm=>
   bif m then (
    some (Lp.out (Lp.out (true))))
   else (
    some (Lp.go (wrap64 (a+(1:Int))))))
  else (
   some (Lp.out (Lp.go ())))) (n:=n) (K:=λ(_:Unit)=>some false) (r:=true) (λi=>∀ r,s.A[i]?=some r->Q9 n r (many:Int) (k:Int)=some false) s.A.length (λi hi=>by
  have hp:s.A[i]?=some s.A[i]:=oq hi;generalize s.A[i]=r at hp;obtain⟨v,g1,u⟩:=A r;rw[oo om,Je hp,sbind,g1,sbind];cases v
  . rw[bifF,w1 om]
    exact⟨λ_=>rfl,λg=>absurd (λd hd=>by rw[hp] at hd;cases hd;exact g1) g⟩
  . rw[bifT]
    exact⟨λg=>(by have:=g r hp;rw[g1] at this;cases this),λ_=>rfl⟩) (by rw[ol om]) (by unfold big at hn;omega)
 rw[I];by_cases h:∀ i,i<s.A.length->∀ r,s.A[i]?=some r->Q9 n r (many:Int) (k:Int)=some false
 . rw[oo h]
   refine⟨false,rfl,λ_=>⟨om,om,C rfl,F rfl,H rfl,λr hr=>?_⟩⟩;obtain⟨i,hi⟩:=vf hr;obtain⟨v,g1,u⟩:=A r;have:=h i (K1 hi) r hi;rw[g1] at this;exact u (Option.some.inj this)
 . rw[ol h];exact⟨true,rfl,λh=>by cases h⟩
theorem Qrp{n:Nat}{p:Qq}{a b k:Nat}(hn:big<=n)(q:a<=1000000)(w:b<=1000000):∃ v,Qal n p (a:Int) (b:Int) (k:Int)=some v /\
 (v=false->(p.Tape.Code.length<=a/\p.Tape.Av.length<=a/\∀ c∈p.Tape.Code,c.N.N.length<=k/\c.N.D.length<=k)/\(p.Ap.Bh.length<=50/\p.Ap.A.length<=b/\FL b 4 p.Ap.B/\FL b 4 p.Ap.C/\FL b 4 p.Ap.E/\∀ r∈p.Ap.A,FL b 4 r)/\FL 6 k p.P):=by
 unfold Qal;simp only[jn_eq];obtain⟨u,f,i⟩:=Q6x (t:=p.Tape) (k:=k) hn q;rw[f,sbind];cases u
 case true=>exact⟨true,rfl,λh=>by cases h⟩
 rw[bifF];obtain⟨u,d,j⟩:=Q6y (s:=p.Ap) (k:=4) hn w;rw[show((4:Nat):Int)=4 from rfl] at d;rw[d,sbind];cases u
 case true=>exact⟨true,rfl,λh=>by cases h⟩
 rw[bifF];obtain⟨u,e,m⟩:=Yb (l:=p.P) (many:=6) (k:=k) hn oz;rw[show((6:Nat):Int)=6 from rfl] at e;rw[e,sbind];exact⟨u,rfl,λh=>⟨i rfl,j rfl,m h⟩⟩
def tS(s:Jo):Q2:=⟨s.Bh,s.C.map tF,s.A.map (·.map tF),s.B.map tF,s.E.map tF⟩
def tT(t:Q4):Qr:=⟨t.Code.map tI,t.Av,t.A3,t.A9⟩
def tP(p:Qq):Qn:=⟨tT p.Tape,tS p.Ap,p.P.map tF,p.Aw⟩
theorem Qts{n:Nat}{p:Qq}(hn:big<=n)(a:p.Tape.Code.length<=1000000)(d:p.Tape.Av.length<=1000000)(e:p.Ap.A.length<=1000000)(f:p.Ap.B.length<=1000000)(i:p.Ap.C.length<=1000000)(j:p.Ap.E.length<=1000000)
 (l:∀ r∈p.Ap.A,r.length<=1000000) (m:p.P.length<=1000000):Qbr n p=some (tP p):=by
 unfold Qbr Qhj;rw[Jax hn a d,sbind,Qa2 hn i,sbind,Jay hn e l,sbind,Qa2 hn f,sbind,Qa2 hn j,sbind,sbind,Qa2 hn m,sbind];rfl
structure PrbW(k:Nat)(p:Qn):Prop where
 t:∀ c∈p.Tape.Code,Fk k c.N
 d:-9223372036854775808<=p.Tape.A3/\p.Tape.A3<=9223372036854775807
 s:SchW k p.Ap
 p:FR k p.P
def prbR(p:Qn):Prop:=tapeR p.Tape/\schR p.Ap/\(p.P.length:Int)=p.Tape.A9
theorem PrbW.tw{k:Nat}{p:Qn}(h:PrbW k p)(hk:k<1048576):TW p.Tape:=λc a=>Fk_Fw (h.t c a) om
theorem Q0c{n k:Nat}{p:Qn}(hn:big<=n)(h0:129<=k)(hk:k<8000)(a:PrbW k p):Qe4 n p=some (dP (prbR p)):=
 Q6w hn om om (a.tw om) a.d a.s
theorem PrbW.ok{n k:Nat}{p:Qn}{t h:Qc}{y:List Qc}(a:PrbW k p)(hn:big<=n)(hk:k<8000)(hr:prbR p)(f:Fk k t)(d:Fk k h)(i:FR k y)(e:(y.length:Int)=p.Tape.A3):PrbOK n k p t h y:=
 ⟨⟨hr.1,by rw[Qwk hn (a.tw om) a.d,dP_t hr.1],a.t⟩,a.s,hr.2.1,a.p,hr.2.2,f,d,i,e⟩
def toM(z:MadeQ):Ju:=⟨toRR z.ys,toRR z.ks,toR z.next,toR z.err⟩
def noM:Ju:=⟨[],[],[],[]⟩
noncomputable def stepQ(p:Qn)(T H:Rat)(Y:List Rat):Qe ⊕ MadeQ:=
 @ite _ (prbR p/\(Y.length:Int)=p.Tape.A3) (Classical.propDecidable _) (doQ p.Tape p.Ap (limQ p.Aw) T H Y (rv p.P)) (.inl ⟨2,0,0,0⟩)
theorem Qrq{n k:Nat}{p:Qn}{t h:Qc}{y:List Qc}(hn:big<=n)(h0:129<=k)(hk:k<8000)(l:PrbW k p)(s:Fk k t)(q:Fk k h)(u:FR k y):
 Qgj n p t h y=some (match stepQ p (fv t) (fv h) (rv y) with | .inl f=>(noM,f) | .inr z=>(toM z,⟨0,0,0,0⟩))/\∀ f,stepQ p (fv t) (fv h) (rv y)=.inl f->f.Ay≠0:=by
 unfold Qgj stepQ;simp only[jn_eq];rw[Q0c hn h0 hk l,sbind,bifnP,J5];by_cases hr:prbR p
 case neg=>rw[ol hr,ol (λh=>hr h.1),bifT];exact⟨rfl,λf h=>by cases h;decide⟩
 rw[oo hr];by_cases a:(y.length:Int)=p.Tape.A3
 case neg=>rw[oj a,ol (λh=>a h.2),ov,bifT];exact⟨rfl,λf h=>by cases h;decide⟩
 rw[oi a,oo ⟨hr,a⟩,ot,bifF];have ok:=l.ok hn hk hr s q u a;unfold Z1;rw[sbind];obtain⟨r,m,d⟩:=Jjc (g:=⟨⟨0,0⟩,min (max p.Aw 0) 4096⟩) hn h0 hk ok rfl;rw[m,sbind];cases hd:doQ p.Tape p.Ap (limQ p.Aw) (fv t) (fv h) (rv y) (rv p.P) with
 | inl f=>
   rw[hd] at d;obtain⟨e,j⟩:=d;refine⟨?_,λg i=>by cases i;exact j⟩;rw[e];obtain⟨v,w,f3,f4⟩:=f;rw[Yx j,ov,bifT];rfl
 | inr z=>
   rw[hd] at d;obtain⟨x,e,_⟩:=d;subst e;simp only[];rw[Wf,ot,bifF];exact⟨rfl,λg i=>by cases i⟩
theorem Qs2{t:Qr}{lim:Int}{T H:Rat}{Y P:List Rat}{m:Nat}(l:lim<=4096)(A:t.Av.length=m)(u:Y.length=m):∀ {r:List (List Rat×Rat)}{i:Nat}{yss kss:List (List Rat)}{z},(∀ a∈kss,a.length=m)->(∀ a∈yss,a.length=m)->stagesQ t lim T H Y P r i yss kss=.inr z ->
 (∀ a∈z.2,a.length=m)/\(∀ a∈z.1,a.length=m)/\(∃ e,z.1=yss++e)/\∃ e,z.2=kss++e
 | [],i,yss,kss,z,q,s,h=>by simp only[stagesQ] at h;cases h;exact⟨q,s,⟨[],oc⟩,[],oc⟩
 | x::r,i,yss,kss,z,q,s,h=>by
   simp only[stagesQ] at h;cases j:stageQ t lim T H Y P x.1 x.2 i kss with
   | inl f=>rw[j] at h;cases h
   | inr w=>
     rw[j] at h;have B:w.2.length=m/\w.1.length=m:=by
      unfold stageQ at j;split at j;cases j;cases v:fieldQ t lim (T+H*x.2) (fromQ H Y x.1 kss) P with
      | inl e=>rw[v] at j;cases j
      | inr k=>
        rw[v] at j;cases j;exact⟨by rw[(Q2l l v).1,A],by show(fromQ H Y x.1 kss).length=m;rw[Qha (by rw[u];exact q),u]⟩
     obtain⟨g1,E,⟨e,g3⟩,C,g4⟩:=Qs2 l A u (λa d=>by
      rcases ym.1 d with d | d;exact q a d;rw[xx.1 d];exact B.1) (λa d=>by
      rcases ym.1 d with d | d;exact s a d
      rw[xx.1 d];exact B.2) h
     exact⟨g1,E,⟨w.1::e,by rw[g3];simp⟩,w.2::C,by rw[g4];simp⟩
theorem Q9u{lim:Int}:∀ {l:List Rat}{i:Nat},fitQ lim l i=none->∀ q∈l,(qz q:Int)<=lim
 | [],_,_,q,a=>by cases a
 | x::l,i,h,q,a=>by simp only[fitQ] at h;split at h;rename_i d;rcases xg.1 a with rfl | a;exact d;exact Q9u h q a;cases h
theorem Qmw{lim:Int}{l:List Rat}(a:lim<=4096)(h:fitQ lim l 0=none):QR 129 l:=λq d=>by have e:=Q9u h q d;have f:=qw_qz (q:=q) (b:=4096) om;omega
theorem Qnt{p:Qn}{T H:Rat}{Y:List Rat}{z:MadeQ}(h:stepQ p T H Y=.inr z):prbR p/\(Y.length:Int)=p.Tape.A3/\QR 129 z.next/\z.next.length=Y.length/\QR 129 z.err:=by
 unfold stepQ at h;by_cases d:prbR p/\(Y.length:Int)=p.Tape.A3
 case neg=>rw[ol d] at h;cases h
 rw[oo d] at h;refine⟨d.1,d.2,?_⟩;have f:=d.1.1.1;unfold doQ at h;cases j:stagesQ p.Tape (limQ p.Aw) T H Y (rv p.P) (List.zip (p.Ap.A.map rv) (rv p.Ap.C)) 0 [] [] with
 | inl e=>rw[j] at h;cases h
 | inr w=>
   rw[j] at h;simp only[] at h;obtain⟨g1,q,g3,g4⟩:=Qs2 (m:=Y.length) (by unfold limQ;omega) (by have:=f.2.2.1;omega) rfl (λ_ h=>by cases h) (λ_ h=>by cases h) j;unfold endQ at h;have a:limQ p.Aw<=4096:=by unfold limQ;omega
   split at h
   . cases h
   . rename_i l
     split at h
     . cases h
     . rename_i i
       cases h;exact⟨Qmw a l,Qha g1,Qmw a i⟩
theorem Qy1{l:List Rat}:scaleQ 1 l=l:=by
 unfold scaleQ
 conv=>rhs;rw[<-List.map_id l]
 exact wj λq _=>by show 1*q=q;grind
theorem Qvd:qw 1=1:=by unfold qw;rw[show(1:Rat).num=1 from rfl,show(1:Rat).den=1 from rfl,show(1:Int).natAbs=1 from rfl,toL1];rfl
def padL(l:Nat)(a:List Nat):List Nat:=a++List.replicate (l - a.length) 0
theorem Jc0{l:Nat}{a:List Nat}(h:a.length<=l):(padL l a).length=l:=by unfold padL;simp;omega
theorem Jc1(l:Nat)(a:List Nat):val (padL l a)=val a:=by unfold padL;rw[Zs,Qkd];simp
theorem Jez{l:Nat}{a:List Nat}(h:Wd a):Wd (padL l a):=Vg.2 ⟨h,Qrm om⟩
theorem Jc2{l:Nat}{a:List Nat}{j:Nat}(h:j<(padL l a).length):(padL l a)[j]=a.getD j 0:=by unfold padL at h |-;by_cases d:j<a.length;rw[List.getElem_append_left d];simp[d];rw[List.getElem_append_right om,List.getElem_replicate];simp[xa (show a.length<=j by omega)]
theorem Qsh{n:Nat}{a b:List Nat}(hn:big<=n)(A:a.length<=4611686018427387904)(B:b.length<=4611686018427387904)(q:Wd a)(r:Wd b):Qa4 n a b=some (cmpI (val a) (val b)):=by
 unfold Qa4;obtain⟨l,C⟩:∃ l:Nat,l=max a.length b.length:=⟨_,rfl⟩
 have e:max (a.length:Int) (b.length:Int)=(l:Int):=om
 have la:=Jc0 (l:=l) (a:=a) om;have lb:=Jc0 (l:=l) (a:=b) om;have w:=Jez (l:=l) q;have x:=Jez (l:=l) r;have u:∀ j (h:j<(padL l a).length),(padL l a)[j]=a.getD j 0:=λj h=>Jc2 h;have v:∀ j (h:j<(padL l b).length),(padL l b)[j]=b.getD j 0:=λj h=>Jc2 h;rw[e,<-Jc1 l a,<-Jc1 l b];generalize padL l a=a' at *;generalize padL l b=b' at *;unfold big at hn;rw[w64 om om];refine Qcy (λs=>(s+1).toNat) (λs=>∃ k:Nat,s=(k:Int) - 1/\k<=l/\a'.drop k=b'.drop k) (λt=>(t=.go ()/\a'=b')\/(t=.out (-1)/\val a'<val b')\/(t=.out 1/\val b'<val a')) ⟨l,rfl,xn _,by rw[xf om,xf om]⟩ om ?_ ?_;rintro s ⟨k,rfl,hk,i⟩;simp only[bifd];by_cases h0:0<k;obtain⟨j,rfl⟩:∃ j,k=j+1:=⟨k - 1,om⟩
 have f:j<a'.length:=om
 have d:j<b'.length:=om
 rw[oo om,show((j+1:Nat):Int) - 1=(j:Nat) by omega,Qg6,sbind,Qg6,sbind,<-u j f,<-v j d];by_cases g1:a'[j]<b'[j];right;rw[oo g1];exact⟨_,rfl,.inr (.inl ⟨rfl,Q3d w f d i g1⟩)⟩;rw[ol g1];by_cases m:b'[j]<a'[j];right;rw[oo m];exact⟨_,rfl,.inr (.inr ⟨rfl,Q3d x d f i.symm m⟩)⟩;left;rw[ol m,w64 om om];refine⟨_,rfl,⟨j,rfl,om,?_⟩,om⟩;rw[xi f,xi d,i,show a'[j]=b'[j] by omega];right;obtain rfl:k=0:=om
 rw[ol om];exact⟨_,rfl,.inl ⟨rfl,by simpa using i⟩⟩;rintro t (⟨rfl,h⟩ | ⟨rfl,h⟩ | ⟨rfl,h⟩);rw[Xi,h];simp[cmpI];rw[Z0,cmpI,oo h];rw[Z0,cmpI,ol om,oo h]
theorem Jc3{x y c:Nat}(f:x<4294967296)(i:y<4294967296)(e:c<=1):∃ d a,d<4294967296/\a<=1/\d+y+c=x+4294967296*a /\
 ∀ {R:Type}(k:Nat×Nat->R),(if x<(y+c)%18446744073709551616 then k (1,(x+4294967296)%18446744073709551616) else k (0,x))=k (a,x+4294967296*a)/\(x+4294967296*a+18446744073709551616 - (y+c)%18446744073709551616)%18446744073709551616%4294967296=d:=by
 rw[xv (show y+c<18446744073709551616 by omega)];by_cases h:x<y+c;exact⟨x+4294967296 - (y+c),1,om,om,om,λk=>⟨by rw[oo h,xv om],om⟩⟩;exact⟨x - (y+c),0,om,om,om,λk=>⟨by rw[ol h];rfl,om⟩⟩
theorem Q9v{P s o d e:Nat}(h:o+e=d+P*s)(f:e<=d)(i:o<P):s=0:=by rcases dm s with a | a;exact a;exfalso;have:P*1<=P*s:=vc _ a;omega
theorem Qy2{n:Nat}{a b:List Nat}(hn:big<=n)(N:a.length<17592186044416)(O:b.length<17592186044416)(A:Wd a)(B:Wd b)(x:val b<=val a):Zu n a b=some (toL (val a - val b)):=by
 unfold Zu;unfold big at hn;obtain⟨l,P⟩:∃ l:Nat,l=max a.length b.length:=⟨_,rfl⟩
 have m:max (a.length:Int) (b.length:Int)=(l:Int):=om
 rw[m,Qgl om om,sbind]
 refine Qcy (λs=>l - s.2.2.toNat) (λs=>∃(k:Nat) (o:List Nat),s.2.2=k/\k<=l/\s.1=o++List.replicate (l - k) 0/\o.length=k/\Wd o/\s.2.1<=1/\val o+val (b.take k)=val (a.take k)+bp k*s.2.1)
  (λt=>t.length=l/\Wd t/\val t=val a - val b) ⟨0,[],rfl,om,oc,rfl,Xj,oc,by simp[val,Qau]⟩ (by simp only[];omega) ?_ ?_
 rintro⟨q,s,i⟩ ⟨k,o,v,C,u,e,w,E,f⟩;simp only at v u E f;subst v u;simp only[sbind,bifd,jn_eq];by_cases hk:k<l;left;have K:=Qn9 A k;have L:=Qn9 B k;obtain⟨d,M,g1,F,g3,g4⟩:=Jc3 K L E;rw[oo om,Qg6,sbind,Qg6,sbind];have G:=(g4 (λr:Nat×Nat=>(getI (o++List.replicate (l - k) 0) (k:Int)).bind λ_=>some (Lp.go (σ:=List Nat×Nat×Int) (τ:=List Nat) ((o++List.replicate (l - k) 0).set (Int.toNat (k:Int)) ((r.2+18446744073709551616 - (b.getD k 0+s)%18446744073709551616)%18446744073709551616%4294967296),r.1,wrap64 ((k:Int)+1))))).1;have H:=(g4 (λ_=>())).2;rw[G];simp only[];rw[H];obtain⟨j,J⟩:∃ j,l - k=j+1:=⟨l - k - 1,om⟩
 rw[J,vn,Xa e,sbind,Z8 e,w64 om om];refine⟨_,rfl,⟨k+1,o++[d],by simp only[];omega,om,?_,by simp[e],Vg.2 ⟨w,Vo.2 ⟨g1,Xj⟩⟩,F,?_⟩,by simp only[];omega⟩;simp only[];rw[show l - (k+1)=j by omega];simp;simp only[];rw[Zi,Zi,Wg,e,Wz];exact Q4x _ _ _ _ _ _ _ _ _ g3 f;right;obtain rfl:k=l:=om
 rw[ol om];refine⟨_,rfl,by simp[e],by simpa using w,?_⟩;rw[xc om,xc om] at f;have I:s=0:=Q9v f x (by rw[<-e];exact Z3 w);rw[I,vh,xq] at f;simp only[Nat.sub_self,List.replicate_zero,vj];omega;rintro t ⟨v,C,u⟩;rw[Zh (by unfold big;exact hn) om,sbind,<-Vp C,u]
theorem Qsi{k l:Nat}(h:k<l):grd (winS (k:Int) l)=some ():=grd_t (by unfold winS;simp;omega)
theorem Qwo{n:Nat}{p a q b:List Nat}(hn:big<=n)(O:p.length+a.length+q.length<17592186044416)(N:b.length<=a.length)(C:Wd a)(E:Wd b)(B:val b<=val a):
 ∃ r,Y6 n (p++a++q) p.length a.length b=some (p++r++q)/\r.length=a.length/\Wd r/\val r=val a - val b:=by
 have F:∃ r,Y6 n (p++a++q) p.length a.length b=some r/\∃ l,r=p++l++q/\l.length=a.length/\Wd l/\val l=val a - val b:=by
  unfold Y6;unfold big at hn
  refine Qjv (λs=>a.length - s.2.2.toNat) (λs=>∃(k:Nat) (o:List Nat),s.2.2=k/\k<=a.length/\s.1=p++o++(a.drop k++q)/\o.length=k/\Wd o/\s.2.1<=1/\val o+val (b.take k)=val (a.take k)+bp k*s.2.1)
   (λt=>∃ o,t=p++o++q/\o.length=a.length/\Wd o/\val o=val a - val b) ⟨0,[],rfl,om,oc,rfl,Xj,oc,by simp[val,Qau]⟩ (by simp only[];omega) ?_ ?_
  rintro⟨w,s,i⟩ ⟨k,o,e,x,f,j,m,G,u⟩;simp only at e f G u;subst e f;simp only[sbind,bifd,jn_eq];by_cases hk:k<a.length;left;have K:=Qcz C hk;have L:=Qn9 E k;obtain⟨d,M,g1,H,g3,g4⟩:=Jc3 K L G;rw[oo om,Qsi hk,sbind,show((p.length:Int)+(k:Int))=((p.length+k:Nat):Int) by omega,xi hk,yt,Xa oh,sbind,Qg6,sbind];have A:=(g4 (λv:Nat×Nat=>(getI (p++o++a[k]::(a.drop (k+1)++q)) ((p.length+k:Nat):Int)).bind λ_=>some (Lp.go (σ:=List Nat×Nat×Int) (τ:=List Nat) ((p++o++a[k]::(a.drop (k+1)++q)).set (Int.toNat ((p.length+k:Nat):Int)) ((v.2+18446744073709551616 - (b.getD k 0+s)%18446744073709551616)%18446744073709551616%4294967296),v.1,wrap64 ((k:Int)+1))))).1;have I:=(g4 (λ_=>())).2;rw[Xa oh] at A;simp only[sbind] at A |-;rw[A,I,Z8 oh,w64 om om];refine⟨_,rfl,⟨k+1,o++[d],by simp only[];omega,om,oc,by simp[j],Vg.2 ⟨m,Vo.2 ⟨g1,Xj⟩⟩,H,?_⟩,by simp only[];omega⟩;simp only[];rw[Zi,W0 hk,Wg,Wg,xk,yz om,j,Wz];exact Q4x _ _ _ _ _ _ _ _ _ g3 u;right;obtain rfl:k=a.length:=om
  rw[ol om];refine⟨_,rfl,o,oc,j,m,?_⟩;rw[xc om,xc om] at u;have J:s=0:=Q9v u B (by rw[<-j];exact Z3 m);rw[J,vh,xq] at u;omega;rintro t ⟨o,rfl,e,x,f⟩;exact⟨_,rfl,o,rfl,e,x,f⟩
 obtain⟨r,e,l,x,f,j,m⟩:=F;exact⟨l,by rw[e,x],f,j,m⟩
theorem Jjd(P y c a d V A m:Nat)(e:d+4294967296*a=2*y+c)(h:V+P*c=2*A+m):V+P*d+P*4294967296*a=2*(A+P*y)+m:=by grind
theorem Qtw{n:Nat}{a:List Nat}{b:Bool}(hn:big<=n)(C:a.length<17592186044416)(u:Wd a):
 ∃ r c,Zl n a b=some r/\r.length=a.length/\Wd r/\val r+bp a.length*c=2*val a+b.toNat:=by
 have v:∃ r,Zl n a b=some r/\∃ c,r.length=a.length/\Wd r/\val r+bp a.length*c=2*val a+b.toNat:=by
  unfold Zl;unfold big at hn;have e:∀ k:Nat->Option (List Nat),jn (λ(A:(Nat)->Option _)=>bif b then (A 1) else (A 0)) k=k b.toNat:=by intro k;cases b<;>rfl
  rw[e]
  refine Qjv (λs=>a.length - s.2.2.toNat) (λs=>∃(k:Nat) (o:List Nat),s.2.2=k/\k<=a.length/\s.1=o++a.drop k/\o.length=k/\Wd o/\s.2.1<=1/\val o+bp k*s.2.1=2*val (a.take k)+b.toNat)
   (λt=>∃ c,t.length=a.length/\Wd t/\val t+bp a.length*c=2*val a+b.toNat) ⟨0,[],rfl,om,oc,rfl,Xj,by simp only[];cases b<;>decide,by simp[val,Qau]⟩ (by simp only[];omega) ?_ ?_
  rintro⟨w,s,i⟩ ⟨k,o,d,j,l,m,x,B,q⟩;simp only at d l B q;subst d l;simp only[sbind,bifd];have f:(o++a.drop k).length=a.length:=oh
  by_cases hk:k<a.length;left;have E:=Qcz u hk;rw[oo (by rw[f];omega),xi hk,Xa m,sbind,sbind,sbind,Z8 m,w64 om om];refine⟨_,rfl,⟨k+1,o++[(a[k]*2%4294967296+s)%4294967296],by simp only[];omega,om,oc,by simp[m],Vg.2 ⟨x,Vo.2 ⟨om,Xj⟩⟩,by simp only[];omega,?_⟩,by simp only[];omega⟩;simp only[];rw[W0 hk,Wg,Wg,xk,yz om,m,Wz];exact Jjd _ _ _ _ _ _ _ _ om q;right;obtain rfl:k=a.length:=om
  rw[ol (by rw[f];omega)];rw[xc om] at q;exact⟨_,rfl,s,oh,by simpa using x,by simpa using q⟩;rintro t ⟨c,d,j,l⟩;exact⟨_,rfl,c,d,j,l⟩
 obtain⟨r,d,c,j⟩:=v;exact⟨r,c,d,j⟩
theorem Jje(w t r:Nat)(hr:r<32):(w+4294967296*t) / 2 ^ r%2=w / 2 ^ r%2:=by
 have e:(4294967296:Nat)=2 ^ r*(2*2 ^ (31 - r)):=by rw[<-um,vp (2 ^ r) 2,um,<-wc,show r+(31 - r)=31 by omega]
 rw[e,um,jf _ _ (ug r),um 2,Nat.add_mul_mod_self_left]
theorem Je0{a:List Nat}(d:Wd a)(q r:Nat)(hr:r<32):val a / 2 ^ (32*q+r)%2=a.getD q 0 / 2 ^ r%2:=by rw[wc,<-Qo9,<-wg,Qwf d];by_cases h:q<a.length;rw[xi h];simp only[val];rw[Jje _ _ _ hr];simp[h];rw[xf om];simp[val,xa (show a.length<=q by omega)]
theorem Q8n{n i:Nat}{a:List Nat}(hn:big<=n)(hi:i<4611686018427387904)(f:Wd a):Qel n a (i:Int)=some (decide (val a / 2 ^ i%2=1)):=by unfold Qel;have hd:Int.tdiv (i:Int) 32=((i / 32:Nat):Int):=rfl;have e:Int.tmod (i:Int) 32=((i%32:Nat):Int):=rfl;have d:=Je0 f (i / 32) (i%32) (ui _ oz);rw[show 32*(i / 32)+i%32=i by omega] at d;rw[hd,e,w64 om om,d];simp only[jn_eq,bifd];rw[ol om];by_cases h:i / 32<a.length;rw[ol om,Qcx h,sbind];rw[W1 (λk=>(a[i / 32] / 2 ^ k,(k:Int))) (i%32) (a[i / 32] / 2 ^ (i%32))];simp[h];intro k hk;simp only[];rw[oo om,wg,<-jr,w1 om];simp only[];rw[ol om];unfold big at hn;omega;simp;rw[oo om];simp[xa (show a.length<=i / 32 by omega)]
theorem Qsj{n:Nat}{a:List Nat}(hn:big<=n)(q:a.length<17592186044416)(f:Wd a):Qa5 n a=some (blen (val a):Int):=by
 unfold Qa5;rw[w64 om om];have h0:val a<2 ^ (32*a.length):=by rw[<-Qo9];exact Z3 f
 refine Qcy (λs=>s.toNat) (λs=>∃ k:Nat,s=k/\k<=32*a.length/\val a<2 ^ k) (λt=>t=(blen (val a):Int)) ⟨32*a.length,om,xn _,h0⟩ (by unfold big at hn;omega) ?_ ?_;rintro s ⟨k,rfl,hk,e⟩;simp only[jn_eq,bifd];by_cases h:0<k;obtain⟨j,rfl⟩:∃ j,k=j+1:=⟨k - 1,om⟩
 rw[oo om,w64 om om,show((j+1:Nat):Int) - 1=(j:Nat) by omega,Q8n hn om f,sbind];by_cases d:val a / 2 ^ j%2=1;right;rw[oi d,ot,bifF];refine⟨_,rfl,?_⟩;have i:2 ^ j<=val a:=by rcases xo (val a) (2 ^ j) with g | g;rw[gn g] at d;cases d;exact g
 rw[Q78 i e];left;rw[oj d,ov,bifT];refine⟨_,rfl,⟨j,rfl,om,?_⟩,om⟩;have l:val a / 2 ^ j<2:=dg (by rw[<-jr];exact e);have m:val a / 2 ^ j=0:=by clear e h0;generalize val a / 2 ^ j=z at *;omega
 rcases xo (val a) (2 ^ j) with g | g;exact g;have:=Nat.div_pos g (ug j);omega;right;obtain rfl:k=0:=om
 rw[ol om,bifF];refine⟨_,rfl,?_⟩;have:val a=0:=by simpa using e
 rw[this,Qlr];rintro t rfl;rfl
theorem Q9w{P c x:Nat}(h:P*c<=x)(d:x<P):c=0:=by rcases dm c with a | a;exact a;exfalso;have:P*1<=P*c:=vc _ a;omega
theorem Jjf(x j:Nat):x / 2 ^ j=2*(x / 2 ^ (j+1))+x / 2 ^ j%2:=by rw[jr,<-wg];generalize x / 2 ^ j=z;omega
theorem Jhs{a b q r:Nat}(h:a=q*b+r)(hr:r<b):q=a / b/\r=a%b:=by
 have h0:0<b:=om
 rw[h,vp q b,Nat.mul_add_div h0,Nat.mul_add_mod,gn hr,xv hr];exact⟨om,rfl⟩
theorem Jht{A a q d r f b t:Nat}(e:A=2*a+t)(h:a=q*b+r)(i:d=2*q)(j:f=2*r+t):A=d*b+f:=by subst i j;grind
theorem Jhu{A i q j l r a f b t:Nat}(e:A=2*i+t)(h:i=q*b+r)(m:j=2*q)(u:a=2*r+t)(s:l=j+1)(v:f=a - b)(w:b<=a):A=l*b+f:=by
 obtain⟨d,rfl⟩:∃ d,a=b+d:=⟨a - b,om⟩
 have:f=d:=om
 subst this s m;grind
theorem Je1{x y:Nat}:0<=cmpI x y↔y<=x:=by unfold cmpI;split;constructor<;>intro h<;>omega;split<;>constructor<;>intro h<;>omega
theorem Jc4{k:Nat}(h:k<32):(1*2 ^ min (Int.toNat (k:Int)) 32)%4294967296=2 ^ k:=by rw[yo,yz om,Nat.one_mul];exact xv (xw (Nat.pow_lt_pow_right oz h) oz)
theorem Q00{a:List Nat}(f:Wd a):blen (val a)<=32*a.length:=by by_cases h:val a=0;rw[h,Qlr];omega;have e:=Qsd h;have d:=Z3 f;rw[Qo9] at d;have i:=(ji (show 1<2 by decide)).1 (ye e d);omega
theorem Qy3{n:Nat}{a b:List Nat}(hn:big<=n)(ha:a.length<17592186044410)(hb:b.length<17592186044410)(e:Wd a)(m:Wd b)(h0:val b≠0):
 Qcg n a b=some (toL (val a / val b),toL (val a%val b)):=by
 unfold Qcg;have Y:=Q00 e;have X:=Z3 m;have hva:=Z3 e;rw[w64 (x:=(b.length:Int)+1) om om,show((b.length:Int)+1)=((b.length+1:Nat):Int) by omega,Qgl om om,sbind,Qgl om om,sbind,Qsj hn om e,sbind,w64 om om]
 refine Qcy (λs=>(s.2.2+1).toNat) (λs=>∃ k:Nat,s.2.2=(k:Int) - 1/\k<=blen (val a)/\s.1.length=a.length/\s.2.1.length=b.length+1/\Wd s.1/\Wd s.2.1/\val s.2.1<val b/\val a / 2 ^ k=val s.1*val b+val s.2.1)
  (λt=>t.1.length=a.length/\t.2.length=b.length+1/\Wd t.1/\Wd t.2/\val t.2<val b/\val a=val t.1*val b+val t.2) ⟨blen (val a),rfl,xn _,oc,oc,Qrm oz,Qrm oz,by simp only[];rw[Qkd];omega,by simp only[];rw[Qkd,Qkd,gn Quf];simp⟩ (by simp only[];unfold big at hn;omega) ?_ ?_
 rintro⟨q,r,i⟩ ⟨k,I,M,l,v,w,B,N,E⟩;simp only at I l v w B N E;subst I;simp only[jn_eq,sbind];by_cases hk:0<k;left;obtain⟨j,rfl⟩:∃ j,k=j+1:=⟨k - 1,om⟩
 have hd:Int.tdiv (j:Int) 32=((j / 32:Nat):Int):=rfl;have Z:Int.tmod (j:Int) 32=((j%32:Nat):Int):=rfl;have R:j / 32<a.length:=om
 have hp:(1*2 ^ min (Int.toNat ((j%32:Nat):Int)) 32)%4294967296=2 ^ (j%32):=Jc4 (ui _ oz);have f:=Je0 e (j / 32) (j%32) (ui _ oz);rw[show 32*(j / 32)+j%32=j by omega,show a.getD (j / 32) 0=a[j / 32] by simp[R]] at f;have hp0:0<2 ^ (j%32):=ug _;obtain⟨T,c1,V,d2,J,C⟩:=Qtw (b:=decide (a[j / 32] / 2 ^ (j%32)%2=1)) hn (show r.length<17592186044416 by omega) B;obtain⟨q2,U,K,H,L,u⟩:=Qtw (b:=false) hn (show q.length<17592186044416 by omega) w;have F:=Jjf (val a) j;have ht:(decide (a[j / 32] / 2 ^ (j%32)%2=1)).toNat=val a / 2 ^ j%2:=by
  rw[f];generalize a[j / 32] / 2 ^ (j%32)=z;by_cases g:z%2=1;rw[oi g,g];rfl;rw[oj g];simp only[Bool.toNat_false];omega
 rw[ht] at C;have ht2:val a / 2 ^ j%2<2:=ui _ oz;have Q:val a / 2 ^ j<=val a:=gf _ _;generalize O:val a / 2 ^ j=A at *;generalize W:val a / 2 ^ (j+1)=A2 at *;generalize A%2=t at *;have hqb:val q<=val q*val b:=Nat.le_mul_of_pos_right _ om;have c1z:c1=0:=by rw[v,Wz] at C;refine Q9w (P:=bp b.length*4294967296) (x:=2*val r+t) om ?_;omega
 have c2z:U=0:=by rw[l] at u;refine Q9w (P:=bp a.length) (x:=2*val q+0) (by simp only[Bool.toNat_false] at u;omega) om
 subst c1z c2z;simp only[vh,xq,Bool.toNat_false] at C u;simp only[show((j+1:Nat):Int) - 1=(j:Nat) by omega,hd,Z,w64 (x:=((j / 32:Nat):Int)) om om,hp];rw[oi (show(0:Int)<=(j:Int) by omega),bifT,Qcx R,sbind,grd_t (oi (gg _)),sbind,grd_t (bne_iff_ne.2 om),sbind,V,sbind,K,sbind,Qsh hn om om J m,sbind,bifd];by_cases d:val b<=val T;rw[oo (Je1.2 d)];obtain⟨r3,S,l2,l3,l4⟩:=Qwo (p:=[]) (q:=[]) hn oh (show b.length<=T.length by omega) J m d;simp only[uf,vj,yh] at S;rw[S,sbind];cases q2 with
 | nil=>simp at H;omega
 | cons x G=>
   obtain⟨x1,x2⟩:=Vo.1 L;have hv:val (x::G)=x+4294967296*val G:=rfl;rw[hv] at u;rw[show getI (x::G) 0=some x from rfl,sbind,sbind,show(x::G).set (Int.toNat 0) ((x+1)%4294967296)=(x+1)%4294967296::G from rfl,w64 om om];have hx:(x+1)%4294967296=x+1:=om
   rw[hx];refine⟨_,rfl,⟨j,rfl,om,by simpa [l] using H,by simp only[];omega,Vo.2 ⟨om,x2⟩,l3,by simp only[];omega,?_⟩,by simp only[];omega⟩;simp only[];rw[O];exact Jhu F E u C (by simp only[val];omega) l4 d
 rw[ol (λh=>d (Je1.1 h)),w64 om om];refine⟨_,rfl,⟨j,rfl,om,by simp only[];omega,by simp only[];omega,L,J,by simp only[];omega,?_⟩,by simp only[];omega⟩;simp only[];rw[O];exact Jht F E u C;right;obtain rfl:k=0:=om
 rw[oj om,bifF];rw[Nat.pow_zero,Nat.div_one] at E;exact⟨_,rfl,l,v,w,B,N,E⟩;rintro⟨q,r⟩ ⟨I,M,l,v,w,B⟩;simp only at I M l v w B;obtain⟨K,H⟩:=Jhs B w;simp only[];rw[Zh hn om,sbind,Zh hn om,sbind,<-Vp l,<-Vp v,<-K,<-H]
theorem Jjg{x c y:Nat}(h:x=2 ^ c*y)(a:y%2=0):x=2 ^ (c+1)*(y / 2):=by rw[jr,um,h];congr 1;omega
theorem Jhv{x c y k:Nat}(h:x=2 ^ c*y)(h0:y≠0)(d:x<2 ^ k):c<k:=by have a:2 ^ c*1<=2 ^ c*y:=vc _ om;exact(ji (show 1<2 by decide)).1 (show 2 ^ c<2 ^ k by omega)
theorem Q42{n x:Nat}(hn:big<=n)(h0:x≠0)(q:x<4294967296):∃ z o:Nat,Qbj n x=some (z:Int)/\z<32/\x=2 ^ z*o/\o%2=1:=by
 have f:x<2 ^ 32:=q;have j:∃ r:Int,Qbj n x=some r/\∃ z o:Nat,r=z/\z<32/\x=2 ^ z*o/\o%2=1:=by unfold Qbj;rw[bifd,ol h0];refine Qjv (λs=>s.1) (λs=>∃ c:Nat,s.2=c/\x=2 ^ c*s.1/\s.1≠0) (λt=>∃ z o:Nat,t=z/\z<32/\x=2 ^ z*o/\o%2=1) ⟨0,rfl,oc,h0⟩ (by simp only[];unfold big at hn;omega) ?_ ?_;rintro⟨y,i⟩ ⟨c,d,a,e⟩;simp only at d a e;subst d;have m:=Jhv a e f;simp only[bifd];by_cases h:y%2=0;left;rw[oo h,w1 om];exact⟨_,rfl,⟨c+1,rfl,Jjg a h,by simp only[];omega⟩,by simp only[];omega⟩;right;rw[ol h];exact⟨_,rfl,c,y,rfl,m,a,om⟩;rintro t ⟨z,o,rfl,d,a,e⟩;exact⟨_,rfl,z,o,rfl,d,a,e⟩
 obtain⟨r,d,z,o,rfl,a,e,l⟩:=j;exact⟨z,o,d,a,e,l⟩
theorem Qy4(a:List Nat):Qcf a=some (decide (a=[1])):=by
 unfold Qcf;simp only[jn_eq,bifd]
 match a with
 | []=>rfl
 | [x]=>rw[oo (show(([x]:List Nat).length:Int)=1 from rfl)];exact yj some (gr.2 oc)
 | x::y::t=>rw[ol oh];simp
theorem mid2{α:Type}(l:List α)(x y:α)(r:List α):l++x::y::r=(l++[x])++y::r:=oc
theorem Jhw{a d V z:Nat}(q:z<32)(m:a<4294967296)(l:d<4294967296):
 (a+4294967296*(d+4294967296*V)) / 2 ^ z=((d*4294967296)%18446744073709551616+a)%18446744073709551616 / 2 ^ (min z 64)%4294967296+4294967296*((d+4294967296*V) / 2 ^ z):=by
 rw[xv (show d*4294967296<18446744073709551616 by omega),xv (show d*4294967296+a<18446744073709551616 by omega),yz om];have i:(a+4294967296*(d+4294967296*V)) / 2 ^ z / 4294967296=(d+4294967296*V) / 2 ^ z:=by rw[wg,vp (2 ^ z) 4294967296,<-wg];congr 1;omega
 have j:(a+4294967296*(d+4294967296*V)) / 2 ^ z%4294967296=(d*4294967296+a) / 2 ^ z%4294967296:=by
  have e:(4294967296:Nat)=2 ^ z*2 ^ (32 - z):=by rw[<-wc,show z+(32 - z)=32 by omega]
  have f:a+4294967296*(d+4294967296*V)=(d*4294967296+a)+2 ^ z*(4294967296*(2 ^ (32 - z)*V)):=by rw[Nat.mul_left_comm (2 ^ z),<-um (2 ^ z),<-e];omega
  rw[f,jf _ _ (ug z),Nat.add_mul_mod_self_left]
 rw[<-i,<-j];omega
theorem Qpm{a:List Nat}{k:Nat}(h:k<a.length):val (a.drop k)=a[k]+4294967296*val (a.drop (k+1)):=by rw[xi h];rfl
theorem Jaz{a:List Nat}{k:Nat}:val (a.drop k)=a.getD k 0+4294967296*val (a.drop (k+1)):=by by_cases h:k<a.length;rw[Qpm h];simp[h];rw[xf om,xf om];simp[val,xa (show a.length<=k by omega)]
theorem Jhx(P w d V a A:Nat)(e:V=w+4294967296*d)(h:a+P*V=A):a+P*w+P*4294967296*d=A:=by grind
theorem Q6z{n z:Nat}{p a q:List Nat}(hn:big<=n)(Q:p.length+a.length+q.length<17592186044416)(x:Wd a)(P:z<32):
 ∃ r k,Qbx n (p++a++q) p.length a.length (z:Int)=some (p.length,k,p++r++q)/\r.length=a.length/\Wd r/\k<=r.length/\r.take k=toL (val a / 2 ^ z):=by
 have G:∃ w,Qbx n (p++a++q) p.length a.length (z:Int)=some w/\∃ r k,w=(p.length,k,p++r++q)/\r.length=a.length/\Wd r/\k<=r.length/\r.take k=toL (val a / 2 ^ z):=by
  unfold Qbx
  refine Qjv (λs=>a.length - s.2.toNat) (λs=>∃(k:Nat) (o:List Nat),s.2=k/\k<=a.length/\s.1=p++o++(a.drop k++q)/\o.length=k/\Wd o/\val o+bp k*(val (a.drop k) / 2 ^ z)=val a / 2 ^ z)
   (λt=>∃ o,t=p++o++q/\o.length=a.length/\Wd o/\val o=val a / 2 ^ z) ⟨0,[],rfl,om,oc,rfl,Xj,by simp[val,Qau]⟩ (by simp only[];unfold big at hn;omega) ?_ ?_
  rintro⟨w,i⟩ ⟨k,o,e,m,B,F,L,C⟩;simp only at e B C;subst e B;simp only[bifd,jn_eq,sbind];by_cases hk:k<a.length;left;have N:=Qcz x hk;have O:=Qn9 x (k+1);have u:=Jhw (V:=val (a.drop (k+1+1))) P N O;have v:∀(K:Nat->Option (Lp (List Nat×Int) (List Nat))),(if wrap64 ((k:Int)+1)<(a.length:Int) then (grd (winS (wrap64 ((k:Int)+1)) a.length)).bind λ_=>(getI (p++o++(a.drop k++q)) ((p.length:Int)+wrap64 ((k:Int)+1))).bind λI=>K I else K 0)=K (a.getD (k+1) 0):=by
   intro K;rw[w1 om];by_cases f:k+1<a.length;rw[oo om,Qsi f,sbind,show((p.length:Int)+((k+1:Nat):Int))=((p.length+k+1:Nat):Int) by omega,xi hk,xi f,yt,yt,mid2,Xa oh,sbind];simp[f];rw[ol om];simp[xa (show a.length<=k+1 by omega)]
  rw[oo om,v (λH=>(grd (winS (k:Int) a.length)).bind λ_=>(getI (p++o++(a.drop k++q)) ((p.length:Int)+(k:Int))).bind λJ=>(grd (decide (0<=(z:Int)))).bind λ_=>(grd (winS (k:Int) a.length)).bind λ_=>(getI (p++o++(a.drop k++q)) ((p.length:Int)+(k:Int))).bind λ_=>some (Lp.go ((p++o++(a.drop k++q)).set (Int.toNat ((p.length:Int)+(k:Int))) (((H*4294967296)%18446744073709551616+J)%18446744073709551616 / 2 ^ (min (Int.toNat (z:Int)) 64)%4294967296),wrap64 ((k:Int)+1))))];rw[Qsi hk,sbind,show((p.length:Int)+(k:Int))=((p.length+k:Nat):Int) by omega,xi hk,yt,Xa oh,sbind,grd_t (oi (gg _)),sbind,sbind,sbind,Z8 oh,w1 om,yo];have A:(a.getD (k+1) 0*4294967296%18446744073709551616+a[k])%18446744073709551616 / 2 ^ min z 64%4294967296<4294967296:=ui _ oz;generalize (a.getD (k+1) 0*4294967296%18446744073709551616+a[k])%18446744073709551616 / 2 ^ min z 64%4294967296=w at u A |-;refine⟨_,rfl,⟨k+1,o++[w],rfl,om,oc,by simp[F],Vg.2 ⟨L,Vo.2 ⟨A,Xj⟩⟩,?_⟩,by simp only[];omega⟩;rw[Wg,F,Wz];refine Jhx _ _ _ _ _ _ ?_ C;rw[Qpm hk,Jaz (k:=k+1)];exact u;right;obtain rfl:k=a.length:=om
  rw[ol om];rw[xf (xn _)] at C;exact⟨_,rfl,o,oc,F,L,by simpa [val] using C⟩;rintro t ⟨o,rfl,e,m,B⟩;refine Qjv (λs=>s.2) (λs=>s.1=p.length/\s.2<=o.length/\trimZ o=trimZ (o.take s.2)) (λt=>t.1=p.length/\t.2<=o.length/\trimZ o=o.take t.2) ⟨rfl,by simp only[];omega,by simp only[];rw[<-e,xu]⟩ (by simp only[];unfold big at hn;omega) ?_ ?_;rintro⟨s1,k⟩ ⟨rfl,l,g3⟩;simp only at l g3;simp only[jn_eq,bifd];by_cases h0:0<k;obtain⟨j,rfl⟩:∃ j,k=j+1:=⟨k - 1,om⟩
  have E:j<o.length:=om
  rw[W0 E] at g3;rw[oo om,w64 om om,show((j+1:Nat):Int) - 1=(j:Nat) by omega,Qsi om,sbind,show((p.length:Int)+(j:Int))=((p.length+j:Nat):Int) by omega];have M:getI (p++o++q) ((p.length+j:Nat):Int)=some o[j]:=by rw[Qh0,xl,yu om,wu,uo E,oq E]
  rw[M,sbind];by_cases d:o[j]=0;left;rw[oo d,grd_t (by unfold winC;simp;omega),sbind];exact⟨_,rfl,⟨oc,by simp only[];omega,by simp only[];rw[g3,d,Qxu];simp⟩,by simp only[];omega⟩;right;rw[ol d];exact⟨_,rfl,rfl,l,by simp only[];rw[g3,W0 E,Q6e _ d]⟩;right;obtain rfl:k=0:=om
  rw[ol om,bifF];exact⟨_,rfl,rfl,by simp only[];omega,by simp only[];rw[g3];simp[trimZ]⟩;rintro⟨s1,k⟩ ⟨rfl,l,g3⟩;simp only at l g3;exact⟨_,rfl,o,k,rfl,e,m,l,by rw[<-g3,<-Vp m,B]⟩
 obtain⟨w,e,r,k,rfl,m⟩:=G;exact⟨r,k,e,m⟩
def Win(X:List Nat)(o l:Nat)(b:List Nat):Prop:=∃ p q,X=p++b++q/\p.length=o/\b.length=l
theorem Q3g{X:List Nat}{o l:Nat}{b:List Nat}(h:Win X o l b):subW X o l=some b:=by obtain⟨p,q,rfl,rfl,rfl⟩:=h;unfold subW;rw[oo oc];simp
theorem Je2(b:List Nat):Win b 0 b.length b:=⟨[],[],oc,rfl,rfl⟩
theorem oddw{w z o R:Nat}(i:z<32)(e:w=2 ^ z*o)(f:o%2=1):(w+4294967296*R) / 2 ^ z%2=1/\w+4294967296*R=2 ^ z*((w+4294967296*R) / 2 ^ z):=by
 have a:(4294967296:Nat)=2 ^ z*(2*2 ^ (31 - z)):=by rw[<-um,vp (2 ^ z) 2,um,<-wc,show z+(31 - z)=31 by omega]
 have d:w+4294967296*R=2 ^ z*(o+2*(2 ^ (31 - z)*R)):=by rw[gt,<-e,<-um 2,<-um (2 ^ z),<-a]
 rw[d,Nat.mul_div_cancel_left _ (ug z)];exact⟨om,rfl⟩
theorem Qsk{n o l:Nat}{X a:List Nat}(hn:big<=n)(N:X.length<17592186044416)(O:Win X o l a)(x:Wd a)(h0:val a≠0):
 ∃ f l' t X',Yr n X o l=some (f,l',((t:Nat):Int),X')/\X'.length=X.length/\∃ u,val a=2 ^ t*u/\u%2=1/\Win X' f l' (toL u)/\t<=32*a.length:=by
 obtain⟨p,q,rfl,rfl,rfl⟩:=O;have F:∃ w,Yr n (p++a++q) p.length a.length=some w/\∃ f l' t X',w=(f,l',((t:Nat):Int),X')/\X'.length=(p++a++q).length/\∃ u,val a=2 ^ t*u/\u%2=1/\Win X' f l' (toL u)/\t<=32*a.length:=by
  unfold Yr;simp only[yy] at N;have v:∀ j,val a=bp j*val (a.drop j)->j<a.length:=by intro j d;rcases xo j a.length with h | h;exact h;rw[xf h] at d;exact absurd d (by simpa [val] using h0)
  refine Qjv (λs=>s.2.1) (λs=>∃ j:Nat,s.1=p.length+j/\s.2.1=a.length - j/\s.2.2=((32*j:Nat):Int)/\val a=bp j*val (a.drop j))
   (λs=>∃ j:Nat,s.1=p.length+j/\s.2.1=a.length - j/\s.2.2=((32*j:Nat):Int)/\val a=bp j*val (a.drop j)/\a.getD j 0≠0) ⟨0,rfl,rfl,rfl,by rw[Qau];simp⟩ (by simp only[];unfold big at hn;omega) ?_ ?_
  rintro⟨s1,Q,S⟩ ⟨j,rfl,rfl,rfl,i⟩;have d:=v j i;have B:getI (p++a++q) (((p.length+j:Nat):Int)+0)=some a[j]:=by rw[show(((p.length+j:Nat):Int)+0)=((p.length+j:Nat):Int) by omega,Qh0,xl,yu om,wu,uo d,oq d]
  simp only[bifd];rw[show(0:Int)=((0:Nat):Int) from rfl,Qsi om,sbind,show((0:Nat):Int)=0 from rfl,B,sbind];by_cases A:a[j]=0;left;rw[oo A,grd_t (by unfold winC;simp;omega),sbind,w64 om om];refine⟨_,rfl,⟨j+1,by simp only[];omega,by simp only[];omega,by simp only[];omega,?_⟩,by simp only[];omega⟩;rw[i,Qpm d,A,Wz,xj,um];right;rw[ol A];exact⟨_,rfl,j,rfl,rfl,rfl,i,by simpa [d] using A⟩;rintro⟨s1,Q,S⟩ ⟨j,rfl,rfl,rfl,i,M⟩;have d:=v j i;have B:getI (p++a++q) (((p.length+j:Nat):Int)+0)=some a[j]:=by
   rw[show(((p.length+j:Nat):Int)+0)=((p.length+j:Nat):Int) by omega,Qh0,xl,yu om,wu,uo d,oq d]
  have P:=Qcz x d;have E:a[j]≠0:=by simpa [d] using M
  obtain⟨z,Y,T,J,z3,z4⟩:=Q42 hn E P;simp only[];rw[show(0:Int)=((0:Nat):Int) from rfl,Qsi om,sbind,show((0:Nat):Int)=0 from rfl,B,sbind,T,sbind];have C:p++a++q=(p++a.take j)++a.drop j++q:=oc
  have e:(p++a.take j).length=p.length+j:=oh
  have m:(a.drop j).length=a.length - j:=oc
  obtain⟨r,k,G,U,V,W,H⟩:=Q6z (p:=p++a.take j) (a:=a.drop j) (q:=q) hn (by rw[e,m];omega) (Qp9 x) J;rw[e,m,<-C] at G;rw[G,sbind,w64 om om];obtain⟨w1,I⟩:=oddw (R:=val (a.drop (j+1))) J z3 z4;rw[<-Qpm d] at w1 I;refine⟨_,rfl,p.length+j,k,32*j+z,p++a.take j++r++q,oc,oh,val (a.drop j) / 2 ^ z,?_,w1,?_,om⟩;rw[wc,<-Qo9,um,<-I];exact i;refine⟨p++a.take j,r.drop k++q,?_,e,?_⟩;rw[<-H];simp only[xl];rw[<-xl (r.take k),vm];rw[<-H,xk,yz om]
 obtain⟨w,K,f,l',t,X',rfl,L⟩:=F;exact⟨f,l',t,X',K,L⟩
theorem Q3z{n t:Nat}{a:List Nat}(hn:big<=n)(i:a.length<1099511627776)(j:t<35184372088832)(d:Wd a):Qcs n a (t:Int)=some (toL (2 ^ t*val a)):=by unfold Qcs;have hd:Int.tdiv (t:Int) 32=((t / 32:Nat):Int):=rfl;have f:Int.tmod (t:Int) 32=((t%32:Nat):Int):=rfl;have hp:(1*2 ^ min (Int.toNat ((t%32:Nat):Int)) 32)%4294967296=2 ^ (t%32):=Jc4 (ui _ oz);have e:2 ^ (t%32)<4294967296:=xw (Nat.pow_lt_pow_right oz (ui t (show 0<32 by decide))) oz;rw[hd,f,w64 om om,Qgl om om,sbind,Vt oh oh,sbind,grd_t (oi (gg _)),sbind,hp,sbind,Qdb hn oh oc (Vg.2 ⟨Qrm oz,d⟩) (Vo.2 ⟨e,Xj⟩),sbind,Zs,Qkd,ur,Qo9,xj];congr 2;simp only[val,vh,xq];rw[um,vp (val a),<-um,<-wc,show 32*(t / 32)+t%32=t by omega]
theorem Q8o{u t:Nat}(h:u%2=1):Nat.Coprime (2 ^ t) u:=Nat.Coprime.pow_left t (by
 have:Nat.gcd 2 u=1:=by rw[Nat.gcd_rec,h];rfl
 exact this)
theorem Jk1{m k u v:Nat}(a:u%2=1)(d:v%2=1):Nat.gcd (2 ^ m*u) (2 ^ k*v)=2 ^ (min m k)*Nat.gcd u v:=by by_cases h:m<=k;rw[yz h,show k=m+(k - m) by omega,wc,um,Nat.gcd_mul_left,Nat.Coprime.gcd_mul_left_cancel_right _ (Q8o a)];rw[Nat.min_eq_right om,show m=k+(m - k) by omega,wc,um,Nat.gcd_mul_left,Nat.Coprime.gcd_mul_left_cancel _ (Q8o d)]
theorem Q4k{x k:Nat}(h:x<2 ^ k):blen x<=k:=by by_cases h0:x=0;rw[h0,Qlr];omega;have a:=Qsd h0;have:=(ji (show 1<2 by decide)).1 (ye a h);omega
theorem Jhy{x y t:Nat}(h:x=2 ^ t*y)(i:t≠0)(h0:x≠0):blen y<blen x:=by
 have a:=Quf (x:=x);have hp:=Qz6 h0;obtain⟨k,hk⟩:∃ k,blen x=k+1:=⟨_,(Nat.sub_add_cancel hp).symm⟩
 rw[hk] at a |-;have d:y<2 ^ k:=by
  obtain⟨s,rfl⟩:∃ s,t=s+1:=⟨t - 1,om⟩
  rw[jr] at h a;have e:1*y<=2 ^ s*y:=xt _ (ug s);have f:x=2*(2 ^ s*y):=by rw[h,vp (2 ^ s) 2,um]
  omega
 have:=Q4k d;omega
theorem Jhz{x y:Nat}(h:x<=y):blen x<=blen y:=Q4k (ye h Quf)
theorem Qwp{v:Nat}:blen v<=32*(toL v).length:=by have:=Q00 (Jq v);rwa [Jc] at this
theorem Qy5{X:List Nat}{o l:Nat}{b:List Nat}(h:Win X o l b):b.length<=X.length/\b.length=l:=by obtain⟨p,q,rfl,rfl,rfl⟩:=h;exact⟨oh,rfl⟩
def wval(X:List Nat)(o l:Nat):Nat:=val ((subW X o l).getD [])
theorem Quj{X:List Nat}{o l u:Nat}(h:Win X o l (toL u)):wval X o l=u:=by unfold wval;rw[Q3g h,du,Jc]
theorem Jk2{u v:Nat}(a:u%2=1)(d:v%2=1)(h:v<u):(u - v)≠0/\(u - v)%2=0:=om
theorem Qrr{a:List Nat}(d:Wd a):(trimZ a).length=0↔val a=0:=by rw[<-Q2d d];constructor;intro h;exact ow h;intro h;rw[h];rfl
set_option maxHeartbeats 1000000 in
theorem Q8p{n:Nat}{a b:List Nat}(hn:big<=n)(ha:a.length<1099511627776)(hb:b.length<1099511627776)(e:Wd a)(f:Wd b):Qek n a b=some (toL (Nat.gcd (val a) (val b))):=by
 unfold Qek;have la:=Qbd a;have lb:=Qbd b;rw[Zh hn om,sbind,Zh hn om,sbind];by_cases h0:val a=0;have:=(Qrr e).2 h0;rw[oi om,bifT,h0,Nat.gcd_zero_left,Vp f];rw[oj (λh=>h0 ((Qrr e).1 om)),bifF];by_cases d:val b=0;have:=(Qrr f).2 d;rw[oi om,bifT,d,Nat.gcd_zero_right,Vp e];rw[oj (λh=>d ((Qrr f).1 om)),bifF];obtain⟨o1,l1,Q,X1,T,e2,u,M,N,H,e6⟩:=Qsk hn (show(trimZ a).length<_ by omega) (Je2 _) (Jcq e) (by rw[Qwd];exact h0);obtain⟨o2,l2,R,X2,U,f2,v,f3,f4,f5,f6⟩:=Qsk hn (show(trimZ b).length<_ by omega) (Je2 _) (Jcq f) (by rw[Qwd];exact d);rw[Qwd] at M f3;rw[T,sbind,U,sbind,M,f3,Jk1 N f4];simp only[];have i1:=Qy5 H;have i2:=Qy5 f5;have j1:=@Qwp u;have j2:=@Qwp v;have k1:=Qkf (v:=u)
 refine Qcy (λs=>blen (wval s.1 s.2.1 s.2.2.1)+blen (wval s.2.2.2.1 s.2.2.2.2.1 s.2.2.2.2.2))
  (λs=>∃ x y:Nat,Win s.1 s.2.1 s.2.2.1 (toL x)/\Win s.2.2.2.1 s.2.2.2.2.1 s.2.2.2.2.2 (toL y)/\x%2=1/\y%2=1/\Nat.gcd x y=Nat.gcd u v/\s.1.length<1099511627776/\s.2.2.2.1.length<1099511627776)
  (λt=>Win t.1 t.2.1 t.2.2 (toL (Nat.gcd u v))/\t.1.length<1099511627776) ⟨u,v,H,f5,N,f4,rfl,by simp only[];omega,by simp only[];omega⟩ (by simp only[];rw[Quj H,Quj f5];unfold big at hn;omega) ?_ ?_
 have round:∀(X:List Nat) (o l:Nat) (Y:List Nat) (i l' x y:Nat),Win X o l (toL x)->Win Y i l' (toL y)->x%2=1->y%2=1->Nat.gcd x y=Nat.gcd u v->X.length<1099511627776->Y.length<1099511627776->y<x ->
  ∃ s':List Nat×Nat×Nat×List Nat×Nat×Nat,((some (toL y)).bind λL=>(Y6 n X o l L).bind λK=>(Yr n K o l).bind λj=>some (Lp.go (σ:=List Nat×Nat×Nat×List Nat×Nat×Nat) (τ:=List Nat×Nat×Nat) (j.2.2.2,j.1,j.2.1,Y,i,l')))=some (.go s') /\
    (∃ x y:Nat,Win s'.1 s'.2.1 s'.2.2.1 (toL x)/\Win s'.2.2.2.1 s'.2.2.2.2.1 s'.2.2.2.2.2 (toL y)/\x%2=1/\y%2=1/\Nat.gcd x y=Nat.gcd u v/\s'.1.length<1099511627776/\s'.2.2.2.1.length<1099511627776) /\
    blen (wval s'.1 s'.2.1 s'.2.2.1)+blen (wval s'.2.2.2.1 s'.2.2.2.2.1 s'.2.2.2.2.2)<blen x+blen y:=by
  intro X o l Y i l' x y hX P G m B lX lY J;obtain⟨p,q,rfl,rfl,rfl⟩:=hX;obtain⟨r,g1,I,g3,g4⟩:=Qwo (p:=p) (a:=toL x) (q:=q) (b:=toL y) hn (by simp at lX;omega) (W8 om) (Jq _) (Jq _) (by rw[Jc,Jc];omega);rw[Jc,Jc] at g4;obtain⟨s1,s2⟩:=Jk2 G m J;obtain⟨o3,l3,t3,S,V,W,w,F,Z,O,h6⟩:=Qsk (X:=p++r++q) (o:=p.length) (l:=(toL x).length) (a:=r) hn (by simp[I];simp at lX;omega) ⟨p,q,rfl,rfl,I⟩ g3 (by rw[g4];exact s1);rw[g4] at F;have ht:t3≠0:=by rintro rfl;rw[Nat.pow_zero,Nat.one_mul] at F;omega
  refine⟨(S,o3,l3,Y,i,l'),by rw[sbind,g1,sbind,V,sbind],⟨w,y,O,P,Z,m,?_,?_,lY⟩,?_⟩;rw[<-B,<-Nat.Coprime.gcd_mul_left_cancel (k:=2 ^ t3) w (Q8o m),<-F,Nat.gcd_sub_self_left om];rw[W];simp[I];simp at lX;omega;simp only[];rw[Quj O,Quj P];have c1:=Jhy F ht s1;have E:=Jhz (Nat.sub_le x y);omega
 rintro⟨X,o,l,Y,i,l'⟩ ⟨x,y,w1,A,G,m,B,lX,lY⟩;simp only at w1 A lX lY;have i3:=Qy5 w1;have i4:=Qy5 A;simp only[jn_eq];rw[Q3g w1,sbind,Q3g A,sbind,Qsh hn om om (Jq _) (Jq _),sbind,Jc,Jc,Quj w1,Quj A,bifd,bifd];unfold cmpI;by_cases c1:x<y;left;rw[oo c1,ol oz,oo oz];obtain⟨s',r1,r2,r3⟩:=round Y i l' X o l y x A w1 m G (by rw[Nat.gcd_comm];exact B) lY lX c1;exact⟨s',r1,r2,om⟩;rw[ol c1];by_cases E:y<x;left;rw[oo E,ol oz,ol oz];exact round X o l Y i l' x y w1 A G m B lX lY E;right;rw[ol E,oo rfl];obtain rfl:x=y:=om
 refine⟨_,rfl,?_,lX⟩;rw[<-B,Nat.gcd_self];exact w1;rintro⟨X,o,l⟩ ⟨w1,lX⟩;simp only at w1 lX;have i3:=Qy5 w1;simp only[];have C:min (Q:Int) (R:Int)=((min Q R:Nat):Int):=om
 rw[Q3g w1,sbind,C,Q3z hn om om (Jq _),sbind,Jc]
theorem Qwq{n:Nat}{a g:List Nat}(hn:big<=n)(f:a.length<1099511627776)(i:g.length<1099511627776)(d:Wd a)(e:Wd g)(h0:val g≠0):Qby n a g=some (toL (val a / val g)):=by
 unfold Qby
 rw[Qy4,sbind,bifd];split;rename_i h;rw[h,Zh hn om,sbind,<-Vp d];simp[val];rw[Qy3 hn om om d e h0,sbind]
def wy(w:Qx):Int:=if w.Neg then -(val w.A8:Int) else (val w.A8:Int)
def rW(z:Int):Qx:=⟨decide (z<0),toL z.natAbs⟩
theorem wy_rW(z:Int):wy (rW z)=z:=by unfold wy rW;simp only[Jc];by_cases h:z<0;rw[oi h,oo rfl];omega;rw[oj h,ol oz];omega
theorem Qfj{n:Nat}{w:Qx}(hn:big<=n)(d:Wd w.A8)(a:w.A8.length<=35184372088832):Vx n w=some (rW (wy w)):=by unfold Vx rW wy;rw[Zh hn a,sbind,<-Vp d,jn_eq];cases w.Neg;rw[bifF,ol oz,oj om,wd];rw[bifT,oo rfl,Int.natAbs_neg,wd];have:=Qkf (v:=val w.A8);refine yj (λb=>some (⟨b,_⟩:Qx)) (gr.2 ?_);omega
theorem Qy6{n:Nat}{w u:Qx}(hn:big<=n)(i:Wd w.A8)(f:Wd u.A8)(A:w.A8.length<17592186044410)(q:u.A8.length<17592186044410):Qci n w u=some (rW (wy w+wy u)):=by
 unfold Qci;have g1:=K2 i;have x:=K2 f;have len:∀ z,z<=val w.A8+val u.A8->(toL z).length<=35184372088832:=λz v=>xe (W8 v) (xe (Qug (k:=17592186044410) om om) oz);rw[Qyr hn om om i f,sbind,Qsh hn om om i f,sbind,bifd];obtain⟨s,a⟩:=w;obtain⟨t,b⟩:=u;simp only at *
 have e:∀ s,Vx n ⟨s,toL (val a+val b)⟩=some (rW (if s then -((val a+val b:Nat):Int) else ((val a+val b:Nat):Int))):=λs=>by rw[Qfj hn (Jq _) (len _ (xn _))];unfold wy;simp only[Jc]
 have j:∀ s,val b<=val a->(Zu n a b).bind (λr=>(Vx n ⟨s,r⟩).bind λd=>some d)=some (rW (if s then -((val a - val b:Nat):Int) else ((val a - val b:Nat):Int))):=λs h=>by rw[Qy2 hn om om i f h,sbind,Qfj hn (Jq _) (len _ om),sbind];unfold wy;simp only[Jc]
 have l:∀ s,val a<=val b->(Zu n b a).bind (λr=>(Vx n ⟨s,r⟩).bind λd=>some d)=some (rW (if s then -((val b - val a:Nat):Int) else ((val b - val a:Nat):Int))):=λs h=>by rw[Qy2 hn om om f i h,sbind,Qfj hn (Jq _) (len _ om),sbind];unfold wy;simp only[Jc]
 have m:=@Jcv (val a) (val b);unfold wy;simp only[e,sbind];by_cases h:val a<val b;rw[oo (m.2 h),l t om];cases s<;>cases t<;>simp only[beq_self_eq_true,bifT,bifF,vg,yn,yd,show(false == true)=false by rfl,show(true == false)=false by rfl]<;>congr 2<;>omega;rw[ol (λg=>h (m.1 g)),j s om];cases s<;>cases t<;>simp only[beq_self_eq_true,bifT,bifF,vg,yn,yd,show(false == true)=false by rfl,show(true == false)=false by rfl]<;>congr 2<;>omega
def rF(q:Rat):Qa:=⟨decide (q.num<0),toL q.num.natAbs,toL q.den⟩
def fr(f:Qa):Rat:=mkRat (if f.Neg then -(val f.N:Int) else (val f.N:Int)) (val f.D)
theorem Qy7(z:Int):(if decide (z<0) then -(z.natAbs:Int) else (z.natAbs:Int))=z:=by by_cases h:z<0;rw[oi h,oo rfl];omega;rw[oj h,ol oz];omega
theorem fr_rF(q:Rat):fr (rF q)=q:=by unfold fr rF;simp only[Jc];rw[Qy7];exact ve q
theorem Jh0{p q:Rat}(h:rF p=rF q):p=q:=by rw[<-fr_rF p,h,fr_rF]
theorem Jk3:toL 1=[1]:=by rw[Qew oz];rw[show(1:Nat)%4294967296=1 from rfl,show(1:Nat) / 4294967296=0 from rfl,Yu]
theorem Je3:rF 0=⟨false,[],[1]⟩:=by unfold rF;rw[show(0:Rat).num=0 from rfl,show(0:Rat).den=1 from rfl,Jk3,show(0:Int).natAbs=0 from rfl,Yu];rfl
theorem rF_mk{s:Bool}{x d:Nat}(i:x≠0)(hd:d≠0):rF (mkRat (if s then -(x:Int) else (x:Int)) d)=⟨s,toL (x / Nat.gcd x d),toL (d / Nat.gcd x d)⟩:=by
 obtain⟨a,e⟩:=Qg7 (z:=if s then -(x:Int) else (x:Int)) hd;have j:(if s then -(x:Int) else (x:Int)).natAbs=x:=by cases s<;>simp
 have f:Nat.gcd x d ∣ x:=Nat.gcd_dvd_left _ _;have hp:x / Nat.gcd x d≠0:=by have:=Nat.div_pos (Nat.le_of_dvd (Nat.pos_of_ne_zero i) f) (Nat.gcd_pos_of_pos_left d (Nat.pos_of_ne_zero i));omega
 rw[j] at a e;rw[<-Jev s x _ f] at a;unfold rF;rw[a,e];generalize x / Nat.gcd x d=y at hp;cases s;rw[ol oz,oj om,wd];rw[oo rfl,oi om,Int.natAbs_neg,wd]
theorem Xb{n:Nat}{f:Qa}(hn:big<=n)(i:Wd f.N)(e:Wd f.D)(lN:f.N.length<1099511627776)(lD:f.D.length<1099511627776):Jl n f=some (rF (fr f)):=by
 unfold Jl;have g1:=K2 i;have m:=K2 e;rw[Zh hn om,sbind,Zh hn om,sbind,<-Vp i,<-Vp e];simp only[jn_eq,bifd];have q:=Qkf (v:=val f.N);have r:=Qkf (v:=val f.D);unfold fr;by_cases hd:val f.D=0;rw[oo om,hd,Rat.mkRat_zero,Je3];rfl;rw[ol om];by_cases a:val f.N=0;rw[oo om,a];have:(if f.Neg=true then -((0:Nat):Int) else ((0:Nat):Int))=0:=by split<;>rfl
 rw[this,Rat.zero_mkRat,Je3];rw[ol om,rF_mk a hd,Qy4,sbind];have j:Nat.gcd (val f.N) (val f.D)≠0:=by have:=Nat.gcd_pos_of_pos_left (val f.D) (Nat.pos_of_ne_zero a);omega
 have l:(toL (Nat.gcd (val f.N) (val f.D))).length<1099511627776:=ye (W8 (Nat.gcd_le_left _ (Nat.pos_of_ne_zero a))) om;by_cases d:toL (val f.D)=[1]
 rw[oi d,ot,bifF];have:val f.D=1:=by rw[<-Jc (val f.D),d];rfl
 rw[this,Nat.gcd_one_right,Nat.div_one,Nat.div_one];rw[oj d,ov,bifT,Q8p hn om om (Jq _) (Jq _),sbind,Jc,Jc,Qwq hn om l (Jq _) (Jq _) (by rw[Jc];exact j),sbind,Qwq hn om l (Jq _) (Jq _) (by rw[Jc];exact j),sbind,Jc,Jc,Jc]
theorem wy_mk(z:Int)(d:Nat):wy ⟨decide (z<0),toL (z.natAbs*d)⟩=z*(d:Int):=by unfold wy;simp only[Jc,Int.natCast_mul];by_cases h:z<0;rw[oi h,oo rfl,<-Int.neg_mul];congr 1;omega;rw[oj h,ol oz];congr 1;omega
theorem V7{n k:Nat}{p q:Rat}(hn:big<=n)(hk:k<274877906944)(hp:qw p<=k)(f:qw q<=k):Qy n (rF p) (rF q)=some (rF (p+q)):=by
 have r:=Qex p;have s:=Qex q;have a:=Qhe p;have d:=Qhe q;have j:=@Qb6 p.num.natAbs q.den;have l:=@Qb6 q.num.natAbs p.den;have m:=@Qb6 p.den q.den;unfold Qy rF;simp only[];rw[Qdb hn om om (Jq _) (Jq _),sbind,Qdb hn om om (Jq _) (Jq _),sbind,Jc,Jc,Jc,Jc,Qy6 hn (Jq _) (Jq _) (by simp only[];omega) (by simp only[];omega),sbind,wy_mk,wy_mk,Qdb hn om om (Jq _) (Jq _),sbind,Jc,Jc];have i:(toL (p.num*(q.den:Int)+q.num*(p.den:Int)).natAbs).length<=2*k+1:=by
  refine xe (W8 (Int.natAbs_add_le _ _)) ?_;rw[dv,dv,wd,wd];exact Qug om om
 rw[Xb hn (Jq _) (Jq _) (by unfold rW;simp only[];omega) (by simp only[];omega),sbind];have e:fr ⟨(rW (p.num*(q.den:Int)+q.num*(p.den:Int))).Neg,(rW (p.num*(q.den:Int)+q.num*(p.den:Int))).A8,toL (p.den*q.den)⟩=p+q:=by unfold fr rW;simp only[Jc];rw[Qy7,<-jj _ _ p.den_nz q.den_nz,ve,ve]
 rw[e];rfl
theorem Jnh(z:Int)(_:z≠0):(if (!decide (z<0)) then -(z.natAbs:Int) else (z.natAbs:Int))=-z:=by by_cases h:z<0;rw[oi h,ot,ol oz];omega;rw[oj h,ov,oo rfl];omega
theorem Qoc{n k:Nat}{q:Rat}(hn:big<=n)(hk:k<274877906944)(d:qw q<=k):V0 n (rF q)=some (rF (-q)):=by
 have f:=Qex q;have a:=Qhe q;unfold V0 rF;simp only[];rw[Xb hn (Jq _) (Jq _) (by simp only[];omega) (by simp only[];omega),sbind];have e:fr ⟨!decide (q.num<0),toL q.num.natAbs,toL q.den⟩=-q:=by unfold fr;simp only[Jc];by_cases h0:q.num=0;rw[h0];have:q=0:=jb.1 h0;subst this;rfl;rw[Jnh _ h0,<-Rat.neg_mkRat,ve]
 rw[e];rfl
theorem Qh9{n k:Nat}{p q:Rat}(hn:big<=n)(hk:k<274877906944)(hp:qw p<=k)(a:qw q<=k):Xu n (rF p) (rF q)=some (rF (p - q)):=by unfold Xu;rw[Qoc hn hk a,sbind,V7 hn hk hp (by rw[Qjz];exact a),sbind,jp]
theorem Jjh(z u:Int):(if (decide (z<0) != decide (u<0)) then -((z.natAbs*u.natAbs:Nat):Int) else ((z.natAbs*u.natAbs:Nat):Int))=z*u:=by rw[Jeu,Qy7,Qy7]
theorem V8{n k:Nat}{p q:Rat}(hn:big<=n)(hk:k<274877906944)(hp:qw p<=k)(f:qw q<=k):Q3 n (rF p) (rF q)=some (rF (p*q)):=by
 have l:=Qex p;have m:=Qex q;have a:=Qhe p;have d:=Qhe q;have i:=@Qb6 p.num.natAbs q.num.natAbs;have j:=@Qb6 p.den q.den;unfold Q3 rF;simp only[];rw[Qdb hn om om (Jq _) (Jq _),sbind,Qdb hn om om (Jq _) (Jq _),sbind,Jc,Jc,Jc,Jc,Xb hn (Jq _) (Jq _) (by simp only[];omega) (by simp only[];omega),sbind];have e:fr ⟨decide (p.num<0) != decide (q.num<0),toL (p.num.natAbs*q.num.natAbs),toL (p.den*q.den)⟩=p*q:=by
  unfold fr;simp only[Jc];rw[Jjh,<-gq,ve,ve]
 rw[e];rfl
theorem Jji{z u:Int}{d:Nat}(f:u≠0):(if (decide (z<0) != decide (u<0)) then -((z.natAbs*d:Nat):Int) else ((z.natAbs*d:Nat):Int))=z*(u.sign*(d:Int)):=by rw[<-Int.mul_assoc,Int.natCast_mul];have e:=Qy7 z;by_cases h:u<0;rw[oi h,gd h] at *;by_cases a:z<0;rw[oi a] at *;simp only[bne_self_eq_false,vg,yd,yn] at *;rw[show z * -1=(z.natAbs:Int) by omega];rw[oj a] at *;simp only[show(false != true)=true from rfl,yn,vg,yd] at *;rw[show z * -1=-(z.natAbs:Int) by omega,Int.neg_mul];rw[oj h,vt om] at *;by_cases a:z<0;rw[oi a] at *;simp only[show(true != false)=true from rfl,yn] at *;rw[show z*1=-(z.natAbs:Int) by omega,Int.neg_mul];rw[oj a] at *;simp only[bne_self_eq_false,vg,yd] at *;rw[show z*1=(z.natAbs:Int) by omega]
theorem Qf6{n k:Nat}{p q:Rat}(hn:big<=n)(hk:k<274877906944)(hp:qw p<=k)(i:qw q<=k):Vl n (rF p) (rF q)=some (rF (p / q)):=by
 have m:=Qex p;have r:=Qex q;have d:=Qhe p;have f:=Qhe q;have j:=@Qb6 p.num.natAbs q.den;have l:=@Qb6 p.den q.num.natAbs;unfold Vl rF;simp only[];rw[Qdb hn om om (Jq _) (Jq _),sbind,Qdb hn om om (Jq _) (Jq _),sbind,Jc,Jc,Jc,Jc,Xb hn (Jq _) (Jq _) (by simp only[];omega) (by simp only[];omega),sbind];have e:fr ⟨decide (p.num<0) != decide (q.num<0),toL (p.num.natAbs*q.den),toL (p.den*q.num.natAbs)⟩=p / q:=by
  unfold fr;simp only[Jc];by_cases h0:q.num=0
  . rw[h0,show(0:Int).natAbs=0 from rfl,vh,Rat.mkRat_zero,jb.1 h0];grind
  . rw[Jji h0,wh]
    have a:=Q2i h0 q.den_nz;rw[ve] at a;rw[a]
    conv=>rhs;rw[<-ve p]
    rw[gq]
 rw[e];rfl
theorem Q43{v:Nat}:((toL v).length:Int)=0↔v=0:=by have:=Qkf (v:=v);omega
theorem Qce(q:Rat):Kj (rF q)=some q.num.sign:=by unfold Kj rF;simp only[bifd];by_cases h:q.num=0;rw[oo (Q43.2 om),h];rfl;rw[ol (λg=>h (by have:=Q43.1 g;omega))];by_cases a:q.num<0;rw[oo a,gd a];rw[ol a,vt om]
theorem Qgw(q:Rat):Yg (rF q)=some (decide (q=0)):=by unfold Yg rF;refine yj some (gr.2 ?_);simp only[Q43];rw[<-jb];omega
theorem Ze{n k:Nat}{p q:Rat}(hn:big<=n)(hk:k<274877906944)(hp:qw p<=k)(a:qw q<=k):J0 n (rF p) (rF q)=some (Int.sign (p - q).num):=by unfold J0;rw[Qh9 hn hk hp a,sbind,Qce,sbind]
open Classical in
theorem Qm1{n:Nat}{f g:Qa}(hn:big<=n)(j:f.N.length<=4611686018427387904)(l:f.D.length<=4611686018427387904):Jt n f g=some (decide (f=g)):=by unfold Jt;simp only[jn_eq];obtain⟨s,a,d⟩:=f;obtain⟨t,b,e⟩:=g;simp only at *;by_cases c1:s=t;subst c1;rw[show(s == s)=true by simp,bifT,Qwe hn j,sbind];by_cases i:a=b;subst i;rw[oi rfl,bifT,Qwe hn l,sbind];exact yj some (gr.2 ⟨λh=>by rw[h],λh=>by cases h;rfl⟩);rw[oj i,bifF,oj (λh=>by cases h;exact i rfl)];rw[show(s == t)=false by simpa using c1,bifF,oj (λh=>by cases h;exact c1 rfl)]
theorem Qej{n k:Nat}{p q:Rat}(hn:big<=n)(hk:k<274877906944)(hp:qw p<=k):Jt n (rF p) (rF q)=some (decide (p=q)):=by have d:=Qex p;have a:=Qhe p;rw[Qm1 hn (by show(toL p.num.natAbs).length<=_;omega) (by show(toL p.den).length<=_;omega)];exact yj some (gr.2 ⟨Jh0,λh=>by rw[h]⟩)
theorem Qgx{n k:Nat}{q:Rat}(hn:big<=n)(hk:k<274877906944)(f:qw q<=k):Qam n (rF q)=some (qz q:Int):=by have i:=Qex q;have e:=Qhe q;have a:=@Qwp q.num.natAbs;have d:=@Qwp q.den;unfold Qam rF qz;simp only[];rw[Qsj hn om (Jq _),sbind,Qsj hn om (Jq _),sbind,Jc,Jc,w64 om om];rfl
theorem Q2n{n x:Nat}(hn:big<=n)(e:x<18446744073709551616):Qc4 n x=some (toL x):=by
 unfold Qc4;have d:Wd [x%4294967296%4294967296,x / 4294967296%4294967296]:=Vo.2 ⟨om,Vo.2 ⟨om,Xj⟩⟩;have a:val [x%4294967296%4294967296,x / 4294967296%4294967296]=x:=by simp only[val];omega
 rw[sbind,Zh hn oc,sbind,<-Vp d,a]
theorem Qm2{n:Nat}{x:Int}(hn:big<=n)(j:-9223372036854775808<=x)(l:x<=9223372036854775807):Ka n x=some (rF (x:Rat)):=by
 unfold Ka;have a:Wd [1]:=Vo.2 ⟨oz,Xj⟩;have i:val [1]=1:=rfl;have f:∀ z,z<18446744073709551616->(toL z).length<=2:=λz q=>Qcc (by rw[Wz,Wz,Qau];omega);rw[bifd];by_cases h:x<0;have e:Int.toNat (wrap64 (-(wrap64 (x+1)))%18446744073709551616)=x.natAbs - 1:=by rw[w64 (x:=x+1) om om,w64 om om];omega
 have m:=f (x.natAbs - 1) om;have d:=f x.natAbs om;rw[oo h,sbind,e,Q2n hn om,sbind,Qyr hn om oc (Jq _) a,sbind,Jc,i,show x.natAbs - 1+1=x.natAbs by omega,Xb hn (Jq _) a (by simp only[];omega) oc,sbind];congr 2;unfold fr;simp only[Jc,i];rw[oo trivial,show -((x.natAbs:Nat):Int)=x by omega,<-Rat.mkRat_one];have e:Int.toNat (x%18446744073709551616)=x.natAbs:=om
 have d:=f x.natAbs om;rw[ol h,e,Q2n hn om,sbind,Xb hn (Jq _) a (by simp only[];omega) oc,sbind];congr 2;unfold fr;simp only[Jc,i];rw[ol oz,show((x.natAbs:Nat):Int)=x by omega,<-Rat.mkRat_one]
theorem Zp{n:Nat}(hn:big<=n):Ka n 0=some (rF 0):=Qm2 hn oz oz
theorem Qrs{n:Nat}(hn:big<=n):Ka n 1=some (rF 1):=Qm2 hn oz oz
theorem Q9x{q:Rat}(m:Nat):q⁻¹ ^ m / q=q⁻¹ ^ (m+1):=by rw[jd,wh]
theorem Q8q{n k:Nat}{q:Rat}{e:Int}(hn:big<=n)(hk:k<1073741824)(j:qw q<=k):
 Qem n (rF q) e=some (if e < -8\/8<e\/(e<0/\q=0) then (rF 0,false) else (rF (q ^ e),true)):=by
 have B:=Q6m q;unfold Qem;simp only[jn_eq,bifd];rw[Zp hn,sbind,Qrs hn,sbind];by_cases c1:e < -8;rw[oo c1,bifT,oo (.inl c1)];rw[ol c1];by_cases f:8<e;rw[oo f,bifT,oo (.inr (.inl f))];rw[ol f]
 have bnd:∀ m:Nat,m<=8->∀ q:Rat,qw q<=k->qw (q ^ m)<=9*k:=λm w q j=>by have:=Q6n j m;have C:m*k<=8*k:=xt _ w;have:=xe (Q6m q) j;omega
 have main:∀(l:¬(e<0/\q=0)),((loopM (λ(a:Qa×Int)=>
  if a.2<e then (
   (Q3 n a.1 (rF q)).bind λr=>
   some (Lp.go (r,wrap64 (a.2+(1:Int)))))
  else (
   some (Lp.out a.1))) n (rF 1,(0:Int))).bind λ(u:Qa)=>
  (loopM (λ(d:Qa×Int)=>
   if e<d.2 then (
    (Vl n d.1 (rF q)).bind λs=>
    some (Lp.go (s,wrap64 (d.2 - (1:Int)))))
   else (
    some (Lp.out d.1))) n (u,(0:Int))).bind λ(v:Qa)=>
  some (v,true))=some (rF (q ^ e),true):=by
  intro l;by_cases h:e<0;obtain⟨m,rfl⟩:∃ m:Nat,e=-(m:Int):=⟨e.natAbs,om⟩
  rw[W1 (λ_=>(rF 1,(0:Int))) 0 (rF 1) (λi hi=>absurd hi (dz _)) (by rw[ol om]) (by unfold big at hn;omega) rfl];have x:q≠0:=λg=>l ⟨h,g⟩;rw[W1 (λi=>(rF (q⁻¹ ^ i),-(i:Int))) m (rF (q⁻¹ ^ m))];rw[Rat.zpow_neg,gv];congr 3;clear bnd l c1 f h
  induction m with
  | zero=>rw[js,js];grind
  | succ m A=>rw[jd,jd,A];grind
  intro i hi;rw[oo om,Qf6 (k:=9*k) hn om (bnd i om _ (Q2h j)) om,sbind,Q9x,w64 om om];congr 3;omega;rw[ol om];unfold big at hn;omega;rw[js];rfl;obtain⟨m,rfl⟩:∃ m:Nat,e=(m:Int):=⟨e.natAbs,om⟩
  rw[W1 (λi=>(rF (q ^ i),(i:Int))) m (rF (q ^ m))];rw[W1 (λ_=>(rF (q ^ m),(0:Int))) 0 (rF (q ^ m)) (λi hi=>absurd hi (dz _)) (by rw[ol om]) (by unfold big at hn;omega) rfl,gv];intro i hi;rw[oo om,V8 (k:=9*k) hn om (bnd i om _ j) om,sbind,<-jd,w1 om];rw[ol om];unfold big at hn;omega;rw[js];rfl
 by_cases h:e<0;rw[oo h,Qgw,sbind,bifd];by_cases h0:q=0;rw[oo h0,oo (.inr (.inr ⟨h,h0⟩))];rw[ol h0,main (λg=>h0 g.2),ol (by rintro(g | g | g);exact c1 g;exact f g;exact h0 g.2)];rw[ol h,bifF,main (λg=>h g.1),ol (by rintro(g | g | g);exact c1 g;exact f g;exact h g.1)]
def rR(l:List Rat):List Qa:=l.map rF
theorem J7(l:List Rat):(rR l).length=l.length:=by unfold rR;simp
theorem Qim{l:List Rat}{i:Nat}{q:Rat}(h:l[i]?=some q):(rR l)[i]?=some (rF q):=by unfold rR;rw[yr,h];rfl
theorem Jni{a b:List Rat}(h:rR a=rR b):a=b:=by
 unfold rR at h
 induction a generalizing b with
 | nil=>cases b with
   | nil=>rfl
   | cons y b=>cases h
 | cons x a f=>cases b with
   | nil=>cases h
   | cons y b=>
     rw[yv,yv] at h;obtain⟨d,e⟩:=List.cons.inj h;rw[Jh0 d,f e]
theorem Qmx(l:List Rat)(q:Rat):rR (l++[q])=rR l++[rF q]:=by unfold rR;simp
theorem Yy{α:Type}{l:List α}{i:Nat}{x:α}(h:l[i]?=some x):l.take (i+1)=l.take i++[x]:=by rw[gc,h];rfl
def FRr(k:Nat)(l:List Qa):Prop:=∀ f∈l,Wd f.N/\Wd f.D/\f.N.length<=k/\f.D.length<=k
def rvr(l:List Qa):List Rat:=l.map fr
theorem Wr(l:List Qa):(rvr l).length=l.length:=by unfold rvr;simp
theorem fr_tF(f:Qa):fv (tF f)=fr f:=rfl
theorem Qaj(l:List Qa):rv (l.map tF)=rvr l:=by unfold rv rvr;rw[vo];rfl
theorem qw_fr{f:Qa}{k:Nat}(h:Wd f.N/\Wd f.D/\f.N.length<=k/\f.D.length<=k)(a:1<=k):qw (fr f)<=k:=by rw[<-fr_tF];exact qw_fv ⟨h.1,h.2.2.1,h.2.1,h.2.2.2⟩ a
theorem Qfy{k:Nat}{l:List Qa}(h:FRr k l)(a:1<=k):QR k (rvr l):=λq e=>by obtain⟨f,d,rfl⟩:=xd.1 e;exact qw_fr (h f d) a
theorem Qaq{n k:Nat}{l:List Qa}(hn:big<=n)(hk:k<1099511627776)(h:FRr k l)(d:l.length<=1000000):K8 n l=some (rR (rvr l)):=by
 unfold K8;rw[W1 (λi=>(rR (rvr (l.take i)),(i:Int))) l.length (rR (rvr l))];intro i hi;have hp:l[i]?=some l[i]:=oq hi;have a:=h l[i] (xb hi);generalize l[i]=p at hp a;simp only[bifd];have e:rvr (l.take (i+1))=rvr (l.take i)++[fr p]:=by rw[Yy hp];unfold rvr;simp
 rw[oo om,Je hp,sbind,Xb hn a.1 a.2.1 om om,sbind,Vt (by simp[J7,Wr];omega) (by simp[J7,Wr];omega),sbind,w1 om,e,Qmx];simp only[bifd];rw[ol om,xu];unfold big at hn;omega;rfl
open Classical in
theorem Qrt{n:Nat}{a b:List Qa}(hn:big<=n)(m:a.length<=1000000)(h:∀ f∈a,f.N.length<=4611686018427387904/\f.D.length<=4611686018427387904):Kz n a b=some (decide (a=b)):=by
 unfold Kz;by_cases j:a.length=b.length;rw[oi (show(a.length:Int)=(b.length:Int) by omega),ot,bifF];rw[Qkg (λi=>a[i]?=b[i]?) a.length (r:=false)];have e:(∀ i,i<a.length->a[i]?=b[i]?)↔a=b:=by constructor;intro g;refine List.ext_getElem? λi=>?_;rcases xo i a.length with hi | hi;exact g i hi;rw[xa hi,xa om];rintro rfl i _;rfl
 by_cases g:a=b;rw[oo (e.2 g),oi g];rw[ol (λh=>g (e.1 h)),oj g];intro i hi;have hp:a[i]?=some a[i]:=oq hi;have d:b[i]?=some (b[i]' om):=oq om;have l:=h a[i] (xb hi);generalize a[i]=x at hp l;generalize b[i]' om=y at d;simp only[bifd];rw[oo om,Je hp,sbind,Je d,sbind,Qm1 hn l.1 l.2,sbind,hp,d,w1 om];constructor;intro g;rw[oi (Option.some.inj g)];rfl;intro g;rw[oj (λh=>g (by rw[h]))];rfl;simp only[bifd];rw[ol om];unfold big at hn;omega;rw[oj (show ¬(a.length:Int)=(b.length:Int) by omega),ov,bifT,oj];intro g;exact j (by rw[g])
theorem Q3h{q:Rat}{k:Nat}(h:qw q<=k):(rF q).N.length<=k/\(rF q).D.length<=k:=by have:=Qex q;have:=Qhe q;exact⟨by show(toL q.num.natAbs).length<=k;omega,by show(toL q.den).length<=k;omega⟩
theorem Qf7{n k:Nat}{a b:List Rat}(hn:big<=n)(e:a.length<=1000000)(hk:k<274877906944)(h:QR k a):Kz n (rR a) (rR b)=some (decide (a=b)):=by
 classical
 rw[Qrt hn (by rw[J7];exact e) (λf d=>by
  obtain⟨q,i,rfl⟩:=xd.1 d;have:=Q3h (h q i)
  exact⟨om,om⟩)]
 exact yj some (gr.2 ⟨Jni,λh=>by rw[h]⟩)
def oF(x:Qc):Qa:=⟨x.Num.Neg,x.Num.A8,x.Den⟩
theorem Q2o(l:List Rat):(toR l).map oF=rR l:=by unfold toR rR;rw[vo];rfl
theorem Qtt(x:Qc):Y2 x=some (oF x):=rfl
theorem Qmi{n:Nat}{l:List Qc}(hn:big<=n)(a:l.length<=1000000):Y3 n l=some (l.map oF):=by unfold Y3;rw[W1 (λi=>((l.take i).map oF,(i:Int))) l.length (l.map oF)];intro i hi;have hp:l[i]?=some l[i]:=oq hi;generalize l[i]=p at hp;simp only[bifd,Qtt,sbind];rw[oo om,Je hp,sbind,Vt oh oh,sbind,w1 om,Qg8 oF hp];simp only[bifd];rw[ol om,xu];unfold big at hn;omega;rfl
theorem Qve{many k:Nat}{l:List Qa}(e:Km l)(h:FL many k l):FRr k l:=λx d=>by have a:=e.2 x d;have:=h.2 x d;exact⟨a.2.1.2,a.2.2.1.2,this.1,this.2⟩
def blkB(c:Nat):Bool:=decide (c=32\/c=9\/c=10\/c=13)
theorem Qnu{α:Type}(p:α->Bool):∀(l:List α),(l.dropWhile p).length<=l.length
 | []=>xn _
 | x::l=>by rw[List.dropWhile_cons];split;exact Nat.le_succ_of_le (Qnu p l);exact xn _
def wcons(w:Qo):List Qo ⊕ Nat->List Qo ⊕ Nat
 | .inl l=>.inl (w::l)
 | .inr p=>.inr p
def tailK(k:Int)(r:List UInt8):List UInt8:=r.takeWhile (λb=>goC k b.toNat)
def scanS:List UInt8->Nat->List Qo ⊕ Nat
 | [],_=>.inl []
 | c::r,i=>
   if blkB c.toNat then scanS r (i+1)
   else if c.toNat=35 then scanS (r.dropWhile (λb=>b.toNat≠10)) (i+1+(r.takeWhile (λb=>b.toNat≠10)).length)
   else if kindC c.toNat=0 then .inr i
   else if mostC (kindC c.toNat)<1+(tailK (kindC c.toNat) r).length then .inr (i+mostC (kindC c.toNat))
   else wcons ⟨kindC c.toNat,c::tailK (kindC c.toNat) r,i⟩ (scanS (r.drop (tailK (kindC c.toNat) r).length) (i+1+(tailK (kindC c.toNat) r).length))
termination_by s=>s.length
decreasing_by
 all_goals simp only[xm,uy]
 . omega
 . have:=Qnu (λb:UInt8=>decide (b.toNat≠10)) r;omega
 . omega
theorem Qs3(i:Nat):scanS [] i=.inl []:=by rw[scanS]
theorem Qru(c:UInt8)(r:List UInt8)(i:Nat):scanS (c::r) i =
 if blkB c.toNat then scanS r (i+1)
 else if c.toNat=35 then scanS (r.dropWhile (λb=>b.toNat≠10)) (i+1+(r.takeWhile (λb=>b.toNat≠10)).length)
 else if kindC c.toNat=0 then .inr i
 else if mostC (kindC c.toNat)<1+(tailK (kindC c.toNat) r).length then .inr (i+mostC (kindC c.toNat))
 else wcons ⟨kindC c.toNat,c::tailK (kindC c.toNat) r,i⟩ (scanS (r.drop (tailK (kindC c.toNat) r).length) (i+1+(tailK (kindC c.toNat) r).length)):=by rw[scanS]
def rstep(i:Nat)(c:UInt8)(b:List Qo×Bool):(List Qo×Bool) ⊕ (List Qo×Int):=
 let note:=if c.toNat=35 then true else if c.toNat=10 then false else b.2
 if note || blkB c.toNat then .inl (b.1,note)
 else match b.1.getLast? with
  | some w=>if w.At+w.Bc.length=i/\goC w.Ay c.toNat=true then
   (if w.Ay=0\/mostC w.Ay<w.Bc.length+1 then .inr ([],(i:Int)) else .inl (b.1.dropLast++[⟨w.Ay,w.Bc++[c],w.At⟩],note))
    else if kindC c.toNat=0 then .inr ([],(i:Int)) else .inl (b.1++[⟨kindC c.toNat,[c],i⟩],note)
  | none=>if kindC c.toNat=0 then .inr ([],(i:Int)) else .inl (b.1++[⟨kindC c.toNat,[c],i⟩],note)
def rscan(s:List UInt8)(i:Nat)(b:List Qo×Bool):List Qo×Int:=runG rstep (λb=>(b.1,(-1:Int))) s i b
theorem Q44(k:Int):1<=mostC k/\mostC k<=60:=by unfold mostC;grind
theorem Jk4{α:Type}{s:List α}{i:Nat}{x:α}(h:s[i]?=some x)(a:s.length<=4611686018427387904):sub s (i:Int) (wrap64 ((i:Int)+1))=some [x]:=by
 have hi:=K1 h;rw[w1 om,Jkl om om,W0 hi];have:s[i]=x:=by have:=oq hi;rw[h] at this;exact(Option.some.inj this).symm
 rw[this,List.drop_append_of_le_length oh,xf oh];rfl
theorem Q60{n:Nat}{s:List UInt8}(hn:big<=n):Qbz n s=some (if 4000<s.length then ([],4000) else rscan s 0 ([],false)):=by
 unfold Qbz;simp only[bifd];by_cases I:4000<s.length;rw[oo om,oo I];rw[ol om,ol I];have F:=hn;unfold big at hn;unfold rscan;refine Q4z (λb i=>(b.1,b.2,(i:Int))) rstep (λb=>b.1) _ (λi b=>b.1.length<=i/\∀ w∈b.1,0<=w.At/\w.At+w.Bc.length<=i) s ([],false) (λi c b G L=>?_) (λb _=>by simp) (λb _=>rfl) oc om;obtain⟨B,m⟩:=L;have hi:=K1 G;have C:=Jk4 G om;have M:getS s (i:Int)=some c.toNat:=by rw[Q2b,G];rfl
 obtain⟨out,note⟩:=b;simp only at B m;simp only[oo (show(i:Int)<(s.length:Int) by omega),jn_eq,M,sbind,C,Q6u F,Q6s,Q6t];have f:wrap64 ((i:Int)+1)=((i+1:Nat):Int):=w1 om;have hkeep:∀ J:Bool,rstep i c (out,note)=.inl (out,J)->∀ j:List Qo×Bool,rstep i c (out,note)=.inl j->j.1.length<=i+1/\∀ w∈j.1,0<=w.At/\w.At+w.Bc.length<=((i+1:Nat):Int):=by intro J h j a;rw[h] at a;cases a;exact⟨by simp only[];omega,λw E=>by have:=m w E;omega⟩
 by_cases e:c.toNat=35;have hr:rstep i c (out,note)=.inl (out,true):=by simp[rstep,e]
 refine⟨?_,hkeep true hr⟩;rw[hr];simp[e,f,toLpp];by_cases d:c.toNat=10;have hr:rstep i c (out,note)=.inl (out,false):=by simp[rstep,d,blkB]
 refine⟨?_,hkeep false hr⟩;rw[hr];simp[d,f,toLpp];cases note with
 | true=>
   have hr:rstep i c (out,true)=.inl (out,true):=by simp[rstep,d,e]
   refine⟨?_,hkeep true hr⟩;rw[hr];simp[d,e,f,toLpp]
 | false=>
   by_cases A:blkB c.toNat=true;have hr:rstep i c (out,false)=.inl (out,false):=by simp[rstep,d,e,A]
   refine⟨?_,hkeep false hr⟩;rw[hr];simp only[blkB,gz,d,false_or] at A;rcases A with h | h | h<;>simp[h,f,toLpp];have a:blkB c.toNat=false:=by simpa using A
   have g1:c.toNat≠32:=λh=>A (by simp[blkB,h]);have K:c.toNat≠9:=λh=>A (by simp[blkB,h]);have g3:c.toNat≠13:=λh=>A (by simp[blkB,h]);simp only[ol e,ol d,ol g1,ol K,bifF,oj g3]
   have r:((appM 32 out [(⟨kindC c.toNat,[c],(i:Int)⟩:Qo)]).bind λy596=>
    (getI y596 (wrap64 ((y596.length:Int) - 1))).bind λy598=>
     if y598.Ay=0 then bif true then some (Lp.out (Lp.out (([]:List Qo),(i:Int)))) else some (Lp.go (y596,false,wrap64 ((i:Int)+1)))
     else bif decide ((mostC y598.Ay:Int)<(y598.Bc.length:Int)) then some (Lp.out (Lp.out (([]:List Qo),(i:Int)))) else some (Lp.go (y596,false,wrap64 ((i:Int)+1)))) =
    some (toLpp (τ0:=List Qo) (λ(b:List Qo×Bool) i=>(b.1,b.2,(i:Int))) i (if kindC c.toNat=0 then .inr ([],(i:Int)) else .inl (out++[⟨kindC c.toNat,[c],i⟩],false))):=by
    rw[Vt oh oh,sbind,Qua om,sbind];by_cases h0:kindC c.toNat=0;simp only[h0,yn,bifT,toLpp];simp only[ol h0];rw[oj (by have:=(Q44 (kindC c.toNat)).1;simp;omega),f];rfl
   have q:∀ j:List Qo×Bool,(if kindC c.toNat=0 then (.inr ([],(i:Int)):(List Qo×Bool) ⊕ (List Qo×Int)) else .inl (out++[⟨kindC c.toNat,[c],i⟩],false))=.inl j ->
    j.1.length<=i+1/\∀ w∈j.1,0<=w.At/\w.At+w.Bc.length<=((i+1:Nat):Int):=by
    intro j h;by_cases h0:kindC c.toNat=0;rw[oo h0] at h;cases h;rw[ol h0] at h;cases h;refine⟨oh,λw E=>?_⟩;rcases ym.1 E with h | h;have:=m w h;omega;rw[xx.1 h];simp
   rcases jz out with rfl | ⟨l,w,rfl⟩;have hr:rstep i c ([],false)=(if kindC c.toNat=0 then .inr ([],(i:Int)) else .inl ([]++[⟨kindC c.toNat,[c],i⟩],false)):=by simp[rstep,d,e,a]
   rw[hr];refine⟨?_,q⟩;rw[ol oc];exact r;rw[ja] at *;have E:=m w oc;have N:l.length+1<=i:=by simpa using B
   have hlast:getI (l++[w]) (wrap64 (((l++[w]).length:Int) - 1))=some w:=Qua om
   have hr:rstep i c (l++[w],false)=(if w.At+w.Bc.length=i/\goC w.Ay c.toNat=true then
    (if w.Ay=0\/mostC w.Ay<w.Bc.length+1 then .inr ([],(i:Int)) else .inl (l++[⟨w.Ay,w.Bc++[c],w.At⟩],false))
    else if kindC c.toNat=0 then .inr ([],(i:Int)) else .inl (l++[w]++[⟨kindC c.toNat,[c],i⟩],false)):=by simp[rstep,d,e,a]
   rw[hr];rw[oo (show 0<((l++[w]).length:Int) by rw[yy,vv];omega)];simp only[hlast,sbind];rw[w64 om om];by_cases u:w.At+w.Bc.length=i;rw[oo u];by_cases x:goC w.Ay c.toNat=true;rw[oo ⟨u,x⟩];simp only[x,bifT];rw[Jkm oh,sbind,Jhp om,Qua om,sbind];by_cases h0:w.Ay=0;simp only[h0,yn,true_or,toLpp];exact⟨trivial,λj a=>by cases a⟩;by_cases H:mostC w.Ay<w.Bc.length+1;have hd:decide ((mostC w.Ay:Int)<((w.Bc++[c]).length:Int))=true:=oi oh;simp only[h0,yd,hd,bifT,false_or,oo H];exact⟨rfl,λj a=>by cases a⟩;have hd:decide ((mostC w.Ay:Int)<((w.Bc++[c]).length:Int))=false:=oj oh;simp only[h0,yd,hd,bifF,false_or,ol H,f];refine⟨rfl,λj a=>?_⟩;cases a;refine⟨oh,λv O=>?_⟩;rcases ym.1 O with h | h;have:=m v (by simp[h]);omega;rw[xx.1 h];simp;omega;rw[ol (λh=>x h.2)];simp only[show goC w.Ay c.toNat=false by simpa using x,bifF];exact⟨r,q⟩;rw[ol u,ol (λh=>u h.1)];exact⟨r,q⟩
def wsR(out:List Qo):List Qo ⊕ Nat->List Qo×Int
 | .inl a=>(out++a,-1)
 | .inr p=>([],(p:Int))
theorem Jk5(out ws):wsR out (.inl ws)=(out++ws,-1):=ut (ut rfl)
theorem Jk6(out p):wsR out (.inr p)=([],(p:Int)):=ut (ut rfl)
theorem Q9y(i b):rscan [] i b=(b.1,(-1:Int)):=ut (ut rfl)
theorem Qqd{c r i b a}(h:rstep i c b=.inl a):rscan (c::r) i b=rscan r (i+1) a:=by unfold rscan;simp only[runG,h]
theorem Q9z{c r i b t}(h:rstep i c b=.inr t):rscan (c::r) i b=t:=by unfold rscan;simp only[runG,h]
theorem Jc5{c:Nat}(h:kindC c≠0):blkB c=false/\c≠35:=by
 constructor;cases a:blkB c with
 | false=>rfl
 | true=>
   exfalso;apply h;simp only[blkB,gz] at a;rcases a with rfl | rfl | rfl | rfl<;>decide
 rintro rfl;exact h oz
theorem Jk7{k:Int}{c:Nat}(h:goC k c=true):kindC c≠0:=by unfold goC at h;unfold kindC;simp only[Bool.or_eq_true,ud] at h;rcases h with ⟨_,h⟩ | ⟨_,h | h⟩;rw[oo h];decide;rw[oo h];split<;>decide;rw[oo h];decide
theorem blk10:blkB 10=true:=oz
theorem Jc6:∀(s:List UInt8) (i:Nat) (out),rscan s i (out,true)=rscan (s.dropWhile (λb=>b.toNat≠10)) (i+(s.takeWhile (λb=>b.toNat≠10)).length) (out,true)
 | [],i,out=>rfl
 | c::s,i,out=>by
   rw[List.dropWhile_cons,vz];by_cases h:c.toNat=10;simp[h];simp only[ne_eq,h,not_false_eq_true,yw,yn,xm];have hr:rstep i c (out,true)=.inl (out,true):=by unfold rstep;simp only[h,yd];split<;>simp
   rw[Qqd hr,Jc6 s (i+1) out];rw[show i+((s.takeWhile (λb=>decide (b.toNat≠10))).length+1)=i+1+(s.takeWhile (λb=>decide (b.toNat≠10))).length by omega]
theorem Q90(l:List Qo)(w):(l++[w]).getLast?=some w:=oc
theorem Jgg{i:Nat}{c:UInt8}{l}{k:Int}{t:List UInt8}{a:Nat}(d:goC k c.toNat=true)(f:a+t.length=i)(hk:k≠0):
 rstep i c (l++[⟨k,t,a⟩],false)=if mostC k<t.length+1 then .inr ([],(i:Int)) else .inl (l++[⟨k,t++[c],a⟩],false):=by
 obtain⟨g1,e⟩:=Jc5 (Jk7 d);have g3:c.toNat≠10:=λh=>by rw[h,blk10] at g1;cases g1
 unfold rstep;simp only[ol e,ol g3,g1,Bool.or_self,vg,yd,Q90];rw[oo ⟨om,d⟩];simp only[hk,false_or,List.dropLast_concat]
theorem Jc7:∀(p s:List UInt8) (i:Nat) (l:List Qo) (k:Int) (t:List UInt8) (a:Nat),(∀ b∈p,goC k b.toNat=true)->a+t.length=i->k≠0->t.length<=mostC k ->
 rscan (p++s) i (l++[⟨k,t,a⟩],false)=if mostC k<t.length+p.length then ([],((a+mostC k:Nat):Int)) else rscan s (i+p.length) (l++[⟨k,t++p,a⟩],false)
 | [],s,i,l,k,t,a,_,_,_,m=>by rw[ol oh];simp
 | c::p,s,i,l,k,t,a,hp,f,hk,m=>by have d:=Jgg (l:=l) (hp c (.head _)) f hk;rw[yt];by_cases e:mostC k<t.length+1;rw[oo e] at d;rw[Q9z d,oo oh];rw[show i=a+mostC k by omega];rw[ol e] at d;rw[Qqd d,Jc7 p s (i+1) l k (t++[c]) a (λb j=>hp b (.tail _ j)) oh hk oh];simp only[yy,xm,xl,List.singleton_append,yh];rw[show t.length+(0+1)+p.length=t.length+(p.length+1) by omega,show i+1+p.length=i+(p.length+1) by omega]
def fresh(out:List Qo)(i:Nat)(s:List UInt8):Prop:=∀ w,out.getLast?=some w->w.At+w.Bc.length<=i/\∀ c r,s=c::r->w.At+w.Bc.length=(i:Int)->goC w.Ay c.toNat=false
theorem Q91{out:List Qo}{i j:Nat}{s s'}(h:fresh out i s)(f:i<j):fresh out j s':=λw a=>by obtain⟨d,_⟩:=h w a;exact⟨om,λc r _ e=>om⟩
theorem Jed{i:Nat}{c:UInt8}{r out}(e:fresh out i (c::r))(a:blkB c.toNat=false)(d:c.toNat≠35):
 rstep i c (out,false)=if kindC c.toNat=0 then .inr ([],(i:Int)) else .inl (out++[⟨kindC c.toNat,[c],i⟩],false):=by
 have g3:c.toNat≠10:=λh=>by rw[h,blk10] at a;cases a
 unfold rstep;simp only[ol d,ol g3,a,Bool.or_self,vg,yd];cases f:out.getLast? with
 | none=>rfl
 | some w=>
   obtain⟨k1,k2⟩:=e w f;simp only[];rw[ol (λh=>by have:=k2 c r rfl h.1;rw[h.2] at this;cases this)]
theorem Jh1(out w x):wsR out (wcons w x)=wsR (out++[w]) x:=by cases x<;>simp[wsR,wcons]
theorem Q3i:∀(m:Nat) (s:List UInt8) (i:Nat) (out),s.length<=m->fresh out i s->rscan s i (out,false)=wsR out (scanS s i)
 | _,[],i,out,_,_=>by rw[Q9y,Qs3];simp[wsR]
 | 0,_::_,_,_,h,_=>by simp at h
 | m+1,c::r,i,out,L,E=>by
   rw[Qru];have F:r.length<=m:=by simp at L;omega
   by_cases f:blkB c.toNat=true
   . rw[oo f]
     have a:c.toNat≠35:=λh=>by rw[h] at f;exact absurd f oz
     have x:rstep i c (out,false)=.inl (out,false):=by unfold rstep;simp only[ol a,f,Bool.or_true,yn];split<;>rfl
     rw[Qqd x];exact Q3i m r (i+1) out F (Q91 E om)
   . rw[ol f]
     have C:blkB c.toNat=false:=by simpa using f
     by_cases a:c.toNat=35
     . rw[oo a]
       have x:rstep i c (out,false)=.inl (out,true):=by unfold rstep;simp only[oo a,Bool.true_or,yn]
       rw[Qqd x,Jc6];have hd:=Qnu (λb:UInt8=>decide (b.toNat≠10)) r;generalize M:i+1+(r.takeWhile (λb=>decide (b.toNat≠10))).length=j;have K:i<j:=om
       cases B:r.dropWhile (λb=>decide (b.toNat≠10)) with
       | nil=>rw[Q9y,Qs3];simp[wsR]
       | cons d q=>
         have u:d.toNat=10:=by have:=List.head?_dropWhile_not (λb:UInt8=>decide (b.toNat≠10)) r;rw[B] at this;simpa using this
         have G:rstep j d (out,true)=.inl (out,false):=by unfold rstep;simp[u,blkB]
         rw[Qqd G,Qru,oo (by rw[u];decide)];rw[B] at hd;exact Q3i m q (j+1) out (by simp at hd;omega) (Q91 E om)
     . rw[ol a]
       have x:=Jed E C a;by_cases h0:kindC c.toNat=0
       . rw[oo h0] at x |-
         rw[Q9z x];rfl
       . rw[ol h0] at x |-
         rw[Qqd x];generalize hk:kindC c.toNat=k at *
         have A:∀ b∈tailK k r,goC k b.toNat=true:=λb f=>by have:=List.all_takeWhile (p:=λb:UInt8=>goC k b.toNat) (l:=r);exact(List.all_eq_true.1 this) b f
         have hsplit:r=tailK k r++r.drop (tailK k r).length:=by
          have I:=Qy0 (λb:UInt8=>goC k b.toNat) r;have J:tailK k r=r.take (tailK k r).length:=I
          conv=>lhs;rw[<-vm (tailK k r).length r]
          rw[<-J]
         have v:=Jc7 (tailK k r) (r.drop (tailK k r).length) (i+1) out k [c] i A oc h0 (Q44 k).1;rw[<-hsplit] at v;rw[v];simp only[vv,List.singleton_append];by_cases e:mostC k<1+(tailK k r).length
         . rw[oo e,oo e];rfl
         . rw[ol e,ol e,Jh1]
           refine Q3i m _ _ _ (by rw[uy];omega) ?_;intro w H;rw[Q90] at H;cases H;refine⟨oh,λd q B _=>?_⟩;have:r[(tailK k r).length]?=some d:=by
            have:=yj (λl=>l[0]?) B
            simpa using this
           exact Qtr (p:=λb:UInt8=>goC k b.toNat) this
theorem Q30{n:Nat}{s:List UInt8}(hn:big<=n):Qbz n s=some (if 4000<s.length then ([],4000) else wsR [] (scanS s 0)):=by rw[Q60 hn,Q3i s.length s 0 [] (xn _) (λw h=>by cases h)]
theorem Qs4:∀(m:Nat) (s:List UInt8) (i:Nat) (a),s.length<=m->scanS s i=.inl a->∀ w∈a,w.Bc.length<=s.length
 | _,[],i,a,_,h=>by rw[Qs3] at h;cases h;simp
 | 0,_::_,_,_,h,_=>by simp at h
 | m+1,c::r,i,a,x,h=>by
   have j:r.length<=m:=by simp at x;omega
   rw[Qru] at h;intro w q;rw[xm];by_cases u:blkB c.toNat=true;rw[oo u] at h;have:=Qs4 m r _ a j h w q;omega;rw[ol u] at h;by_cases d:c.toNat=35;rw[oo d] at h;have hd:=Qnu (λb:UInt8=>decide (b.toNat≠10)) r;have:=Qs4 m _ _ a om h w q;omega;rw[ol d] at h;by_cases h0:kindC c.toNat=0;rw[oo h0] at h;cases h;rw[ol h0] at h;by_cases e:mostC (kindC c.toNat)<1+(tailK (kindC c.toNat) r).length;rw[oo e] at h;cases h;rw[ol e] at h;cases f:scanS (r.drop (tailK (kindC c.toNat) r).length) (i+1+(tailK (kindC c.toNat) r).length) with
   | inr p=>rw[f] at h;cases h
   | inl l=>
     rw[f] at h;cases h;rcases xg.1 q with rfl | v;simp only[xm];have:(tailK (kindC c.toNat) r).length<=r.length:=Qvb _ _;omega;have:=Qs4 m _ _ l (by rw[uy];omega) f w v;rw[uy] at this;omega
theorem Q45(k:Int)(c:UInt8)(r:List UInt8):wdB k (c::r)=true↔k≠0/\kindC c.toNat=k/\r.all (λb=>goC k b.toNat)=true/\r.length+1<=mostC k:=by simp[wdB]
theorem Jh2{k:Int}{r:List UInt8}(h:r.all (λb=>goC k b.toNat)=true):tailK k r=r:=by have a:=Qpl.2 h;have d:=Qy0 (λb:UInt8=>goC k b.toNat) r;unfold tailK;rw[d,a,xu]
theorem Jjj{k:Int}{t:List UInt8}(h:wdB k t=true)(i:Nat):scanS t i=.inl [⟨k,t,i⟩]:=by
 cases t with
 | nil=>cases h
 | cons c r=>
   obtain⟨a,d,f,j⟩:=(Q45 k c r).1 h;obtain⟨g1,e⟩:=Jc5 (c:=c.toNat) (by rw[d];exact a);rw[Qru,ol (by rw[g1];decide),ol e,d,ol a,Jh2 f,ol om,List.drop_length,Qs3];rfl
theorem Q46{n:Nat}{w:Qo}(hn:big<=n):Qdf n w=some (wdB w.Ay w.Bc):=by
 unfold Qdf;rw[Q30 hn,sbind];by_cases m:4000<w.Bc.length;rw[oo m];have:wdB w.Ay w.Bc=false:=by
  cases q:w.Bc with
  | nil=>rfl
  | cons c r=>
    rw[q] at m;cases e:wdB w.Ay (c::r) with
    | false=>rfl
    | true=>have:=((Q45 _ c r).1 e).2.2.2;have:=(Q44 w.Ay).2;simp at m;omega
 rw[this];rfl;rw[ol m];cases e:wdB w.Ay w.Bc with
 | true=>rw[Jjj e];simp[wsR,jn_eq,getI]
 | false=>
   cases a:scanS w.Bc 0 with
   | inr p=>rw[Jk6];simp only[jn_eq,bifd];rw[ol om]
   | inl x=>
     rw[Jk5,uf];simp only[jn_eq,bifd];rw[oo oz]
     match x,a with
     | [],_=>rfl
     | [v],a=>
       simp only[show(([v].length:Nat):Int)=1 by rfl,yn,show getI [v] (0:Int)=some v by rfl,sbind];by_cases hk:v.Ay=w.Ay;rw[oo hk];by_cases f:v.Bc=w.Bc;exfalso;cases q:w.Bc with
       | nil=>rw[q,Qs3] at a;cases a
       | cons c r=>
         rw[q] at a e f;rw[Qru] at a;by_cases g1:blkB c.toNat=true;rw[oo g1] at a;have:=Qs4 r.length r _ _ (xn _) a v oc;rw[f] at this;simp at this;omega;rw[ol g1] at a;by_cases i:c.toNat=35;rw[oo i] at a;have hd:=Qnu (λb:UInt8=>decide (b.toNat≠10)) r;have:=Qs4 _ _ _ _ (xn _) a v oc;rw[f] at this;simp at this;simp at hd;omega;rw[ol i] at a;by_cases h0:kindC c.toNat=0;rw[oo h0] at a;cases a;rw[ol h0] at a;by_cases d:mostC (kindC c.toNat)<1+(tailK (kindC c.toNat) r).length;rw[oo d] at a;cases a;rw[ol d] at a;cases s:scanS (r.drop (tailK (kindC c.toNat) r).length) (0+1+(tailK (kindC c.toNat) r).length) with
         | inr p=>rw[s] at a;cases a
         | inl l=>
           rw[s] at a;simp only[wcons,Sum.inl.injEq,List.cons.injEq] at a;obtain⟨rfl,_⟩:=a;simp only at f hk;have j:tailK (kindC c.toNat) r=r:=(List.cons.inj f).2;have:wdB w.Ay (c::r)=true:=by rw[Q45,<-hk];refine⟨h0,rfl,?_,by rw[j] at d;omega⟩;exact Qpl.1 (by have:=yj List.length j;exact this)
           rw[this] at e;cases e
       simp[f];rw[ol hk]
     | v::u::l,_=>rw[ol oh]
theorem Q47{R:Type}{f:Int->Option (Lp Int (Lp Unit R))}{K:Unit->Option R}{n:Nat}(P:Nat->Prop)(r:Nat->R)(N:Nat)
 (u:∀ i,i<N->(P i->f (i:Int)=some (.go ((i+1:Nat):Int)))/\(¬ P i->f (i:Int)=some (.out (.out (r i))))) (v:f (N:Int)=some (.out (.go ()))) (hn:N<n) :
 ((∀ i,i<N->P i)/\(loopM f n 0).bind (lpK K)=K ())\/(¬(∀ i,i<N->P i)/\∃ j,(loopM f n 0).bind (lpK K)=some (r j)):=by
 have e:∀(m k n:Nat),k+m=N->m<n->((∀ i,k<=i->i<N->P i)/\(loopM f n (k:Int)).bind (lpK K)=K ())\/(¬(∀ i,k<=i->i<N->P i)/\∃ j,(loopM f n (k:Int)).bind (lpK K)=some (r j)):=by
  intro m
  induction m with
  | zero=>
    intro k n hk hn;obtain rfl:k=N:=om
    exact .inl ⟨λi q s=>om,by rw[Vs v om,xy,Xi]⟩
  | succ m w=>
    intro k n hk hn;obtain⟨l,rfl⟩:∃ l,n=l+1:=⟨n - 1,om⟩
    obtain⟨q,s⟩:=u k om;by_cases hp:P k;rw[Qb5 (q hp)];rcases w (k+1) l om om with ⟨g1,d⟩ | ⟨g1,d⟩;refine .inl ⟨λi a b=>?_,d⟩;rcases jl a with c | c;exact c ▸ hp;exact g1 i c b;exact .inr ⟨λh=>g1 λi a b=>h i om b,d⟩;exact .inr ⟨λh=>hp (h k (xn _) om),k,by rw[Vs (s hp) om,xy,Z0]⟩
 have:=e N 0 n om hn;simp only[ya,true_implies] at this;exact this
theorem Qtx(x a b:Int):K9 x a b=some (decide (a<=x/\x<=b)):=by unfold K9;simp only[jn_eq,bifd];by_cases h:a<=x;rw[oo h];simp[h];rw[ol h];simp[h]
theorem Qs5{a b:Qa}(h:tF a=tF b):a=b:=by obtain⟨s,x,d⟩:=a;obtain⟨t,y,e⟩:=b;unfold tF at h;simp only[] at h;cases h;rfl
theorem Qpc(q:Rat):tF (rF q)=toF q:=rfl
theorem Qc0{f:Qa}:rF (fr f)=f↔tF f=toF (fv (tF f)):=by rw[fr_tF,<-Qpc];exact⟨λh=>by rw[h],λh=>(Qs5 h).symm⟩
theorem Fk_wd{k:Nat}{f:Qa}(h:Fk k (tF f)):Wd f.N/\Wd f.D/\f.N.length<=k/\f.D.length<=k:=⟨h.1,h.2.2.1,h.2.1,h.2.2.2⟩
theorem Q48{n k:Nat}{f:Qa}{β:Type}(g:Bool->Option β)(hn:big<=n)(hk:k<274877906944)(a:1<=k)(h:Fk k (tF f)):((Jl n f).bind λr=>(Jt n r f).bind g)=g (dP (tF f=toF (fv (tF f)))):=by obtain⟨w1,e,j,l⟩:=Fk_wd h;have d:=qw_fr (Fk_wd h) a;have i:=Q3h d;rw[Xb hn w1 e om om,sbind,Qm1 hn om om,sbind,@decP _ (Classical.propDecidable _),dP_c Qc0]
theorem Q8r{n k i:Nat}{t:Q4}{x:Jv}(hn:big<=n)(hk:k<274877906944)(E:1<=k)(H:Fk k (tF x.N))(hi:i<1000000)
 (hd:-9223372036854775807<=t.A3) (F:t.A3<=9223372036854775807) (hp:-9223372036854775807<=t.A9) (G:t.A9<=9223372036854775807):Qch n x (i:Int) t.A3 t.A9=some (dP (mayR (tT t) i (tI x))):=by
 unfold Qch mayR;have eN:(tI x).N=tF x.N:=rfl;have eO:(tI x).Op=x.Op:=rfl;have eA:(tI x).A=x.A:=rfl;have eB:(tI x).B=x.B:=rfl;have eD:(tT t).A3=t.A3:=rfl;have eP:(tT t).A9=t.A9:=rfl;simp only[eN,eO,eA,eB,eD,eP];rw[bifd];by_cases c1:x.Op=1;rw[oo c1];simp only[oo c1,jn_eq,bifd];by_cases a:x.A=0;rw[oo a];by_cases b:x.B=0;rw[oo b,Q48 (λr=>some r) hn hk E H];exact Q3f ⟨λh=>⟨a,b,h⟩,λh=>h.2.2⟩;rw[ol b,dP_f λh=>b h.2.1];rw[ol a,dP_f λh=>a h.1];rw[ol c1];simp only[ol c1,jn_eq];have j:blankF (tF x.N)↔x.N.Neg=false/\x.N.N.length=0/\x.N.D.length=0:=by
  unfold blankF tF;exact⟨λh=>⟨h.1,yj List.length h.2.1,yj List.length h.2.2⟩,λh=>⟨h.1,ow h.2.1,ow h.2.2⟩⟩
 by_cases l:x.N.Neg=true;rw[l,bifT,bifT,dP_f λh=>by have:=(j.1 h.1).1;rw[l] at this;cases this];have f:x.N.Neg=false:=by simpa using l
 rw[f,bifF];simp only[bifd];by_cases w:(0:Int)<(x.N.N.length:Int);rw[oo w,bifT,dP_f λh=>by have:=(j.1 h.1).2.1;omega];rw[ol w];by_cases A:(0:Int)<(x.N.D.length:Int);rw[oo A,dP_f λh=>by have:=(j.1 h.1).2.2;omega];rw[ol A];have d:blankF (tF x.N):=j.2 ⟨f,om,om⟩;simp only[Qtx,sbind,bifd];have eR:rdT (tI x)=if x.Op=6\/x.Op=11 then [x.A] else if x.Op=7\/x.Op=8\/x.Op=9\/x.Op=10 then [x.A,x.B] else []:=rfl
 have w1:wrap64 (t.A3 - 1)=t.A3 - 1:=w64 om om;have B:wrap64 (t.A9 - 1)=t.A9 - 1:=w64 om om;have C:wrap64 ((i:Int) - 1)=(i:Int) - 1:=w64 om om;rw[eR,w1,B,C];clear w1 B C;by_cases m:x.Op=2;simp only[oo m];rw[ol (show ¬(x.Op=6\/x.Op=11) by omega),ol (show ¬(x.Op=7\/x.Op=8\/x.Op=9\/x.Op=10) by omega)];exact Qmu ⟨λh=>⟨d,λr hr=>(by cases hr),h⟩,λh=>h.2.2⟩;simp only[ol m];by_cases q:x.Op=3;simp only[oo q];rw[ol (show ¬(x.Op=6\/x.Op=11) by omega),ol (show ¬(x.Op=7\/x.Op=8\/x.Op=9\/x.Op=10) by omega)];exact Qmu ⟨λh=>⟨d,λr hr=>(by cases hr),om⟩,λh=>by have:=h.2.2;omega⟩;simp only[ol q];by_cases s:x.Op=4;simp only[oo s];rw[ol (show ¬(x.Op=6\/x.Op=11) by omega),ol (show ¬(x.Op=7\/x.Op=8\/x.Op=9\/x.Op=10) by omega)];exact Qmu ⟨λh=>⟨d,λr hr=>(by cases hr),om⟩,λh=>by have:=h.2.2;omega⟩;simp only[ol s];by_cases u:x.Op=6;simp only[oo u];rw[oo (show x.Op=6\/x.Op=11 by omega)];exact Qmu ⟨λh=>⟨d,λr hr=>(by rw[xx.1 hr];omega),h.2⟩,λh=>⟨by have:=h.2.1 x.A oc;omega,h.2.2⟩⟩;simp only[ol u];by_cases e:x.Op=11;simp only[oo e];rw[oo (show x.Op=6\/x.Op=11 by omega)];exact Qmu ⟨λh=>⟨d,λr hr=>(by rw[xx.1 hr];omega),h.2⟩,λh=>⟨by have:=h.2.1 x.A oc;omega,h.2.2⟩⟩;simp only[ol e];rw[ol (show ¬(x.Op=6\/x.Op=11) by omega)];by_cases v:7<=x.Op/\x.Op<=10;rw[oo v,oo (show x.Op=7\/x.Op=8\/x.Op=9\/x.Op=10 by omega)]
 exact Qmu ⟨λh=>⟨d,λr hr=>(by
  rcases xg.1 hr with rfl | hr;omega
  rw[xx.1 hr];omega),rfl⟩,λh=>⟨by have:=h.2.1 x.A oc;omega,by have:=h.2.1 x.B oc;omega⟩⟩
 rw[ol v,ol (show ¬(x.Op=7\/x.Op=8\/x.Op=9\/x.Op=10) by omega),dP_f λh=>by have:=h.2.2;simp at this]
theorem Qav{α β:Type}(f:α->β){l:List α}{i:Nat}{x:α}(h:l[i]?=some x):(l.map f)[i]?=some (f x):=by rw[yr,h];rfl
theorem Q49{n k:Nat}{t:Q4}(hn:big<=n)(hk:k<274877906944)(I:1<=k)(l:∀ x∈t.Code,Fk k (tF x.N))(_:t.Av.length<=1000000):
 ∃ v,Qde n t=some v/\(v=-1↔tapeR (tT t)):=by
 unfold Qde;simp only[jn_eq,Qtx,sbind,bifnd];have q:wholeR (tT t)↔((1<=t.A3/\t.A3<=6)/\(0<=t.A9/\t.A9<=6)/\(t.Av.length:Int)=t.A3/\t.Code.length<=300):=by unfold wholeR tT;simp only[ou]
 by_cases c1:1<=t.A3/\t.A3<=6
 case neg=>rw[ol c1];exact⟨-2,rfl,λh=>om,λh=>absurd (q.1 h.1).1 c1⟩
 rw[oo c1];by_cases u:0<=t.A9/\t.A9<=6
 case neg=>rw[ol u];exact⟨-2,rfl,λh=>om,λh=>absurd (q.1 h.1).2.1 u⟩
 rw[oo u];by_cases w:(t.Av.length:Int)=t.A3
 case neg=>rw[ol w];exact⟨-2,rfl,λh=>om,λh=>absurd (q.1 h.1).2.2.1 w⟩
 rw[oo w];by_cases H:(300:Int)<(t.Code.length:Int)
 . rw[oi H,bifT];exact⟨-2,rfl,λh=>om,λh=>by have:=(q.1 h.1).2.2.2;omega⟩
 rw[oj H,bifF];have E:wholeR (tT t):=q.2 ⟨c1,u,w,om⟩
 rcases Q47 (f:=λ(d:Int)=>
  bif decide (d<(t.Code.length:Int)) then (
   (getI t.Code d).bind λG=>
   (Qch n G d t.A3 t.A9).bind λF=>
   bif !F then (
    some (Lp.out (Lp.out (d))))
   else (
    some (Lp.go (wrap64 (d+(1:Int))))))
  else (
   some (Lp.out (Lp.go ())))) (n:=n) (K:=λ(_:Unit)=>
  (loopM (λ(a:Int)=>
   bif decide (a<(t.Av.length:Int)) then (
    (getI t.Av a).bind λe=>
    if (0<=e/\e<=(wrap64 ((t.Code.length:Int) - (1:Int)))) then (
     some (Lp.go (wrap64 (a+(1:Int)))))
    else (
     some (Lp.out (Lp.out ((t.Code.length:Int))))))
   else (
    some (Lp.out (Lp.go ())))) n (0:Int)).bind (lpK λ(_:Unit)=>
  some (-1:Int))) (λi=>∀ x,t.Code[i]?=some x->mayR (tT t) i (tI x)) (λi=>(i:Int)) t.Code.length (λi hi=>by
  have hp:t.Code[i]?=some t.Code[i]:=oq hi;have r:=l t.Code[i] (xb hi);generalize t.Code[i]=x at hp r;rw[oi om,bifT,Je hp,sbind,Q8r hn hk I r om om om om om,sbind,w1 om]
  exact⟨λh=>by rw[dP_t (h x hp)];rfl,λh=>by rw[dP_f λg=>h λy s=>by rw[hp] at s;cases s;exact g];rfl⟩) (by rw[oj om];rfl) (by unfold big at hn;omega) with ⟨g1,B⟩ | ⟨g1,j,B⟩
 . have m:∀(i:Nat) x,(tT t).Code[i]?=some x->mayR (tT t) i x:=by
    intro i x l;unfold tT at l;simp only[yr] at l;cases A:t.Code[i]? with
    | none=>rw[A] at l;cases l
    | some y=>rw[A] at l;cases l;exact g1 i (K1 A) y A
   rw[B]
   rcases Q47 (f:=λ(a:Int)=>
    bif decide (a<(t.Av.length:Int)) then (
     (getI t.Av a).bind λe=>
     if (0<=e/\e<=(wrap64 ((t.Code.length:Int) - (1:Int)))) then (
      some (Lp.go (wrap64 (a+(1:Int)))))
     else (
      some (Lp.out (Lp.out ((t.Code.length:Int))))))
    else (
     some (Lp.out (Lp.go ())))) (n:=n) (K:=λ(_:Unit)=>some (-1:Int)) (λi=>∀ o,t.Av[i]?=some o->0<=o/\o<(t.Code.length:Int)) (λ_=>(t.Code.length:Int)) t.Av.length (λi hi=>by
    have hp:t.Av[i]?=some t.Av[i]:=oq hi;generalize t.Av[i]=x at hp;rw[oi om,bifT,Je hp,sbind,w1 om,w64 om om]
    exact⟨λh=>by rw[oo (by have:=h x hp;omega)],λh=>by rw[ol (λg=>h λy s=>by rw[hp] at s;cases s;omega)]⟩) (by rw[oj om];rfl) (by unfold big at hn;omega) with ⟨g3,g4⟩ | ⟨g3,j,g4⟩
   . refine⟨-1,g4,λ_=>⟨E,m,λo C=>?_⟩,λ_=>rfl⟩
     obtain⟨i,hi⟩:=vf C;have:=g3 i (K1 hi) o hi;unfold tT;simp only[ou];exact this
   . refine⟨_,g4,λh=>om,λh=>absurd (λi hi o C=>?_) g3⟩
     have:=h.2.2 o (Jr C);unfold tT at this;simp only[ou] at this;exact this
 . refine⟨_,B,λh=>om,λh=>absurd (λi hi x l=>?_) g1⟩
   exact h.2.1 i (tI x) (Qav tI l)
def FKs(k:Nat)(l:List Qa):Prop:=∀ f∈l,Fk k (tF f)
theorem Qco{f:Qa}(h:numR (tF f)):rF (fr f)=f:=Qc0.2 h.1
theorem Qod{n k:Nat}{l:List Qa}(hn:big<=n)(hk:k<274877906944)(j:1<=k)(h:FKs k l)(v:l.length<=1000000):Zt n l=some (!dP (∀ f∈l,numR (tF f))):=by
 unfold Zt;rw[Qkg (λi=>∀ f,l[i]?=some f->numR (tF f)) l.length (r:=true)];have e:(∀ i,i<l.length->∀ f,l[i]?=some f->numR (tF f))↔∀ f∈l,numR (tF f):=by constructor;intro g f a;obtain⟨i,hi⟩:=vf a;exact g i (K1 hi) f hi;intro g i _ f a;exact g f (Jr a)
 by_cases g:∀ f∈l,numR (tF f);rw[oo (e.2 g),dP_t g];rfl;rw[ol (λh=>g (e.1 h)),dP_f g];rfl;intro i hi;have hp:l[i]?=some l[i]:=oq hi;have a:=h l[i] (xb hi);generalize l[i]=f at hp a;have u:(∀ g,l[i]?=some g->numR (tF g))↔numR (tF f):=⟨λg=>g f hp,λg y s=>by rw[hp] at s;cases s;exact g⟩
 rw[u,oi (show(i:Int)<(l.length:Int) by omega),bifT];simp only[jn_eq,Je hp,sbind];rw[Q48 _ hn hk j a,bifnP];unfold numR;by_cases c:tF f=toF (fv (tF f));rw[oo c];have hr:rF (fr f)=f:=Qc0.2 c;have m:=Qgx (q:=fr f) hn hk (qw_fr (Fk_wd a) j);rw[hr] at m;rw[m,sbind,fr_tF,w1 om];by_cases d:qz (fr f)<=190;exact⟨λ_=>by rw[oj om,bifF],λg=>absurd ⟨c,d⟩ g⟩;exact⟨λg=>absurd g.2 d,λ_=>by rw[oi om,bifT]⟩;rw[ol c];exact⟨λg=>absurd g.1 c,λ_=>rfl⟩;rw[oj om];rfl;unfold big at hn;omega
theorem Q8s{n k:Nat}{a:List Rat}(hn:big<=n)(m:1<=k)(hk:k<1048576)(d:QR k a)(u:a.length<=1000):Zv n (rR a)=some (rF (sumQ a)):=by
 unfold Zv;rw[Zp hn,sbind];rw[W1 (λi=>(rF (sumQ (a.take i)),(i:Int))) a.length (rF (sumQ a))];intro i hi;have hp:a[i]?=some a[i]:=oq hi;have j:=d a[i] (xb hi);generalize a[i]=x at hp j;have e:sumQ (a.take (i+1))=sumQ (a.take i)+x:=by rw[Yy hp];unfold sumQ;rw[List.foldl_append];rfl
 have r:=Qui (l:=a.take i) (b:=1) (z:=0) (λq f=>d q (yx f)) (by rw[Qab];exact xn _);have s:(a.take i).length*(k+1)<=1000*1048576:=gi oh om;rw[J7,oi (show(i:Int)<(a.length:Int) by omega),bifT,Je (Qim hp),sbind,V7 (k:=2000000000) hn om (by unfold sumQ;omega) om,sbind,e,w1 om];rw[J7,oj (show ¬(a.length:Int)<(a.length:Int) by omega),bifF,xu];unfold big at hn;omega;rfl
theorem Qnv{l:List Qa}(h:∀ f∈l,numR (tF f)):rR (rvr l)=l:=by
 unfold rR rvr;rw[vo]
 conv=>rhs;rw[<-List.map_id l]
 exact wj λf a=>Qco (h f a)
theorem Jc8{n k:Nat}{l:List Qa}{q:Rat}{β:Type}(g:Bool->Option β)(hn:big<=n)(d:1<=k)(hk:k<1048576)(h:FKs k l)(m:l.length<=8)(hr:∀ f∈l,numR (tF f)):
 ((Zv n l).bind λr=>(Jt n r (rF q)).bind g)=g (decide (sumQ (rvr l)=q)):=by
 have i:QR k (rvr l):=Qfy (λf j=>Fk_wd (h f j)) d;have s:=Qui (l:=rvr l) (b:=1) (z:=0) i (by rw[Qab];exact xn _);have u:(rvr l).length*(k+1)<=8*1048576:=gi (by rw[Wr];exact m) om;have e:=Q8s (a:=rvr l) hn d hk i (by rw[Wr];omega);rw[Qnv hr] at e;rw[e,sbind,Qej (k:=10000000) hn om (by unfold sumQ;omega),sbind]
structure SchWr(k:Nat)(s:Jo):Prop where
 a:∀ r∈s.A,FKs k r
 al:∀ r∈s.A,r.length<=1000000
 b:FKs k s.B
 bl:s.B.length<=1000000
 c:FKs k s.C
 cl:s.C.length<=1000000
 e:FKs k s.E
 el:s.E.length<=1000000
 nl:s.Bh.length<=1000000
theorem Qi9{l:List Qa}:(∀ x∈l.map tF,numR x)↔∀ f∈l,numR (tF f):=
 ⟨λh f a=>h (tF f) (ua a),λh x d=>by obtain⟨f,a,rfl⟩:=xd.1 d;exact h f a⟩
theorem Jc9{σ ρ:Type}{A:(σ->Option ρ)->Option ρ}{k:σ->Option ρ}{Q:ρ->Prop}(b:σ)(d:∀ a,A a=a b)(hk:∃ v,k b=some v/\Q v):∃ v,jn A k=some v/\Q v:=by rw[jn_eq,d];exact hk
theorem Q2p{R:Type}{f:Int->Option (Lp Int (Lp Unit R))}{K:Unit->Option R}{n:Nat}{Q:R->Prop}(P:Nat->Prop)(r:R)(N:Nat)
 (e:∀ i,i<N->(P i->f (i:Int)=some (.go ((i+1:Nat):Int)))/\(¬ P i->f (i:Int)=some (.out (.out r)))) (l:f (N:Int)=some (.out (.go ()))) (hn:N<n)
 (d:(∀ i,i<N->P i)->∃ v,K ()=some v/\Q v) (hr:¬(∀ i,i<N->P i)->Q r):∃ v,(loopM f n 0).bind (lpK K)=some v/\Q v:=by
 rcases Q47 (K:=K) P (λ_=>r) N e l hn with ⟨g1,a⟩ | ⟨g1,j,a⟩;rw[a];exact d g1;exact⟨r,a,hr g1⟩
theorem bifExN{ρ:Type}{b:Bool}{x:ρ}{y:Option ρ}{Q:ρ->Prop}(a:b=false->Q x)(d:b=true->∃ v,y=some v/\Q v):∃ v,(bif !b then some x else y)=some v/\Q v:=by cases b;exact⟨x,rfl,a rfl⟩;exact d rfl
theorem Ql4{s:Jo}:shapeR (tS s)↔((1<=s.B.length/\s.B.length<=8)/\s.C.length=s.B.length/\s.A.length=s.B.length/\(s.E.length=s.B.length\/s.E.length=0))/\∀ i,i<s.B.length->∀ r,s.A[i]?=some r->r.length=i:=by
 have eB:(tS s).B=s.B.map tF:=rfl;have eC:(tS s).C=s.C.map tF:=rfl;have eE:(tS s).E=s.E.map tF:=rfl;have eA:(tS s).A=s.A.map (·.map tF):=rfl;unfold shapeR;rw[eB,eC,eE,eA];simp only[ou];refine⟨λh=>⟨⟨h.1,h.2.1,h.2.2.1,h.2.2.2.1⟩,λi _ r hr=>?_⟩,λh=>⟨h.1.1,h.1.2.1,h.1.2.2.1,h.1.2.2.2,λi r hr=>?_⟩⟩;have:=h.2.2.2.2 i (r.map tF) (Qav _ hr);simpa using this;rw[yr] at hr;cases a:s.A[i]? with
 | none=>rw[a] at hr;cases hr
 | some y=>
   rw[a] at hr;cases hr;have:=h.2 i (by have:=K1 a;have:=h.1.2.2.1;omega) y a
   simpa using this
theorem Q5a{n k:Nat}{s:Jo}(hn:big<=n)(B:1<=k)(hk:k<1048576)(u:SchWr k s):∃ v,Qdg n s=some v/\(v=0↔schR (tS s)):=by
 unfold Qdg;rw[Q46 hn,sbind];simp only[];unfold schR;have eNm:(tS s).Bh=s.Bh:=rfl;have eB:(tS s).B=s.B.map tF:=rfl;have eC:(tS s).C=s.C.map tF:=rfl;have eE:(tS s).E=s.E.map tF:=rfl;have eA:(tS s).A=s.A.map (·.map tF):=rfl;rw[eNm];refine bifExN (λV=>⟨λh=>om,λh=>by rw[V] at h;exact absurd h.1 oz⟩) λV=>?_;refine Jc9 (!decide ((1<=s.B.length/\s.B.length<=8)/\s.C.length=s.B.length/\s.A.length=s.B.length/\(s.E.length=s.B.length\/s.E.length=0))) (λQ=>?_) ?_
 . simp only[bifd,bifnd]
   have tr:∀ {P:Prop}[Decidable P],¬ P->Q true=Q (!decide P):=λh=>by rw[oj h];rfl
   by_cases c1:(s.B.length:Int)<1
   . rw[oo c1];exact tr om
   rw[ol c1];by_cases W:(8:Int)<(s.B.length:Int)
   . rw[oo W];exact tr om
   rw[ol W];by_cases X:(s.C.length:Int)=(s.B.length:Int)
   case neg=>rw[ol X];exact tr om
   rw[oo X];by_cases Y:(s.A.length:Int)=(s.B.length:Int)
   case neg=>rw[ol Y];exact tr om
   rw[oo Y];by_cases Z:(s.E.length:Int)=0
   . rw[oo Z,oi om];rfl
   rw[ol Z];by_cases c6:(s.E.length:Int)=(s.B.length:Int)
   . rw[oi c6,oi om]
   . rw[oj c6];exact tr om
 refine bifExN (λw=>⟨λh=>om,λh=>absurd (Ql4.1 h.2.1).1 (jq w)⟩) λw=>?_;have w:=ue w;obtain⟨⟨b1,b2⟩,b3,b4,b5⟩:=w;have F:∀ i,i<s.B.length->∃ r,s.A[i]?=some r/\r∈s.A:=λi hi=>⟨s.A[i]' om,oq om,xb om⟩
 have J:∀ i,i<s.B.length->∃ r,s.C[i]?=some r/\r∈s.C:=λi hi=>⟨s.C[i]' om,oq om,xb om⟩
 have E:s.B.length<n:=by unfold big at hn;omega
 refine Q2p (λi=>∀ r,s.A[i]?=some r->r.length=i) 2 s.B.length (λi hi=>?_) ?_ E (λa=>?_) (λa=>⟨λh=>om,λh=>absurd (Ql4.1 h.2.1).2 a⟩)
 . obtain⟨r,hr,_⟩:=F i hi
   rw[oi (show(i:Int)<(s.B.length:Int) by omega),bifT,Je hr,sbind,w1 om];exact⟨λh=>by rw[oi (show(r.length:Int)=(i:Int) by have:=h r hr;omega)];rfl,λh=>by rw[oj (λg=>h λy A=>by rw[hr] at A;cases A;omega)];rfl⟩
 . rw[oj om];rfl
 have hShape:shapeR (tS s):=Ql4.2 ⟨⟨⟨b1,b2⟩,b3,b4,b5⟩,a⟩;refine Q2p (λi=>∀ r,s.A[i]?=some r->∀ f∈r,numR (tF f)) 3 s.B.length (λi hi=>?_) ?_ E (λj=>?_) (λj=>⟨λh=>om,λh=>absurd (λi hi r hr=>Qi9.1 (h.2.2.1.1 (r.map tF) (by rw[eA];exact ua (Jr hr)))) j⟩)
 . obtain⟨r,hr,K⟩:=F i hi
   rw[oi (show(i:Int)<(s.B.length:Int) by omega),bifT,Je hr,sbind,Qod hn om B (u.a r K) (u.al r K),sbind,w1 om];exact⟨λh=>by rw[dP_t (h r hr)];rfl,λh=>by rw[dP_f (λg=>h λy A=>by rw[hr] at A;cases A;exact g)];rfl⟩
 . rw[oj om];rfl
 refine Jc9 (!dP ((∀ f∈s.B,numR (tF f))/\(∀ f∈s.C,numR (tF f))/\∀ f∈s.E,numR (tF f))) (λQ=>?_) ?_
 . rw[Qod hn om B u.b u.bl,sbind]
   by_cases L:∀ f∈s.B,numR (tF f)
   case neg=>rw[dP_f L,dP_f (λh=>L h.1)];rfl
   rw[dP_t L,ot,bifF,Qod hn om B u.c u.cl,sbind];by_cases M:∀ f∈s.C,numR (tF f)
   case neg=>rw[dP_f M,dP_f (λh=>M h.2.1)];rfl
   rw[dP_t M,ot,bifF,Qod hn om B u.e u.el,sbind];by_cases N:∀ f∈s.E,numR (tF f)
   . rw[dP_t N,dP_t ⟨L,M,N⟩]
   . rw[dP_f N,dP_f (λh=>N h.2.2)]
 have hA:∀ r∈s.A,∀ f∈r,numR (tF f):=λr hr=>by obtain⟨i,hi⟩:=vf hr;exact j i (by have:=K1 hi;omega) r hi
 have R:∀ r∈(tS s).A,∀ x∈r,numR x:=λr hr=>by rw[eA] at hr;obtain⟨l,hl,rfl⟩:=xd.1 hr;exact Qi9.2 (hA l hl)
 refine bifExN (λG=>⟨λh=>om,λh=>?_⟩) λG=>?_
 . exfalso
   have O:=h.2.2.1.2;rw[eB,eC,eE] at O;rw[dP_t ⟨Qi9.1 (O _ oc),Qi9.1 (O _ oc),Qi9.1 (O _ oc)⟩] at G;cases G
 have G:=Jhr.1 G;obtain⟨n1,n2,n3⟩:=G
 have S:∀ r∈[(tS s).B,(tS s).C,(tS s).E],∀ x∈r,numR x:=λr hr=>by
  rw[eB,eC,eE] at hr;rcases xg.1 hr with rfl | hr
  . exact Qi9.2 n1
  rcases xg.1 hr with rfl | hr
  . exact Qi9.2 n2
  rcases xg.1 hr with rfl | hr
  . exact Qi9.2 n3
  cases hr
 have eRows:rowsR (tS s)↔∀ i,i<s.B.length->∀ r c,s.A[i]?=some r->s.C[i]?=some c->sumQ (rvr r)=fr c:=by
  unfold rowsR;rw[eA,eC];constructor
  . intro h i _ r c hr d
    have:=h i (r.map tF) (Qav _ hr);rw[Qaj,xh,Qav _ d] at this;exact this
  . intro h i r hr
    rw[yr] at hr;cases d:s.A[i]? with
    | none=>rw[d] at hr;cases hr
    | some y=>
      rw[d] at hr;cases hr;obtain⟨c,I,_⟩:=J i (by have:=K1 d;omega);rw[Qaj,xh,Qav _ I];exact h i (by have:=K1 d;omega) y c d I
 refine Q2p (λi=>∀ r c,s.A[i]?=some r->s.C[i]?=some c->sumQ (rvr r)=fr c) 4 s.B.length (λi hi=>?_) ?_ E (λm=>?_) (λm=>⟨λh=>om,λh=>absurd (eRows.1 h.2.2.2.1) m⟩)
 . obtain⟨r,hr,K⟩:=F i hi
   obtain⟨c,d,T⟩:=J i hi;have U:=Qco (n2 c T);have e:=λ(g:Bool->Option (Lp Int (Lp Unit Int)))=>Jc8 (q:=fr c) g hn B hk (u.a r K) (by have:=a i hi r hr;omega) (hA r K);rw[U] at e;rw[oi (show(i:Int)<(s.B.length:Int) by omega),bifT,Je hr,sbind];simp only[Je d,sbind];rw[e,w1 om];exact⟨λh=>by rw[oi (h r c hr d)];rfl,λh=>by rw[oj (λg=>h λy z A hz=>by rw[hr] at A;cases A;rw[d] at hz;cases hz;exact g)];rfl⟩
 . rw[oj om];rfl
 have hRows:=eRows.2 m;rw[Qrs hn,sbind,Jc8 _ hn B hk u.b om n1];have rB:rv (tS s).B=rvr s.B:=by rw[eB,Qaj]
 have rE:rv (tS s).E=rvr s.E:=by rw[eE,Qaj]
 have eE0:(tS s).E≠[]↔s.E≠[]:=by rw[eE];simp
 rw[rB,rE,eE0];refine bifExN (λH=>⟨λh=>om,λh=>absurd h.2.2.2.2.1 (jq H)⟩) λH=>?_;have H:=ue H;refine Jc9 (!dP (s.E≠[]->sumQ (rvr s.E)=1)) (λQ=>?_) ?_
 . by_cases C:s.E=[]
   . rw[C]
     rw[dP_t (λh=>absurd rfl h)];rfl
   . have:s.E.length≠0:=λh=>C (ow h)
     rw[oi (show(0:Int)<(s.E.length:Int) by omega),bifT,Jc8 _ hn B hk u.e om n3];by_cases g:sumQ (rvr s.E)=1
     . rw[oi g,dP_t (λ_=>g)]
     . rw[oj g,dP_f (λh=>g (h C))]
 cases C:dP (s.E≠[]->sumQ (rvr s.E)=1)
 . rw[ov,bifT]
   exact⟨6,rfl,λh=>om,λh=>by rw[dP_t h.2.2.2.2.2] at C;cases C⟩
 . rw[ot,bifF]
   exact⟨0,rfl,λ_=>⟨V,hShape,⟨R,S⟩,hRows,H,Jhr.1 C⟩,λ_=>rfl⟩
structure PrbWr(k:Nat)(p:Qq):Prop where
 t:∀ x∈p.Tape.Code,Fk k (tF x.N)
 o:p.Tape.Av.length<=1000000
 s:SchWr k p.Ap
 pk:FKs k p.P
 pl:p.P.length<=1000000
theorem Qps{n k:Nat}{p:Qq}(hn:big<=n)(f:1<=k)(hk:k<1048576)(hp:PrbWr k p):Z4 n p=some (dP (prbR (tP p))):=by
 unfold Z4 prbR;simp only[jn_eq];obtain⟨v,i,d⟩:=Q49 hn (show k<274877906944 by omega) f hp.t hp.o;obtain⟨u,j,e⟩:=Q5a hn f hk hp.s;have eT:(tP p).Tape=tT p.Tape:=rfl;have eS:(tP p).Ap=tS p.Ap:=rfl;have eP:((tP p).P.length:Int)=(p.P.length:Int):=by unfold tP;simp
 have eR:(tT p.Tape).A9=p.Tape.A9:=rfl;rw[i,sbind,eT,eS,eP,eR,bifd];by_cases c1:v=-1;rw[oo c1,j,sbind,bifd];by_cases a:u=0;rw[oo a];exact Qei ⟨λh=>⟨d.1 c1,e.1 a,h⟩,λh=>h.2.2⟩;rw[ol a,dP_f λh=>a (e.2 h.2.1)];rw[ol c1,dP_f λh=>c1 (d.2 h.1)]
theorem Qfk{l:List Rat}{r:Int}(a:0<=r)(d:r<(l.length:Int)):getI (rR l) r=some (rF (l.getD r.toNat 0)):=by
 obtain⟨k,rfl⟩:∃ k:Nat,r=(k:Int):=⟨r.toNat,om⟩
 have hk:k<l.length:=om
 rw[Qh0,yo,Qim (oq hk),xh,oq hk];rfl
theorem Q8t{t:Qr}{i:Nat}{x:Qz}(h:mayR t i x):x.Op=1\/x.Op=2\/x.Op=3\/x.Op=4\/x.Op=6\/x.Op=11\/x.Op=7\/x.Op=8\/x.Op=9\/x.Op=10:=by unfold mayR at h;by_cases c1:x.Op=1;exact .inl c1;rw[ol c1] at h;by_cases d:x.Op=2;omega;rw[ol d] at h;by_cases e:x.Op=3;omega;rw[ol e] at h;by_cases f:x.Op=4;omega;rw[ol f] at h;by_cases j:x.Op=6;omega;rw[ol j] at h;by_cases a:x.Op=11;omega;rw[ol a] at h;have:=h.2.2;unfold rdT at this;rw[ol om] at this;by_cases l:x.Op=7\/x.Op=8\/x.Op=9\/x.Op=10;omega;rw[ol l] at this;simp at this
theorem Jnj{t:Qr}{i:Nat}{x:Qz}(h:mayR t i x)(a:x.Op=1):x.N=toF (fv x.N):=by unfold mayR at h;rw[oo a] at h;exact h.2.2
theorem Qwr{n k:Nat}{t:Q4}{x:Jv}{T:Rat}{Y P done:List Rat}(hn:big<=n)(l:1<=k)(hk:k<1048576)(r:mayR (tT t) done.length (tI x))(B:Fk k (tF x.N))
 (F:qw T<=k) (E:QR k Y) (C:QR k P) (A:QR k done) (H:(Y.length:Int)=t.A3) (hp:(P.length:Int)=t.A9) :
 ∃ v,Y7 n x ⟨rF T,rR Y,rR P⟩ (rR done)=some (match opQ (tI x) T Y P done with | none=>(v,false) | some q=>(rF q,true))/\∀ q,opQ (tI x) T Y P done=some q->qw q<=8*k+1:=by
 unfold Y7 opQ Qe7;have eN:(tI x).N=tF x.N:=rfl;have eO:(tI x).Op=x.Op:=rfl;have eA:(tI x).A=x.A:=rfl;have eB:(tI x).B=x.B:=rfl;have s:=Qqb r;have dA:x.Op=6\/x.Op=11\/x.Op=7\/x.Op=8\/x.Op=9\/x.Op=10->getI (rR done) x.A=some (rF (done.getD x.A.toNat 0)):=λh=>Qfk (s _ (rdT_A (x:=tI x) h)).1 (s _ (rdT_A (x:=tI x) h)).2;have dB:x.Op=7\/x.Op=8\/x.Op=9\/x.Op=10->getI (rR done) x.B=some (rF (done.getD x.B.toNat 0)):=λh=>Qfk (s _ (rdT_B (x:=tI x) h)).1 (s _ (rdT_B (x:=tI x) h)).2;have qA:qw (done.getD x.A.toNat 0)<=k:=V4 A l;have qB:qw (done.getD x.B.toNat 0)<=k:=V4 A l;have m:=Q8t r;rw[eO] at m;simp only[eN,eO,eA,eB,jn_eq];generalize done.getD x.A.toNat 0=a at dA qA |-;generalize done.getD x.B.toNat 0=b at dB qB |-;rcases m with h | h | h | h | h | h | h | h | h | h
 . simp only[h,Int.reduceEq,yw,yg,bifT,bifF,yn,yd]
   have hr:rF (fr x.N)=x.N:=Qc0.2 (Jnj r h);have d:=qw_fr (Fk_wd B) l;refine⟨rF 0,by rw[fr_tF,hr],λq w=>?_⟩;have:q=fv (tF x.N):=(Option.some.inj w).symm;rw[this,fr_tF];omega
 . simp only[h,Int.reduceEq,yw,yg,bifT,bifF,yd]
   exact⟨rF 0,(by first | rfl | trivial),λq d=>by have:q=T:=(Option.some.inj d).symm;rw[this];omega⟩
 . obtain⟨a1,a2⟩:=Qyx r h
   have j:0<=x.A:=a1;have u:x.A<t.A3:=a2;have e:getI (rR Y) x.A=some (rF (Y.getD x.A.toNat 0)):=Qfk j om;simp only[h,Int.reduceEq,yw,yg,bifT,bifF,yn,yd,e,sbind];exact⟨rF 0,(by first | rfl | trivial),λq d=>by have:q=Y.getD x.A.toNat 0:=(Option.some.inj d).symm;rw[this];have:=V4 (i:=x.A.toNat) E l;omega⟩
 . obtain⟨a1,a2⟩:=Qyy r h
   have j:0<=x.A:=a1;have u:x.A<t.A9:=a2;have e:getI (rR P) x.A=some (rF (P.getD x.A.toNat 0)):=Qfk j om;simp only[h,Int.reduceEq,yw,yg,bifT,bifF,yn,yd,e,sbind];exact⟨rF 0,(by first | rfl | trivial),λq d=>by have:q=P.getD x.A.toNat 0:=(Option.some.inj d).symm;rw[this];have:=V4 (i:=x.A.toNat) C l;omega⟩
 . have e:=dA om
   simp only[h,Int.reduceEq,yw,yg,bifT,bifF,yn,yd,e,sbind,Qoc hn (show k<274877906944 by omega) qA];exact⟨rF 0,(by first | rfl | trivial),λq d=>by have:q=-a:=(Option.some.inj d).symm;rw[this,Qjz];omega⟩
 . have e:=dA om
   simp only[h,Int.reduceEq,yw,yg,bifT,bifF,yn,yd,e,sbind,Q8q hn (show k<1073741824 by omega) qA];refine⟨rF 0,?_,λq d=>?_⟩
   . split<;>rfl
   . split at d
     . cases d
     . rename_i G
       cases d;exact Qyw qA om
 . have e:=dA om
   have f:=dB om;simp only[h,Int.reduceEq,yw,yg,bifT,bifF,yn,yd,e,f,sbind,V7 hn (show k<274877906944 by omega) qA qB];exact⟨rF 0,(by first | rfl | trivial),λq d=>by have:q=a+b:=(Option.some.inj d).symm;rw[this];have:=Zn qA qB;omega⟩
 . have e:=dA om
   have f:=dB om;simp only[h,Int.reduceEq,yw,yg,bifT,bifF,yn,yd,e,f,sbind,Qh9 hn (show k<274877906944 by omega) qA qB];exact⟨rF 0,(by first | rfl | trivial),λq d=>by have:q=a - b:=(Option.some.inj d).symm;rw[this];have:=Qpa qA qB;omega⟩
 . have e:=dA om
   have f:=dB om;simp only[h,Int.reduceEq,yw,yg,bifT,bifF,yn,yd,e,f,sbind,V8 hn (show k<274877906944 by omega) qA qB];exact⟨rF 0,(by first | rfl | trivial),λq d=>by have:q=a*b:=(Option.some.inj d).symm;rw[this];have:=Wa qA qB;omega⟩
 . have e:=dA om
   have f:=dB om;simp only[h,Int.reduceEq,yg,bifT,bifF,yn,yd,e,f,sbind,Qgw,Qf6 hn (show k<274877906944 by omega) qA qB];by_cases h0:b=0
   . rw[oi h0,bifT,oo h0]
     exact⟨rF b,(by first | rfl | trivial),λq d=>by cases d⟩
   . rw[oj h0,bifF,ol h0]
     exact⟨rF b,(by first | rfl | trivial),λq d=>by have:q=a / b:=(Option.some.inj d).symm;rw[this];have:=Qj0 qA qB;omega⟩
theorem Qnw{α:Type}{l:List α}{i:Nat}{x:α}(h:l[i]?=some x):l.drop i=x::l.drop (i+1):=by have hi:=K1 h;rw[xi hi];congr 1;rw[oq hi] at h;exact Option.some.inj h
theorem Qws{n k:Nat}{t:Q4}{T:Rat}{Y P:List Rat}{lim:Int}(hn:big<=n)(h1:129<=k)(hk:k<1048576)(W:tapeR (tT t))(R:∀ c∈t.Code,Fk k (tF c.N))
 (U:qw T<=k) (V:QR k Y) (S:QR k P) (X:(Y.length:Int)=t.A3) (hp:(P.length:Int)=t.A9) (hg:lim<=4096) :
 Y8 n t ⟨rF T,rR Y,rR P⟩ lim=some (match runQ lim T Y P (tT t).Code 0 [] with | .inl e=>([],e.1,(e.2:Int)) | .inr l=>(rR l,0,0)):=by
 obtain⟨⟨c1,c2,c3,M⟩,m1,m2⟩:=W;have O:t.Code.length<=300:=by unfold tT at M;simpa using M
 have eC:(tT t).Code=t.Code.map tI:=rfl;unfold Y8
 have H:∀(m i f:Nat) (done:List Rat),i+m=t.Code.length->m<f->done.length=i->QR k done ->
  (loopM (λ(a:(List Qa)×Int)=>
  bif decide (a.2<(t.Code.length:Int)) then (
   (getI t.Code a.2).bind λK=>
   (Y7 n K ⟨rF T,rR Y,rR P⟩ a.1).bind λd=>
   bif !d.2 then (
    some (Lp.out (Lp.out ((([]:List Qa),(3:Int),a.2)))))
   else (
    (Ki n d.1 lim).bind λI=>
    bif !I then (
     some (Lp.out (Lp.out ((([]:List Qa),(6:Int),a.2)))))
    else (
     (appM 56 a.1 ([d.1]:List Qa)).bind λL=>
     some (Lp.go (L,wrap64 (a.2+(1:Int)))))))
  else (
   some (Lp.out (Lp.go a.1)))) f (rR done,(i:Int))).bind (lpK λ(J:(List Qa))=>some (J,(0:Int),(0:Int)))=some (match runQ lim T Y P ((tT t).Code.drop i) i done with | .inl e=>([],e.1,(e.2:Int)) | .inr l=>(rR l,0,0)):=by
  intro m
  induction m with
  | zero=>
    intro i f done hi B hd E;rw[Vs (t:=Lp.go (rR done)) (by simp only[];rw[oj om];rfl) om,xy,Xi,eC,xf oh];rfl
  | succ m Z=>
    intro i f done hi B hd E;obtain⟨n'',rfl⟩:∃ n'',f=n''+1:=⟨f - 1,om⟩
    have u:t.Code[i]?=some (t.Code[i]' om):=oq om;have r:=R (t.Code[i]' om) (xb om);generalize t.Code[i]' om=x at u r;have w:(tT t).Code[i]?=some (tI x):=by rw[eC];exact Qav tI u
    have s:=m1 i (tI x) w;obtain⟨v,j,Q⟩:=Qwr (T:=T) (Y:=Y) (P:=P) (done:=done) hn om hk (by rw[hd];exact s) r U V S E X hp;rw[Qnw w];simp only[runQ];cases C:opQ (tI x) T Y P done with
    | none=>
      rw[C] at j
      rw[Vs (t:=Lp.out ([],3,(i:Int))) (by
       simp only[]
       rw[oi (show(i:Int)<(t.Code.length:Int) by omega),bifT,Je u,sbind,j,sbind];rfl) om,xy,Z0]
    | some q=>
      rw[C] at j;have F:=Q q C;have N:Ki n (rF q) lim=some (decide ((qz q:Int)<=lim)):=by unfold Ki;rw[Qgx (k:=8*k+1) hn om F,sbind]
      by_cases A:(qz q:Int)<=lim
      . have hq129:qw q<=129:=by have:=qw_qz (q:=q) (b:=4096) om;omega
        rw[Qb5 (s':=(rR (done++[q]),((i+1:Nat):Int))) (by
         simp only[];rw[oi (show(i:Int)<(t.Code.length:Int) by omega),bifT,Je u,sbind,j,sbind];simp only[]
         rw[ot,bifF,N,sbind,oi A,ot,bifF,Vt (by simp[J7];omega) (by simp[J7];omega),sbind,w1 om,Qmx])]
        rw[Z (i+1) n'' (done++[q]) om om oh (λz G=>by
         rcases ym.1 G with h | h
         . exact E z h
         . rw[xx.1 h];omega)]
        simp only[];rw[oo A]
      . rw[Vs (t:=Lp.out ([],6,(i:Int))) (by
         simp only[];rw[oi (show(i:Int)<(t.Code.length:Int) by omega),bifT,Je u,sbind,j,sbind];simp only[]
         rw[ot,bifF,N,sbind,oj A,ov,bifT]) om,xy,Z0]
        simp only[];rw[ol A]
 have:=H t.Code.length 0 n [] om (by unfold big at hn;omega) rfl (λ_ h=>by cases h);rw[gy] at this;exact this
theorem Qwt{n:Nat}{t:Q4}{l:List Rat}(hn:big<=n)(e:t.Av.length<=1000000)(d:∀ o∈t.Av,0<=o/\o<(l.length:Int)):Y9 n t (rR l)=some (rR (t.Av.map λo=>l.getD o.toNat 0)):=by unfold Y9;rw[W1 (λi=>(rR ((t.Av.take i).map λo=>l.getD o.toNat 0),(i:Int))) t.Av.length (rR (t.Av.map λo=>l.getD o.toNat 0))];intro i hi;have hp:t.Av[i]?=some t.Av[i]:=oq hi;have a:=d t.Av[i] (xb hi);generalize t.Av[i]=o at hp a;rw[oi (show(i:Int)<(t.Av.length:Int) by omega),bifT,Je hp,sbind,Qfk a.1 a.2,sbind,Vt (by simp[J7];omega) (by simp[J7];omega),sbind,w1 om,Yy hp,yf,List.map_singleton,Qmx];rw[oj om,bifF,xu];unfold big at hn;omega;rfl
theorem Qad{n k:Nat}{l:List Rat}{lim:Int}(hn:big<=n)(hk:k<274877906944)(A:QR k l)(B:l.length<=1000000):
 Jz n (rR l) lim=some (match fitQ lim l 0 with | none=>(l.length:Int) | some j=>(j:Int)):=by
 unfold Jz
 have s:∀(m i d:Nat),i+m=l.length->m<d->(loopM (λ(a:Int)=>
  bif decide (a<((rR l).length:Int)) then (
   (getI (rR l) a).bind λv=>
   (Ki n v lim).bind λu=>
   bif !u then (
    some (Lp.out (Lp.out (a))))
   else (
    some (Lp.go (wrap64 (a+(1:Int))))))
  else (
   some (Lp.out (Lp.go ())))) d (i:Int)).bind (lpK λ(_:Unit)=>some ((rR l).length:Int))=some (match fitQ lim (l.drop i) i with | none=>(l.length:Int) | some j=>(j:Int)):=by
  intro m
  induction m with
  | zero=>
    intro i d hi r;rw[Vs (t:=Lp.go ()) (by simp only[J7];rw[oj om];rfl) om,xy,Xi,xf om,J7];rfl
  | succ m C=>
    intro i d hi r;obtain⟨n'',rfl⟩:∃ n'',d=n''+1:=⟨d - 1,om⟩
    have e:l[i]?=some (l[i]' om):=oq om;have x:=A (l[i]' om) (xb om);generalize l[i]' om=q at e x;have w:Ki n (rF q) lim=some (decide ((qz q:Int)<=lim)):=by unfold Ki;rw[Qgx (k:=k) hn om x,sbind]
    rw[Qnw e];simp only[fitQ];by_cases f:(qz q:Int)<=lim
    rw[Qb5 (s':=((i+1:Nat):Int)) (by
     simp only[J7]
     rw[oi (show(i:Int)<(l.length:Int) by omega),bifT,Je (Qim e),sbind,w,sbind,oi f,ot,bifF,w1 om]),C (i+1) n'' om om,oo f]
    rw[Vs (t:=Lp.out (i:Int)) (by
     simp only[J7]
     rw[oi (show(i:Int)<(l.length:Int) by omega),bifT,Je (Qim e),sbind,w,sbind,oj f,ov,bifT]) om,xy,Z0,ol f]
 have:=s l.length 0 n om (by unfold big at hn;omega);rw[gy] at this;exact this
def mixI:List Rat->List (List Rat)->Nat->Rat->Rat
 | c::cs,a::l,i,z=>mixI cs l i (z+c*a.getD i 0)
 | _,_,_,z=>z
theorem Q2q:∀ {cs:List Rat}{l:List (List Rat)}{i:Nat}{z:Rat}{c a},cs.length=l.length->mixI (cs++[c]) (l++[a]) i z=mixI cs l i z+c*a.getD i 0
 | [],[],i,z,c,a,_=>rfl
 | [],_::_,_,_,_,_,h=>by simp at h
 | _::_,[],_,_,_,_,h=>by simp at h
 | x::cs,y::l,i,z,c,a,h=>by simp only[yt,mixI];exact Q2q (by simpa using h)
theorem Qqe{l:List Rat}{i:Nat}{x:Rat}(h:l[i]?=some x):l.getD i 0=x:=by rw[xh,h];rfl
theorem Jjk{g:Rat->Rat->Rat}{a z:List Rat}{i m:Nat}(f:a.length=m)(j:z.length=m)(hi:i<m):(List.zipWith g a z).getD i 0=g (a.getD i 0) (z.getD i 0):=by have d:a[i]?=some a[i]:=oq om;have e:z[i]?=some z[i]:=oq om;rw[Qqe d,Qqe e,xh,List.getElem?_zipWith,d,e];rfl
theorem Q5b{m i:Nat}(hi:i<m):∀ {cs:List Rat}{l:List (List Rat)}{z:List Rat},(∀ a∈l,a.length=m)->z.length=m->(mixQ cs l z).getD i 0=mixI cs l i (z.getD i 0)
 | [],_,z,_,_=>by simp only[mixQ,mixI]
 | _::_,[],z,_,_=>by simp only[mixQ,mixI]
 | c::cs,a::l,z,d,j=>by simp only[mixQ,mixI];have e:=d a (.head _);rw[Q5b hi (λb f=>d b (.tail _ f)) oh,Jjk e j hi]
theorem Quk{j k:Nat}:∀ {cs:List Rat}{l:List (List Rat)}{i:Nat}{z:Rat}{b:Nat},1<=k->QR j cs->(∀ a∈l,QR k a)->qw z<=b->qw (mixI cs l i z)<=b+l.length*(j+k+1)
 | [],_,i,z,b,_,_,_,h=>by simp only[mixI];omega
 | _::_,[],i,z,b,_,_,_,h=>by simp only[mixI];omega
 | x::cs,y::l,i,z,b,d,e,f,h=>by simp only[mixI];have m:=Zn h (Wa (e x (.head _)) (V4 (i:=i) (f y (.head _)) d));have:=Quk (i:=i) d (λq s=>e q (.tail _ s)) (λa r=>f a (.tail _ r)) m;rw[xm,vk];omega
theorem Jjl{H:Rat}{Y c:List Rat}{kss:List (List Rat)}{i:Nat}{y:Rat}(hk:∀ a∈kss,a.length=Y.length)(e:Y[i]?=some y):(fromQ H Y c kss)[i]?=some (y+H*mixI c kss i 0):=by
 have hi:=K1 e;have f:(mixQ c kss (List.replicate Y.length 0)).length=Y.length:=Ql3 hk oc;have d:(mixQ c kss (List.replicate Y.length 0))[i]?=some (mixI c kss i 0):=by have:=Q5b (cs:=c) hi hk (show(List.replicate Y.length (0:Rat)).length=Y.length by simp);rw[Qqe (l:=List.replicate Y.length (0:Rat)) (x:=0) (by simp[hi])] at this;rw[<-this,xh,oq om];rfl
 unfold fromQ towQ addQ scaleQ;rw[List.getElem?_zipWith,e,yr,d];rfl
def rRR(l:List (List Rat)):List (List Qa):=l.map rR
theorem Qlo(l:List (List Rat)):(rRR l).length=l.length:=by unfold rRR;simp
theorem Qvf(l:List (List Rat))(a:List Rat):rRR (l++[a])=rRR l++[rR a]:=by unfold rRR;simp
theorem Qsl{l:List (List Rat)}{i:Nat}{a:List Rat}(h:l[i]?=some a):(rRR l)[i]?=some (rR a):=by unfold rRR;exact Qav rR h
theorem Q8u{n k i m:Nat}{H:Rat}{c:List Rat}{kss:List (List Rat)}(hn:big<=n)(h0:129<=k)(hk:k<16384)(J:qw H<=k)(s:QR k c)(f:∀ a∈kss,QR 129 a)(F:kss.length<=8)(u:c.length=kss.length)(v:∀ a∈kss,a.length=m)(hi:i<m):
 Qct n (rR c) (rRR kss) (i:Int) (rF H)=some (rF (H*mixI c kss i 0)):=by
 unfold Qct;rw[Zp hn,sbind];rw[W1 (λj=>(rF (mixI (c.take j) (kss.take j) i 0),(j:Int))) c.length (rF (mixI c kss i 0))];have G:=Quk (i:=i) (z:=0) (b:=1) om s f (by rw[Qab];exact xn _);have E:kss.length*(k+129+1)<=8*(k+129+1):=xt _ F;rw[V8 (k:=20*k) hn om om om,sbind];intro j B;have d:c[j]?=some c[j]:=oq B;have e:kss[j]?=some (kss[j]' om):=oq om;have A:=s c[j] (xb B);have C:=f (kss[j]' om) (xb om);have I:=v (kss[j]' om) (xb om);generalize c[j]=x at d A;generalize kss[j]' om=a at e C I;have r:=V4 (i:=i) C om;have K:=Wa A r;have G:=Quk (i:=i) (z:=0) (b:=1) (cs:=c.take j) (l:=kss.take j) (j:=k) (k:=129) om (λq h=>s q (yx h)) (λa h=>f a (yx h)) (by rw[Qab];exact xn _);have E:(kss.take j).length*(k+129+1)<=8*(k+129+1):=xt _ oh;rw[Yy d,Yy e,Q2q oh];simp only[jn_eq];rw[J7,oi (show(j:Int)<(c.length:Int) by omega),bifT,Je (Qim d),sbind,Qgw,sbind];by_cases w:x=0;rw[oi w,ot,bifF,w1 om,w,Rat.zero_mul,wx];rw[oj w,ov,bifT,sbind,Je (Qsl e),sbind,Qfk om om,sbind,yo,V8 (k:=k) hn om A om,sbind,V7 (k:=20*k) hn om om om,sbind,w1 om];rw[J7,oj om,bifF,xu,u,xu];unfold big at hn;omega;rfl
theorem Qgy{n k:Nat}{H:Rat}{Y c:List Rat}{kss:List (List Rat)}(hn:big<=n)(h0:129<=k)(hk:k<16384)(u:qw H<=k)(x:QR k Y)(v:QR k c)(f:∀ a∈kss,QR 129 a)(w:kss.length<=8)(m:c.length=kss.length)(d:∀ a∈kss,a.length=Y.length)(F:Y.length<=1000):
 Kw n (rR Y) (rR c) (rRR kss) (rF H)=some (rR (fromQ H Y c kss)):=by
 unfold Kw;have q:=Qha (H:=H) (Y:=Y) (c:=c) d;have s:=λi=>Quk (i:=i) (z:=0) (b:=1) (cs:=c) (l:=kss) (j:=k) (k:=129) om v f (by rw[Qab];exact xn _);have E:kss.length*(k+129+1)<=8*(k+129+1):=xt _ w;rw[W1 (λi=>(rR ((fromQ H Y c kss).take i),(i:Int))) Y.length (rR (fromQ H Y c kss))];intro i hi;have e:Y[i]?=some Y[i]:=oq hi;have C:=x Y[i] (xb hi);generalize Y[i]=y at e C;have A:=Jjl (H:=H) (c:=c) d e;have r:=s i;have B:=Wa u r;rw[J7,oi (show(i:Int)<(Y.length:Int) by omega),bifT,Je (Qim e),sbind,Q8u hn h0 hk u v f w m d hi,sbind,V7 (k:=22*k) hn om om om,sbind,Vt (by simp[J7];omega) (by simp[J7];omega),sbind,w1 om,Yy A,Qmx];rw[J7,oj om,bifF,<-q,xu];unfold big at hn;omega;rfl
theorem Qy8{n k:Nat}{s:Jo}(hn:big<=n)(q:1<=k)(hk:k<1048576)(u:SchWr k s)(B:∀ f∈s.B,numR (tF f))(C:∀ f∈s.E,numR (tF f))(j:s.E.length=s.B.length)(r:s.B.length<=8)(m:s.E≠[]):
 Zw n s=some (rR (gapQ (tS s))):=by
 have eE0:(tS s).E≠[]:=by show s.E.map tF≠[];simpa using m
 have eB:rv (tS s).B=rvr s.B:=Qaj s.B;have eE:rv (tS s).E=rvr s.E:=Qaj s.E;have A:gapQ (tS s)=List.zipWith (λb e=>b - e) (rvr s.B) (rvr s.E):=by unfold gapQ addQ scaleQ;rw[ol eE0,eB,eE,jt];congr 1;funext b e;grind
 have qB:QR k (rvr s.B):=Qfy (λf l=>Fk_wd (u.b f l)) q;have qE:QR k (rvr s.E):=Qfy (λf l=>Fk_wd (u.e f l)) q;have rB:=Qnv B;have rE:=Qnv C;have lB:=Wr s.B;have lE:=Wr s.E;unfold Zw;rw[A];generalize rvr s.B=b at *;generalize rvr s.E=e at *;rw[<-rB,<-rE];rw[<-rB] at lB r j;rw[<-rE] at lE j;rw[J7] at r j;rw[J7] at j;rw[W1 (λi=>(rR ((List.zipWith (λb e=>b - e) b e).take i),(i:Int))) b.length (rR (List.zipWith (λb e=>b - e) b e))];intro i hi;have a:b[i]?=some b[i]:=oq hi;have d:e[i]?=some (e[i]' om):=oq om;have v:=qB b[i] (xb hi);have w:=qE (e[i]' om) (xb om);generalize b[i]=x at a v;generalize e[i]' om=y at d w;have E:(List.zipWith (λb e=>b - e) b e)[i]?=some (x - y):=by rw[List.getElem?_zipWith,a,d]
 simp only[jn_eq,J7];rw[oi (show(i:Int)<(e.length:Int) by omega),bifT,oi (show(i:Int)<(b.length:Int) by omega),bifT,Je (Qim a),sbind,Je (Qim d),sbind,Qh9 (k:=k) hn om v w,sbind,Vt (by simp[J7];omega) (by simp[J7];omega),sbind,w1 om,Yy E,Qmx];simp only[jn_eq,J7];rw[oj (show ¬(b.length:Int)<(e.length:Int) by omega),bifF,bifF];have:(List.zipWith (λb e=>b - e) b e).length=b.length:=oh
 rw[<-this,xu];unfold big at hn;omega;rfl
end Go.Proofs.YtbdgngdpkdagoabGreatDoor
