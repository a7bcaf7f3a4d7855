import Derived.Test.YtlfphifbmoccgaaGreatDoorP1
namespace Go.Proofs.YtlfphifbmoccgaaGreatDoor
open Go Go.RowKit
def sumQ(l:List Rat):Rat:=l.foldl (λo x=>o+x) 0
theorem Qmm{k:Nat}:∀ {l:List Rat}{b:Nat}{z:Rat},QR k l->qw z≤b->qw (l.foldl (λo x=>o+x) z)≤b+l.length*(k+1)
 | [],b,z,_,h=>by simpa using h
 | x::l,b,z,hl,h=>by rw[List.foldl_cons];have:=Qmm (l:=l) (λq hq=>hl q (.tail _ hq)) (Qb3 h (hl x (.head _)));rw[List.length_cons,Nat.succ_mul];omega
theorem Qoe{n k:Nat}{a:List Qb}(hn:big≤n)(h1:1≤k)(hk:k<1048576)(ha:FR k a)(hl:a.length≤1000):Qbk n a=some (toF (sumQ (rv a))):=by
 unfold Qbk;rw[Qan hn,sbind,Qix (λi=>toF ((rv (a.take i)).foldl (λo x=>o+x) 0)) a,Xf,List.take_length];rfl;intro i x hx;have hi:=Kb hx;have e1:a.take (i+1)=a.take i++[x]:=by rw[List.take_add_one,hx];rfl
 have e3:rv (a.take (i+1))=rv (a.take i)++[fv x]:=by unfold rv;rw[e1,List.map_append];rfl
 have hb:=Qmm (l:=rv (a.take i)) (b:=1) (z:=0) (QR_rv (λy hy=>ha y (List.mem_of_mem_take hy)) h1) (by rw[Qam];exact Nat.le_refl _);have hc:(rv (a.take i)).length*(k+1)≤1000*1048576:=Nat.mul_le_mul (by rw[Ju];simp;omega) (by omega);rw[Qa4 (k:=2000000000) hn (by omega) (by omega) (V0 (by omega)) (Wh (ha x (Kj hx)) (by omega)),sbind,e3,List.foldl_append,Jz];rfl;rfl
def numR(x:Qb):Prop:=x=toF (fv x)∧qz (fv x)≤190
theorem Q8l{n k:Nat}{x:Qb}(hn:big≤n)(hk:k<1048576)(hx:Fk k x):
 ((Y2 n x).bind λr69=>bif !r69 then some true else (Yf n x).bind λr71=>some (decide ((190:Int)<r71)))=some (!dP (numR x)):=by
 rw[Qn6 hn (Fk_Fw hx (by omega)),sbind,@decP _ (Classical.propDecidable _),bifnP];unfold numR;by_cases h:x=toF (fv x)
 . have h1:qw (fv x)<1099511627776:=by
    rcases Nat.eq_zero_or_pos k with h0 | h0
    . subst h0
      have:=qw_fv (Wh hx (show 0≤1 by omega)) (Nat.le_refl 1);omega
    . have:=qw_fv hx h0;omega
   have e:Yf n x=some (qz (fv x):Int):=by
    conv=>lhs;rw[h]
    exact Qn7 hn h1
   rw[if_pos h,e,sbind];by_cases h2:qz (fv x)≤190
   . rw[dP_t ⟨h,h2⟩,decide_eq_false (by omega)];rfl
   . rw[dP_f λg=>h2 g.2,decide_eq_true (by omega)];rfl
 . rw[if_neg h,dP_f λg=>h g.1];rfl
theorem Qka{n k:Nat}{l:List (List Qb)}(hn:big≤n)(hk:k<1048576)(hl:∀ r∈l,FR k r):Qbf n l=some (dP (∀ r∈l,∀ x∈r,numR x)):=by
 unfold Qbf;rw[Qgy (λ_ (r:List Qb)=>∀ x∈r,numR x) (r:=false)];rw[Qq4];by_cases h:∀ r∈l,∀ x∈r,numR x;rw[if_pos h,dP_t h];rw[if_neg h,dP_f h];intro i r hr
 have key:(rangeL (λ(_:Nat) (x60:Qb) (_:Unit)=>
  jn (λ(j66:(Bool)->Option _)=>
   (Y2 n x60).bind λr69=>
   bif !r69 then (
    j66 true)
   else (
    (Yf n x60).bind λr71=>
    j66 (decide ((190:Int)<r71)))) (λ(s68:Bool)=>
   bif s68 then (
    some (Lp.out (Lp.out (false))))
   else (
    some (Lp.go ())))) r 0 ()).bind (lpK λ(_:Unit)=>some (Lp.go ()))=@ite _ (∀ x∈r,numR x) (Classical.propDecidable _) (some (Lp.go ())) (some (Lp.out (σ:=Unit) (τ:=Bool) false)):=by
  rw[Qgy (λ_ (x:Qb)=>numR x) (r:=Lp.out false),Qq4];intro j x hx;have e:=Q8l hn hk (hl r (Kj hr) x (Kj hx))
  have e2:(jn (λ(j66:(Bool)->Option (Lp Unit (Lp Unit Bool)))=>
   (Y2 n x).bind λr69=>
   bif !r69 then (
    j66 true)
   else (
    (Yf n x).bind λr71=>
    j66 (decide ((190:Int)<r71)))) (λ(s68:Bool)=>
   bif s68 then (
    some (Lp.out (Lp.out (false))))
   else (
    some (Lp.go ()))))=((Y2 n x).bind λr69=>bif !r69 then some true else (Yf n x).bind λr71=>some (decide ((190:Int)<r71))).bind λs68=>bif s68 then (
    some (Lp.out (Lp.out (false))))
   else (
    some (Lp.go ())):=by
   rw[jn_eq];cases Y2 n x with
   | none=>rfl
   | some b=>
     rw[sbind,sbind];cases b;rfl;rw[Bool.not_true,bifF,bifF];cases Yf n x with
     | none=>rfl
     | some z=>rfl
  rw[e2,e,sbind];constructor;intro h;rw[dP_t h];rfl;intro h;rw[dP_f h];rfl
 rw[key];constructor;intro h;rw[if_pos h];intro h;rw[if_neg h]
def shapeR(s:Qp):Prop:=(1≤s.B.length∧s.B.length≤8)∧s.C.length=s.B.length∧s.A.length=s.B.length∧(s.E.length=s.B.length∨s.E.length=0)∧∀(i:Nat) r,s.A[i]?=some r->r.length=i
theorem Qtt(s:Qp):Qeq s=some (dP (shapeR s)):=by
 unfold Qeq shapeR;simp only[jn_eq,bifd,bifnd];by_cases c1:(s.B.length:Int)<1
 . rw[if_pos c1,bifT,dP_f (by omega)]
 rw[if_neg c1];by_cases c2:(8:Int)<(s.B.length:Int)
 . rw[if_pos c2,bifT,dP_f (by omega)]
 rw[if_neg c2];by_cases c3:(s.C.length:Int)=(s.B.length:Int)
 case neg=>rw[if_neg c3,bifT,dP_f (by omega)]
 rw[if_pos c3];by_cases c4:(s.A.length:Int)=(s.B.length:Int)
 case neg=>rw[if_neg c4,bifT,dP_f (by omega)]
 rw[if_pos c4]
 have hr:=Qgy (f:=λ(i10:Nat) (x11:List Qb) (_:Unit)=>bif !decide ((x11.length:Int)=(i10:Int)) then some (Lp.out false) else some (Lp.go ())) (K:=λ_=>some true) (r:=false) (λi (r:List Qb)=>r.length=i) s.A (λi x hx=>by
  constructor
  . intro h;rw[decide_eq_true (by omega)];rfl
  . intro h;rw[decide_eq_false (by omega)];rfl)
 have hr':(rangeL (λ(i10:Nat) (x11:List Qb) (_:Unit)=>if (x11.length:Int)=(i10:Int) then some (Lp.go ()) else some (Lp.out false)) s.A 0 ()).bind (lpK λ_=>some true)=(rangeL (λ(i10:Nat) (x11:List Qb) (_:Unit)=>bif !decide ((x11.length:Int)=(i10:Int)) then some (Lp.out false) else some (Lp.go ())) s.A 0 ()).bind (lpK λ_=>some true):=by simp only[bifnd]
 have fin:(s.E.length=s.B.length∨s.E.length=0)->(rangeL (λ(i10:Nat) (x11:List Qb) (_:Unit)=>if (x11.length:Int)=(i10:Int) then some (Lp.go ()) else some (Lp.out false)) s.A 0 ()).bind (lpK λ_=>some true)=some (dP ((1≤s.B.length∧s.B.length≤8)∧s.C.length=s.B.length∧s.A.length=s.B.length∧(s.E.length=s.B.length∨s.E.length=0)∧∀(i:Nat) r,s.A[i]?=some r->r.length=i)):=by
  intro hE;rw[hr',hr];by_cases h:∀(i:Nat) r,s.A[i]?=some r->r.length=i
  . rw[if_pos h,dP_t ⟨by omega,by omega,by omega,hE,h⟩]
  . rw[if_neg h,dP_f λg=>h g.2.2.2.2]
 by_cases c5:(s.E.length:Int)=(s.B.length:Int)
 . rw[if_pos c5,bifF];exact fin (.inl (by omega))
 . rw[if_neg c5]
   by_cases c6:(s.E.length:Int)=0
   . rw[if_pos c6];exact fin (.inr (by omega))
   . rw[if_neg c6,dP_f (by omega)]
structure SchW(k:Nat)(s:Qp):Prop where
 a:∀ r∈s.A,FR k r
 b:FR k s.B
 c:FR k s.C
 e:FR k s.E
 n:s.Name.length≤4611686018427387904
def rowsR(s:Qp):Prop:=∀(i:Nat) r,s.A[i]?=some r->sumQ (rv r)=fv (s.C.getD i ⟨⟨false,[]⟩,[]⟩)
theorem Quy{n k:Nat}{s:Qp}(hn:big≤n)(h1:1≤k)(hk:k<1048576)(hs:SchW k s)(hsh:shapeR s):Qfm n s=some (dP (rowsR s)):=by
 unfold Qfm;obtain⟨⟨g1,g2⟩,g3,g4,g5,g6⟩:=hsh;rw[Qgy (λi (r:List Qb)=>sumQ (rv r)=fv (s.C.getD i ⟨⟨false,[]⟩,[]⟩)) (r:=false)];unfold rowsR;by_cases h:∀(i:Nat) r,s.A[i]?=some r->sumQ (rv r)=fv (s.C.getD i ⟨⟨false,[]⟩,[]⟩);rw[if_pos h,dP_t h];rw[if_neg h,dP_f h];intro i r hr;have hi:=Kb hr;have hc:s.C[i]?=some (s.C.getD i ⟨⟨false,[]⟩,[]⟩):=by rw[List.getD_eq_getElem?_getD,List.getElem?_eq_getElem (show i<s.C.length by omega)];rfl
 have hrk:=hs.a r (Kj hr);have hrl:=g6 i r hr;have hck:=hs.c _ (Kj hc);have hb:=Qmm (l:=rv r) (b:=1) (z:=0) (QR_rv hrk h1) (by rw[Qam];exact Nat.le_refl _);have hcc:(rv r).length*(k+1)≤8*1048576:=Nat.mul_le_mul (by rw[Ju];omega) (by omega);rw[Qoe hn h1 hk hrk (by omega),sbind,Jl hc,sbind,Qp5 (k:=10000000) hn (by omega) (by omega) (V0 (by unfold sumQ;omega)) (Wh hck (by omega)),sbind,Jz];constructor;intro h;rw[decide_eq_true h];rfl;intro h;rw[decide_eq_false h];rfl
def schR(s:Qp):Prop:=wdB 2 s.Name=true∧shapeR s∧((∀ r∈s.A,∀ x∈r,numR x)∧∀ r∈[s.B,s.C,s.E],∀ x∈r,numR x)∧rowsR s∧sumQ (rv s.B)=1∧(s.E≠[]->sumQ (rv s.E)=1)
theorem Qyv{n k:Nat}{a:List Qb}(hn:big≤n)(h1:1≤k)(hk:k<1048576)(ha:FR k a)(hl:a.length≤8){β:Type}(f:Bool->Option β):
 ((Qbk n a).bind λr20=>(Qcf n r20 (toF 1)).bind f)=f (decide (sumQ (rv a)=1)):=by
 have hb:=Qmm (l:=rv a) (b:=1) (z:=0) (QR_rv ha h1) (by rw[Qam];exact Nat.le_refl _);have hcc:(rv a).length*(k+1)≤8*1048576:=Nat.mul_le_mul (by rw[Ju];omega) (by omega);have q1:qw 1≤10000000:=by unfold qw;rw[show(1:Rat).num=1 from rfl,show(1:Rat).den=1 from rfl,show(1:Int).natAbs=1 from rfl,toL1];omega
 rw[Qoe hn h1 hk ha (by omega),sbind,Qp5 (k:=10000000) hn (by omega) (by omega) (V0 (by unfold sumQ;omega)) (V0 q1),sbind,Jz,Jz]
theorem Qtu{n k:Nat}{s:Qp}(hn:big≤n)(h1:1≤k)(hk:k<1048576)(hs:SchW k s):∃ v,Qch n s=some v∧(v=0↔schR s):=by
 unfold Qch;rw[Qzq hn,sbind,Qxx (w:=⟨2,s.Name,0⟩) hn hs.n,sbind];simp only[];unfold schR;cases hw:wdB 2 s.Name
 . exact⟨1,rfl,by simp⟩
 rw[Bool.not_true,bifF,Qtt,sbind,bifnP];by_cases hsh:shapeR s
 case neg=>rw[if_neg hsh];exact⟨2,rfl,λh=>by omega,λh=>absurd h.2.1 hsh⟩
 rw[if_pos hsh];have hl:=hsh;obtain⟨⟨g1,g2⟩,g3,g4,g5,g6⟩:=hl;simp only[jn_eq];rw[Qka hn hk hs.a,sbind,bifnP]
 have hs3:∀ r∈[s.B,s.C,s.E],FR k r:=λr hr=>by
  rcases List.mem_cons.1 hr with rfl | hr
  . exact hs.b
  rcases List.mem_cons.1 hr with rfl | hr
  . exact hs.c
  rcases List.mem_cons.1 hr with rfl | hr
  . exact hs.e
  cases hr
 by_cases hA:∀ r∈s.A,∀ x∈r,numR x
 case neg=>rw[if_neg hA,bifT];exact⟨3,rfl,λh=>by omega,λh=>absurd h.2.2.1.1 hA⟩
 rw[if_pos hA,Qka hn hk hs3,sbind,bifnP];by_cases hB:∀ r∈[s.B,s.C,s.E],∀ x∈r,numR x
 case neg=>rw[if_neg hB];exact⟨3,rfl,λh=>by omega,λh=>absurd h.2.2.1.2 hB⟩
 rw[if_pos hB,Quy hn h1 hk hs hsh,sbind,bifnP];by_cases hR:rowsR s
 case neg=>rw[if_neg hR];exact⟨4,rfl,λh=>by omega,λh=>absurd h.2.2.2.1 hR⟩
 rw[if_pos hR,Qyv hn h1 hk hs.b (by omega),bifnd];by_cases h5:sumQ (rv s.B)=1
 case neg=>rw[if_neg h5];exact⟨5,rfl,λh=>by omega,λh=>absurd h.2.2.2.2.1 h5⟩
 rw[if_pos h5,bifd];by_cases hE:(0:Int)<(s.E.length:Int)
 . have hE':s.E≠[]:=λh=>by rw[h] at hE;simp at hE
   rw[if_pos hE,Qyv hn h1 hk hs.e (by omega),bifnd];by_cases h6:sumQ (rv s.E)=1
   . rw[if_pos h6];exact⟨0,rfl,λ_=>⟨by trivial,hsh,⟨hA,hB⟩,hR,h5,λ_=>h6⟩,λ_=>rfl⟩
   . rw[if_neg h6];exact⟨6,rfl,λh=>by omega,λh=>absurd (h.2.2.2.2.2 hE') h6⟩
 . have hE':s.E=[]:=List.eq_nil_of_length_eq_zero (by omega)
   rw[if_neg hE,bifF];exact⟨0,rfl,λ_=>⟨by trivial,hsh,⟨hA,hB⟩,hR,h5,λh=>absurd hE' h⟩,λ_=>rfl⟩
theorem Ql1{n k:Nat}{s:Qp}(hn:big≤n)(h1:1≤k)(hk:k<1048576)(hs:SchW k s):Qci n s=some (dP (schR s)):=by obtain⟨v,e1,e2⟩:=Qtu hn h1 hk hs;unfold Qci;rw[e1,sbind];exact Qcu e2
def gapQ(s:Qp):List Rat:=if s.E=[] then [] else addQ (rv s.B) (scaleQ (-1) (rv s.E))
theorem Qof{n k:Nat}{s:Qp}(hn:big≤n)(h1:1≤k)(hk:k<1048576)(hs:SchW k s)(hr:schR s):Qbm n s=some (toR (gapQ s)):=by
 unfold Qbm gapQ;simp only[jn_eq];rw[Ql1 hn h1 hk hs,sbind,dP_t hr,Bool.not_true,bifF];obtain⟨⟨g1,g2⟩,g3,g4,g5,g6⟩:=hr.2.1;by_cases hE:s.E=[]
 rw[if_pos hE,hE];rfl;have hl:s.E.length≠0:=λh=>hE (List.eq_nil_of_length_eq_zero h);have q1:qw (((-1:Int):Int):Rat)≤1:=by unfold qw;rw[Rat.num_intCast,Rat.den_intCast,show(-1:Int).natAbs=1 from rfl,toL1];omega
 have e1:(((-1:Int):Int):Rat)=-1:=rfl;rw[if_neg hE,decide_eq_false (by omega),bifF];unfold Qnz;rw[Qj0 hn (by decide) (by decide),sbind,Qkp (k:=k+1) hn (by omega) (by omega) (V0 (by omega)) (Yz hs.e (by omega)) (by omega),sbind,Jz];rw[Qnc (k:=k+1) hn (by omega) (by omega) (Yz hs.b (by omega)) (Qds (W8 (Quw q1 (QR_rv hs.e h1)) (by omega))) (by omega),sbind,Vd,Qfh,Ju,if_pos (by omega),sbind,Qgz,e1]
theorem Qwl{k:Nat}{s:Qp}(h1:1≤k)(hs:SchW k s):QR (2*k+2) (gapQ s):=by
 unfold gapQ;split;intro x hx;cases hx;have q1:qw (-1:Rat)≤1:=by unfold qw;rw[show(-1:Rat).num=-1 from rfl,show(-1:Rat).den=1 from rfl,show(-1:Int).natAbs=1 from rfl,toL1];omega
 exact W8 (Q5z (QR_rv hs.b h1) (Quw q1 (QR_rv hs.e h1))) (by omega)
theorem Qha{lim:Int}:∀ {l:List Rat}{i j:Nat},fitQ lim l i=some j->j<i+l.length
 | [],i,j,h=>by simp[fitQ] at h
 | q::l,i,j,h=>by simp only[fitQ] at h;split at h;have:=Qha h;simp;omega;cases h;simp
structure MadeQ where
 ys:List (List Rat)
 ks:List (List Rat)
 next:List Rat
 err:List Rat
def towQ(H:Rat)(m:Nat)(c:List Rat)(kss:List (List Rat)):List Rat:=scaleQ H (mixQ c kss (List.replicate m 0))
def fromQ(H:Rat)(Y c:List Rat)(kss:List (List Rat)):List Rat:=addQ Y (towQ H Y.length c kss)
def stageQ(t:Qr)(lim:Int)(T H:Rat)(Y P:List Rat)(a:List Rat)(c:Rat)(i:Nat)(kss:List (List Rat)):Qe ⊕ (List Rat×List Rat):=
 match fitQ lim (fromQ H Y a kss) 0 with
 | some j=>.inl ⟨6,0,(i:Int),300+(j:Int)⟩
 | none=>match fieldQ t lim (T+H*c) (fromQ H Y a kss) P with
   | .inl e=>.inl ⟨e.1,0,(i:Int),(e.2:Int)⟩
   | .inr k=>.inr (fromQ H Y a kss,k)
def stagesQ(t:Qr)(lim:Int)(T H:Rat)(Y P:List Rat):List (List Rat×Rat)->Nat->List (List Rat)->List (List Rat)->Qe ⊕ (List (List Rat)×List (List Rat))
 | [],_,yss,kss=>.inr (yss,kss)
 | x::r,i,yss,kss=>match stageQ t lim T H Y P x.1 x.2 i kss with
   | .inl f=>.inl f
   | .inr z=>stagesQ t lim T H Y P r (i+1) (yss++[z.1]) (kss++[z.2])
def endQ(s:Qp)(lim:Int)(H:Rat)(Y:List Rat)(yss kss:List (List Rat)):Qe ⊕ MadeQ:=
 match fitQ lim (fromQ H Y (rv s.B) kss) 0 with
 | some j=>.inl ⟨6,0,(s.B.length:Int),300+(j:Int)⟩
 | none=>match fitQ lim (if gapQ s=[] then [] else towQ H Y.length (gapQ s) kss) 0 with
   | some j=>.inl ⟨6,0,(s.B.length:Int)+1,300+(j:Int)⟩
   | none=>.inr ⟨yss,kss,fromQ H Y (rv s.B) kss,if gapQ s=[] then [] else towQ H Y.length (gapQ s) kss⟩
def doQ(t:Qr)(s:Qp)(lim:Int)(T H:Rat)(Y P:List Rat):Qe ⊕ MadeQ:=
 match stagesQ t lim T H Y P (List.zip (s.A.map rv) (rv s.C)) 0 [] [] with
 | .inl f=>.inl f
 | .inr z=>endQ s lim H Y z.1 z.2
def toRR(l:List (List Rat)):List (List Qb):=l.map toR
theorem Qfi(l:List (List Rat)):(toRR l).length=l.length:=by unfold toRR;simp
theorem Q25(l:List (List Rat)):(toRR l).map rv=l:=by
 unfold toRR;rw[List.map_map]
 conv=>rhs;rw[←List.map_id l]
 exact List.map_congr_left λq _=>Qgz q
theorem Qq5{l:List (List Rat)}{P:List Qb->Prop}(h:∀ a∈l,P (toR a)):∀ a∈toRR l,P a:=λa ha=>by obtain⟨q,hq,rfl⟩:=List.mem_map.1 ha;exact h q hq
theorem Qsy(m:Nat):QR 1 (List.replicate m 0):=λq hq=>by rw[(List.mem_replicate.1 hq).2,Qam];exact Nat.le_refl _
theorem Qks{k m:Nat}{H:Rat}{c:List Rat}{kss:List (List Rat)}(hH:qw H≤k)(hc:QR k c)(hk:∀ a∈kss,QR 129 a)(hl:kss.length≤8)(h0:129≤k):QR (20*k) (towQ H m c kss):=by have h2:=Qsv (z:=List.replicate m 0) hc hk (Qsy m);have h3:kss.length*(k+129+1)≤8*(k+129+1):=Nat.mul_le_mul_right _ hl;exact W8 (Quw hH h2) (by omega)
theorem Qg0{k:Nat}{H:Rat}{Y c:List Rat}{kss:List (List Rat)}(hY:QR k Y)(hH:qw H≤k)(hc:QR k c)(hk:∀ a∈kss,QR 129 a)(hl:kss.length≤8)(h0:129≤k):QR (22*k) (fromQ H Y c kss):=
 W8 (Q5z hY (Qks hH hc hk hl h0)) (by omega)
theorem Qhb{m:Nat}{H:Rat}{c:List Rat}{kss:List (List Rat)}(hk:∀ a∈kss,a.length=m):(towQ H m c kss).length=m:=by unfold towQ;rw[Qfh];exact Qkr hk (by simp)
theorem Qcv{H:Rat}{Y c:List Rat}{kss:List (List Rat)}(hk:∀ a∈kss,a.length=Y.length):(fromQ H Y c kss).length=Y.length:=by unfold fromQ;rw[Qkq,Qhb hk,Nat.min_self]
section
variable {n k:Nat}{p:Qn}{t h:Qb}{y:List Qb}{g:Ql}{ys ks:List (List Qb)}{nx er:List Qb}
theorem Qud{c:List Qb}{kss:List (List Rat)}(hn:big≤n)(h0:129≤k)(hk:k<16384)(hh:Fk k h)(hc:FR k c)(hkq:∀ a∈kss,QR 129 a)(hl:kss.length≤8)(hcl:c.length=kss.length)(hkl:∀ a∈kss,a.length=y.length)(hy:y.length≤6):
 Vh n p t h y g ys (toRR kss) nx er c=some (toR (towQ (fv h) y.length (rv c) kss)):=by
 unfold Vh;rw[Qnd,Qsw (j:=k) (k:=129) hn (by omega) (by omega) (by omega) (by omega) hc (Qq5 λa ha=>Qds (hkq a ha)) (by omega) (by rw[Qfi];omega),sbind,if_pos ⟨by rw[Qfi,hcl],Qq5 λa ha=>by rw[Vd];exact hkl a ha⟩];rw[Q25];have hm:=Qsv (z:=List.replicate y.length 0) (QR_rv hc (by omega)) hkq (Qsy y.length);have h3:kss.length*(k+129+1)≤8*(k+129+1):=Nat.mul_le_mul_right _ hl;have hml:=Qkr (cs:=rv c) hkl (show(List.replicate y.length (0:Rat)).length=y.length by simp);rw[Qkp (k:=20*k) hn (by omega) (by omega) (Wh hh (by omega)) (Qds (W8 hm (by omega))) (by rw[Vd,hml];omega),sbind,Qgz];rfl
theorem Qyw{c:List Qb}{kss:List (List Rat)}(hn:big≤n)(h0:129≤k)(hk:k<16384)(hh:Fk k h)(hyk:FR k y)(hc:FR k c)(hkq:∀ a∈kss,QR 129 a)(hl:kss.length≤8)(hcl:c.length=kss.length)(hkl:∀ a∈kss,a.length=y.length)(hy:y.length≤6):
 X8 n p t h y g ys (toRR kss) nx er c=some (toR (fromQ (fv h) (rv y) (rv c) kss)):=by
 unfold X8;have hb:=Qks (m:=y.length) (qw_fv hh (by omega)) (QR_rv hc (by omega)) hkq hl h0;have htl:=Qhb (H:=fv h) (c:=rv c) hkl;rw[Qud hn h0 hk hh hc hkq hl hcl hkl hy,sbind,Qnc (k:=20*k) hn (by omega) (by omega) (Yz hyk (by omega)) (Qds hb) (by omega),sbind,Vd,htl,if_pos rfl,Qgz];unfold fromQ;rw[Ju]
theorem Qsz{l:List Rat}{x2:Int}(hn:big≤n)(hl:QR 1099511627775 l)(hll:l.length≤1000):
 ∃ g',g'.limit=g.limit∧V3 n p t h y g ys ks nx er (toR l) x2=some (match fitQ g.limit l 0 with | none=>(⟨0,0,0,0⟩,g') | some j=>(⟨6,0,x2,300+(j:Int)⟩,g')):=by
 obtain⟨g',h1,h2⟩:=Q1n (g:=g) hn hl;refine⟨g',h1,?_⟩;unfold V3;rw[h2,sbind];cases hf:fitQ g.limit l 0 with
 | none=>rfl
 | some j=>
   have:=Qha hf;simp only[Bool.not_false,bifT];rw[w64 (by omega) (by omega)]
structure PrbOK(n k:Nat)(p:Qn)(t h:Qb)(y:List Qb):Prop where
 tp:Q1o n k p.Tape
 sw:SchW k p.Aj
 sr:schR p.Aj
 pk:FR k p.P
 pl:(p.P.length:Int)=p.Tape.Aq
 tk:Fk k t
 hk:Fk k h
 yk:FR k y
 yl:(y.length:Int)=p.Tape.An
def limQ(bits:Int):Int:=min (max bits 0) 4096
theorem Que{i:Nat}{c:Qb}(hn:big≤n)(h0:129≤k)(hk:k<16384)(ht:Fk k t)(hh:Fk k h)(hck:Fk k c)(hc:p.Aj.C[i]?=some c):Qc3 n p t h (i:Int)=some (toF (fv t+fv h*fv c)):=by have hi:=Kb hc;have hmul:=Xg (qw_fv hh (by omega)) (qw_fv hck (by omega));unfold Qc3;simp only[jn_eq];rw[decide_eq_false (show ¬(i:Int)<0 by omega),bifF,decide_eq_false (show ¬(p.Aj.C.length:Int)≤(i:Int) by omega),bifF,Jl hc,sbind,Za hn (by omega) (by omega) hh hck,sbind,Qa4 (k:=4*k) hn (by omega) (by omega) (Wh ht (by omega)) (V0 (by omega)),sbind,Jz]
theorem Q4f{i:Nat}{a:List Qb}{c:Qb}{kss:List (List Rat)}(hn:big≤n)(h0:129≤k)(hk:k<16384)(ok:PrbOK n k p t h y)(hg:g.limit=limQ p.Am)
 (ha:p.Aj.A[i]?=some a) (hc:p.Aj.C[i]?=some c) (hys:ys.length≤8) (hkq:∀ a∈kss,QR 129 a) (hki:kss.length=i) (hkl:∀ a∈kss,a.length=y.length) :
 ∃ g',g'.limit=g.limit∧∃ r,Xp n p t h y g ys (toRR kss) nx er (i:Int)=some r ∧
   match stageQ p.Tape (limQ p.Am) (fv t) (fv h) (rv y) (rv p.P) (rv a) (fv c) i kss with
   | .inl f=>r.1=f∧f.Ak≠0
   | .inr z=>r=(⟨0,0,0,0⟩,p,t,h,y,nx,er,g',ys++[toR z.1],toRR (kss++[z.2]))∧QR 129 z.2∧z.2.length=y.length:=by
 obtain⟨⟨d1,d2⟩,⟨d3,d4⟩,d5,d6⟩:=ok.tp.r.1;obtain⟨⟨g1,g2⟩,g3,g4,g5,g6⟩:=ok.sr.2.1;have hi:=Kb ha;have hyl:=ok.yl;have hak:=ok.sw.a a (Kj ha);have hck:=ok.sw.c c (Kj hc);have hal:=g6 i a ha;have hb:=Qg0 (QR_rv ok.yk (by omega)) (qw_fv ok.hk (by omega)) (QR_rv hak (by omega)) hkq (by omega) h0;have hfl:=Qcv (H:=fv h) (Y:=rv y) (c:=rv a) (kss:=kss) (by rw[Ju];exact hkl);rw[Ju] at hfl;unfold Xp;rw[Jl ha,sbind,Qyw hn h0 hk ok.hk ok.yk hak hkq (by omega) (by omega) hkl (by omega),sbind];obtain⟨g',e1,e2⟩:=Qsz (p:=p) (t:=t) (h:=h) (y:=y) (g:=g) (ys:=ys) (ks:=toRR kss) (nx:=nx) (er:=er) (x2:=(i:Int)) hn (W8 hb (show 22*k≤1099511627775 by omega)) (by omega);refine⟨g',e1,?_⟩;rw[e2,sbind,hg];unfold stageQ;cases hf:fitQ (limQ p.Am) (fromQ (fv h) (rv y) (rv a) kss) 0 with
 | some j=>
   simp only[];rw[Qao (by decide),Bool.not_false,bifT];exact⟨_,rfl,rfl,by decide⟩
 | none=>
   simp only[];rw[Yr,Bool.not_true,bifF];unfold Qny;have hmul:=Xg (qw_fv ok.hk (by omega)) (qw_fv hck (by omega));have hadd:=Qb3 (qw_fv ok.tk (by omega)) hmul;rw[Que hn h0 hk ok.tk ok.hk hck hc,sbind,sbind];have hF:=Qxy (k:=22*k) (t:=p.Tape) (p:=⟨toF (fv t+fv h*fv c),toR (fromQ (fv h) (rv y) (rv a) kss),p.P⟩) (bits:=p.Am) hn (by omega) (by omega) ⟨ok.tp.r,ok.tp.h,λx hx=>Wh (ok.tp.w x hx) (by omega)⟩ (V0 (by omega)) (Qds hb) (Yz ok.pk (by omega)) (by simp only[Vd,hfl];exact hyl) ok.pl;rw[hF,sbind];simp only[];rw[Jz,Qgz];have hlim:limQ p.Am=min (max p.Am 0) 4096:=rfl;rw[hlim];cases hq:fieldQ p.Tape (min (max p.Am 0) 4096) (fv t+fv h*fv c) (fromQ (fv h) (rv y) (rv a) kss) (rv p.P) with
   | inl e=>
     have hkd:=Qpf hq;simp only[];rw[Qao (by omega),Bool.not_false,bifT];exact⟨_,rfl,rfl,by show e.1≠0;omega⟩
   | inr l=>
     obtain⟨q1,q2⟩:=Qsx (by omega) hq;simp only[];rw[Yr,Bool.not_true,bifF,Vw (by simp;omega) (by simp;omega),sbind,Vw (by rw[Qfi];simp;omega) (by rw[Qfi];simp;omega),sbind];refine⟨_,rfl,?_,q2,by omega⟩;unfold toRR;rw[List.map_append];rfl
end
section
variable {n k:Nat}{p:Qn}{t h:Qb}{y:List Qb}
def pairQ(s:Qp):List (List Rat×Rat):=List.zip (s.A.map rv) (rv s.C)
theorem Qyx{s:Qp}{i:Nat}{a:List Qb}{c:Qb}(ha:s.A[i]?=some a)(hc:s.C[i]?=some c):(pairQ s).drop i=(rv a,fv c)::(pairQ s).drop (i+1):=by
 have h1:(pairQ s)[i]?=some (rv a,fv c):=by unfold pairQ rv;rw[List.getElem?_zip_eq_some];simp only[List.getElem?_map];exact⟨by rw[ha];rfl,by rw[hc];rfl⟩
 have hi:=Kb h1;rw[List.drop_eq_getElem_cons hi];congr 1;rw[List.getElem?_eq_getElem hi] at h1;exact Option.some.inj h1
theorem Q67{g:Ql}(hn:big≤n)(h0:129≤k)(hk:k<8000)(ok:PrbOK n k p t h y)(hg:g.limit=limQ p.Am):
 ∃ r,Qa9 n p t h y g [] [] [] []=some r ∧
   match doQ p.Tape p.Aj (limQ p.Am) (fv t) (fv h) (rv y) (rv p.P) with
   | .inl f=>r.1=f∧f.Ak≠0
   | .inr z=>∃ g',r=(⟨0,0,0,0⟩,p,t,h,y,toR z.next,toR z.err,g',toRR z.ys,toRR z.ks)∧z.ys.length=p.Aj.B.length∧z.ks.length=p.Aj.B.length:=by
 obtain⟨⟨d1,d2⟩,⟨d3,d4⟩,d5,d6⟩:=ok.tp.r.1;obtain⟨⟨g1,g2⟩,g3,g4,g5,g6⟩:=ok.sr.2.1;have hyl:=ok.yl;unfold Qa9
 have key:∀(bs:List Qb) (i:Nat) (g:Ql) (yss kss:List (List Rat)) (K:(Qn×Qb×Qb×(List Qb)×Ql×(List (List Qb))×(List (List Qb))×(List Qb)×(List Qb))->Option (Qe×Qn×Qb×Qb×(List Qb)×(List Qb)×(List Qb)×Ql×(List (List Qb))×(List (List Qb)))),
  i+bs.length=p.Aj.B.length->yss.length=i->kss.length=i->(∀ a∈kss,QR 129 a)->(∀ a∈kss,a.length=y.length)->g.limit=limQ p.Am →
  match stagesQ p.Tape (limQ p.Am) (fv t) (fv h) (rv y) (rv p.P) ((pairQ p.Aj).drop i) i yss kss with
  | .inl f=>∃ r,(rangeL (λ(i15:Nat) (_:Qb) (s14:Qn×Qb×Qb×(List Qb)×Ql×(List (List Qb))×(List (List Qb))×(List Qb)×(List Qb))=>
  (Xp n s14.1 s14.2.1 s14.2.2.1 s14.2.2.2.1 s14.2.2.2.2.1 s14.2.2.2.2.2.1 s14.2.2.2.2.2.2.1 s14.2.2.2.2.2.2.2.1 s14.2.2.2.2.2.2.2.2 (i15:Int)).bind λr18=>
  bif !(Q1 r18.1 (⟨0,0,0,0⟩:Qe)) then (
   some (Lp.out ((r18.1,r18.2.1,r18.2.2.1,r18.2.2.2.1,r18.2.2.2.2.1,r18.2.2.2.2.2.1,r18.2.2.2.2.2.2.1,r18.2.2.2.2.2.2.2.1,r18.2.2.2.2.2.2.2.2.1,r18.2.2.2.2.2.2.2.2.2))))
  else (
   some (Lp.go (r18.2.1,r18.2.2.1,r18.2.2.2.1,r18.2.2.2.2.1,r18.2.2.2.2.2.2.2.1,r18.2.2.2.2.2.2.2.2.1,r18.2.2.2.2.2.2.2.2.2,r18.2.2.2.2.2.1,r18.2.2.2.2.2.2.1)))) bs i (p,t,h,y,g,toRR yss,toRR kss,[],[])).bind (lpK K)=some r∧r.1=f∧f.Ak≠0
   | .inr z=>∃ g',g'.limit=limQ p.Am∧(rangeL (λ(i15:Nat) (_:Qb) (s14:Qn×Qb×Qb×(List Qb)×Ql×(List (List Qb))×(List (List Qb))×(List Qb)×(List Qb))=>
  (Xp n s14.1 s14.2.1 s14.2.2.1 s14.2.2.2.1 s14.2.2.2.2.1 s14.2.2.2.2.2.1 s14.2.2.2.2.2.2.1 s14.2.2.2.2.2.2.2.1 s14.2.2.2.2.2.2.2.2 (i15:Int)).bind λr18=>
  bif !(Q1 r18.1 (⟨0,0,0,0⟩:Qe)) then (
   some (Lp.out ((r18.1,r18.2.1,r18.2.2.1,r18.2.2.2.1,r18.2.2.2.2.1,r18.2.2.2.2.2.1,r18.2.2.2.2.2.2.1,r18.2.2.2.2.2.2.2.1,r18.2.2.2.2.2.2.2.2.1,r18.2.2.2.2.2.2.2.2.2))))
  else (
   some (Lp.go (r18.2.1,r18.2.2.1,r18.2.2.2.1,r18.2.2.2.2.1,r18.2.2.2.2.2.2.2.1,r18.2.2.2.2.2.2.2.2.1,r18.2.2.2.2.2.2.2.2.2,r18.2.2.2.2.2.1,r18.2.2.2.2.2.2.1)))) bs i (p,t,h,y,g,toRR yss,toRR kss,[],[])).bind (lpK K)=K (p,t,h,y,g',toRR z.1,toRR z.2,[],[])∧z.1.length=p.Aj.B.length∧z.2.length=p.Aj.B.length∧(∀ a∈z.2,QR 129 a)∧∀ a∈z.2,a.length=y.length:=by
  intro bs
  induction bs with
  | nil=>
    intro i g yss kss K hi hy1 hk1 hq hl hg;have he:(pairQ p.Aj).drop i=[]:=by apply List.drop_eq_nil_of_le;unfold pairQ;simp only[List.length_nil,Nat.add_zero] at hi;rw[List.length_zip,Ju,List.length_map];omega
    rw[he];simp only[stagesQ];simp only[List.length_nil,Nat.add_zero] at hi;exact⟨g,hg,rfl,by omega,by omega,hq,hl⟩
  | cons b bs ih=>
    intro i g yss kss K hi hy1 hk1 hq hl hg;rw[List.length_cons] at hi;have ha:p.Aj.A[i]?=some (p.Aj.A[i]'(by omega)):=List.getElem?_eq_getElem (by omega);have hc:p.Aj.C[i]?=some (p.Aj.C[i]'(by omega)):=List.getElem?_eq_getElem (by omega);rw[Qyx ha hc];generalize p.Aj.A[i]'(by omega)=a at ha;generalize p.Aj.C[i]'(by omega)=c at hc;simp only[stagesQ,rangeL];obtain⟨g',e1,r,e2,e3⟩:=Q4f (g:=g) (ys:=toRR yss) (nx:=[]) (er:=[]) hn h0 (by omega) ok hg ha hc (by rw[Qfi];omega) hq hk1 hl;rw[e2,sbind];cases hs:stageQ p.Tape (limQ p.Am) (fv t) (fv h) (rv y) (rv p.P) (rv a) (fv c) i kss with
    | inl f=>
      rw[hs] at e3;obtain⟨e4,e5⟩:=e3;obtain⟨⟨f1,f2,f3,f4⟩,r⟩:=r;simp only[] at e4;subst e4;simp only[];rw[Qao e5,Bool.not_false,bifT,sbind];exact⟨_,rfl,rfl,e5⟩
    | inr z=>
      rw[hs] at e3;obtain⟨e4,e5,e6⟩:=e3;subst e4;simp only[];rw[Yr,Bool.not_true,bifF,sbind]
      have:=ih (i+1) g' (yss++[z.1]) (kss++[z.2]) K (by omega) (by simp;omega) (by simp;omega) (λa ha=>by
       rcases List.mem_append.1 ha with ha | ha
       . exact hq a ha
       . rw[List.mem_singleton.1 ha];exact e5) (λa ha=>by
       rcases List.mem_append.1 ha with ha | ha
       . exact hl a ha
       . rw[List.mem_singleton.1 ha];exact e6) (by omega)
      have e7:toRR yss++[toR z.1]=toRR (yss++[z.1]):=by unfold toRR;rw[List.map_append];rfl
      rw[e7];exact this
 generalize hK:(λ(s20:Qn×Qb×Qb×(List Qb)×Ql×(List (List Qb))×(List (List Qb))×(List Qb)×(List Qb))=>
  (X8 n s20.1 s20.2.1 s20.2.2.1 s20.2.2.2.1 s20.2.2.2.2.1 s20.2.2.2.2.2.1 s20.2.2.2.2.2.2.1 s20.2.2.2.2.2.2.2.1 s20.2.2.2.2.2.2.2.2 p.Aj.B).bind λr21=>
 (V3 n s20.1 s20.2.1 s20.2.2.1 s20.2.2.2.1 s20.2.2.2.2.1 s20.2.2.2.2.2.1 s20.2.2.2.2.2.2.1 r21 s20.2.2.2.2.2.2.2.2 r21 (p.Aj.B.length:Int)).bind λr23=>
 bif !(Q1 r23.1 (⟨0,0,0,0⟩:Qe)) then (
  some (r23.1,s20.1,s20.2.1,s20.2.2.1,s20.2.2.2.1,r21,s20.2.2.2.2.2.2.2.2,r23.2,s20.2.2.2.2.2.1,s20.2.2.2.2.2.2.1))
 else (
  jn (λ(j29:((List Qb))->Option _)=>
   (Qbm n p.Aj).bind λr32=>
   bif decide ((0:Int)<(r32.length:Int)) then (
    (Vh n s20.1 s20.2.1 s20.2.2.1 s20.2.2.2.1 r23.2 s20.2.2.2.2.2.1 s20.2.2.2.2.2.2.1 r21 s20.2.2.2.2.2.2.2.2 r32).bind λr34=>
    j29 r34)
   else (
    j29 s20.2.2.2.2.2.2.2.2)) (λ(s31:(List Qb))=>
   (V3 n s20.1 s20.2.1 s20.2.2.1 s20.2.2.2.1 r23.2 s20.2.2.2.2.2.1 s20.2.2.2.2.2.2.1 r21 s31 s31 (wrap64 ((p.Aj.B.length:Int)+(1:Int)))).bind λr36=>
   some (r36.1,s20.1,s20.2.1,s20.2.2.1,s20.2.2.2.1,r21,s31,r36.2,s20.2.2.2.2.2.1,s20.2.2.2.2.2.2.1))))=K
 have h1:=key p.Aj.B 0 g [] [] K (by omega) rfl rfl (λ_ h=>by cases h) (λ_ h=>by cases h) hg;unfold doQ;rw[List.drop_zero] at h1;unfold pairQ at h1;cases hs:stagesQ p.Tape (limQ p.Am) (fv t) (fv h) (rv y) (rv p.P) (List.zip (p.Aj.A.map rv) (rv p.Aj.C)) 0 [] [] with
 | inl f=>
   rw[hs] at h1;exact h1
 | inr z=>
   rw[hs] at h1;obtain⟨g',q1,q2,q3,q4,q5,q6⟩:=h1;obtain⟨yss,kss⟩:=z;simp only[] at q2 q3 q4 q5 q6 ⊢;have e0:toRR []=[]:=rfl;rw[e0] at q2;rw[q2,←hK];simp only[];have hbB:=Qg0 (QR_rv ok.yk (by omega)) (qw_fv ok.hk (by omega)) (QR_rv ok.sw.b (by omega)) q5 (by omega) h0;have hlB:=Qcv (H:=fv h) (Y:=rv y) (c:=rv p.Aj.B) (kss:=kss) (by rw[Ju];exact q6);rw[Ju] at hlB;have hgq:=Qwl (k:=k) (s:=p.Aj) (by omega) ok.sw;rw[Qyw hn h0 (by omega) ok.hk ok.yk ok.sw.b q5 (by omega) (by omega) q6 (by omega),sbind];obtain⟨g2',e1,e2⟩:=Qsz (p:=p) (t:=t) (h:=h) (y:=y) (g:=g') (ys:=toRR yss) (ks:=toRR kss) (nx:=toR (fromQ (fv h) (rv y) (rv p.Aj.B) kss)) (er:=[]) (x2:=(p.Aj.B.length:Int)) hn (W8 hbB (show 22*k≤1099511627775 by omega)) (by omega);rw[e2,sbind,q1];unfold endQ;cases hf:fitQ (limQ p.Am) (fromQ (fv h) (rv y) (rv p.Aj.B) kss) 0 with
   | some j=>
     simp only[];rw[Qao (by decide),Bool.not_false,bifT];exact⟨_,rfl,rfl,by decide⟩
   | none=>
     simp only[];rw[Yr,Bool.not_true,bifF,jn_eq,Qof hn (by omega) (by omega) ok.sw ok.sr,sbind,Vd];have hE:((Vh n p t h y g2' (toRR yss) (toRR kss) (toR (fromQ (fv h) (rv y) (rv p.Aj.B) kss)) [] (toR (gapQ p.Aj)))=some (toR (towQ (fv h) y.length (gapQ p.Aj) kss))∨gapQ p.Aj=[])∧QR (41*k+1000) (if gapQ p.Aj=[] then [] else towQ (fv h) y.length (gapQ p.Aj) kss)∧(if gapQ p.Aj=[] then [] else towQ (fv h) y.length (gapQ p.Aj) kss).length≤1000:=by
      by_cases he:gapQ p.Aj=[]
      . rw[if_pos he];exact⟨.inr he,λ_ h=>(by cases h),by simp⟩
      . have hEl:p.Aj.E.length=p.Aj.B.length:=by
         rcases g5 with g5 | g5
         . exact g5
         . exact absurd (by unfold gapQ;rw[if_pos (List.eq_nil_of_length_eq_zero g5)]) he
        have hgl:(gapQ p.Aj).length=p.Aj.B.length:=by unfold gapQ;rw[if_neg (λh=>by rw[h] at hEl;simp at hEl;omega),Qkq,Qfh,Ju,Ju];omega
        rw[if_neg he];have ht:=Qud (k:=2*k+2) (p:=p) (t:=t) (h:=h) (y:=y) (g:=g2') (ys:=toRR yss) (nx:=toR (fromQ (fv h) (rv y) (rv p.Aj.B) kss)) (er:=[]) (c:=toR (gapQ p.Aj)) (kss:=kss) hn (by omega) (by omega) (Wh ok.hk (by omega)) (Qds hgq) q5 (by omega) (by rw[Vd];omega) q6 (by omega);rw[Qgz] at ht;refine⟨.inl ht,W8 (Qks (k:=2*k+2) (Nat.le_trans (qw_fv ok.hk (by omega)) (by omega)) hgq q5 (by omega) (by omega)) (by omega),?_⟩;rw[Qhb q6];omega
     obtain⟨hE1,hE2,hE3⟩:=hE;have hj:∀ {β:Type}(f:List Qb->Option β),(bif decide ((0:Int)<((gapQ p.Aj).length:Int)) then (Vh n p t h y g2' (toRR yss) (toRR kss) (toR (fromQ (fv h) (rv y) (rv p.Aj.B) kss)) [] (toR (gapQ p.Aj))).bind λr34=>f r34 else f [])=f (toR (if gapQ p.Aj=[] then [] else towQ (fv h) y.length (gapQ p.Aj) kss)):=by
      intro β f;by_cases he:gapQ p.Aj=[]
      . rw[if_pos he,he];rfl
      . have:(gapQ p.Aj).length≠0:=λh=>he (List.eq_nil_of_length_eq_zero h)
        rw[if_neg he,decide_eq_true (by omega),bifT,hE1.resolve_right he,sbind]
     rw[hj,w1 (by omega),Ju];generalize (if gapQ p.Aj=[] then [] else towQ (fv h) y.length (gapQ p.Aj) kss)=er at hE2 hE3 ⊢;obtain⟨g3',e3,e4⟩:=Qsz (p:=p) (t:=t) (h:=h) (y:=y) (g:=g2') (ys:=toRR yss) (ks:=toRR kss) (nx:=toR (fromQ (fv h) (rv y) (rv p.Aj.B) kss)) (er:=toR er) (x2:=((p.Aj.B.length+1:Nat):Int)) hn (W8 hE2 (show 41*k+1000≤1099511627775 by omega)) hE3;rw[e4,sbind,show g2'.limit=limQ p.Am by omega];cases hf2:fitQ (limQ p.Am) er 0 with
     | some j=>exact⟨_,rfl,rfl,by show(6:Int)≠0;decide⟩
     | none=>exact⟨_,rfl,g3',rfl,q3,q4⟩
theorem Qwm(hn:big≤n)(h1:1≤k)(hk:k<1048576)(ht:TW p.Tape)(hd:-9223372036854775808≤p.Tape.An∧p.Tape.An≤9223372036854775807)(hs:SchW k p.Aj):
 Qer n p=some (dP (tapeR p.Tape∧schR p.Aj∧(p.P.length:Int)=p.Tape.Aq)):=by
 unfold Qer;simp only[jn_eq];rw[Qoa hn ht hd,sbind,bifP];by_cases c1:tapeR p.Tape;rw[if_pos c1,Ql1 hn h1 hk hs,sbind,bifP];by_cases c2:schR p.Aj;rw[if_pos c2];exact Qcu ⟨λh=>⟨c1,c2,h⟩,λh=>h.2.2⟩;rw[if_neg c2,dP_f λh=>c2 h.2.1];rw[if_neg c1,dP_f λh=>c1 h.1]
end
def tI(x:Jg):Qv:=⟨x.Op,x.A,x.B,⟨⟨x.N.Neg,x.N.N⟩,x.N.D⟩⟩
theorem Qj1(f:Qa)(k:Nat):Vj f (k:Int)=some (!decide (f.N.length≤k∧f.D.length≤k)):=by unfold Vj;simp only[jn_eq,bifd];by_cases h:(k:Int)<(f.N.length:Int);rw[if_pos h,decide_eq_false (by omega)];rfl;rw[if_neg h];by_cases g:(k:Int)<(f.D.length:Int);rw[decide_eq_true g,decide_eq_false (by omega)];rfl;rw[decide_eq_false g,decide_eq_true (by omega)];rfl
theorem Qwn{n:Nat}{t:Qz}{many k:Nat}(hn:big≤n)(hm:many≤1000000):∃ v,Zy n t (many:Int) (k:Int)=some v∧(v=false->t.Code.length≤many∧t.Al.length≤many∧∀ c∈t.Code,c.N.N.length≤k∧c.N.D.length≤k):=by unfold Zy;rw[Qm9 (λi=>∀ c,t.Code[i]?=some c->c.N.N.length≤k∧c.N.D.length≤k) (min t.Code.length many) (r:=true)];by_cases h:∀ i,i<min t.Code.length many->∀ c,t.Code[i]?=some c->c.N.N.length≤k∧c.N.D.length≤k;rw[if_pos h];simp only[jn_eq,bifd];by_cases h1:(many:Int)<(t.Code.length:Int);rw[if_pos h1];exact⟨true,rfl,λh=>by cases h⟩;rw[if_neg h1];refine⟨_,rfl,λhv=>⟨by omega,by have:=of_decide_eq_false hv;omega,λc hc=>?_⟩⟩;obtain⟨i,hi⟩:=List.getElem?_of_mem hc;exact h i (by have:=Kb hi;omega) c hi;rw[if_neg h];exact⟨true,rfl,λh=>by cases h⟩;intro i hi;have hp:t.Code[i]?=some t.Code[i]:=List.getElem?_eq_getElem (by omega);generalize t.Code[i]=c at hp;simp only[jn_eq,bifd];rw[if_pos (by omega),if_pos (by omega),Jl hp,sbind,Qj1,sbind];by_cases h:c.N.N.length≤k∧c.N.D.length≤k;rw[decide_eq_true h,Bool.not_true,bifF,w1 (by omega)];exact⟨λ_=>rfl,λg=>absurd (λd hd=>by rw[hp] at hd;cases hd;exact h) g⟩;rw[decide_eq_false h,Bool.not_false,bifT];exact⟨λg=>absurd (g c hp) h,λ_=>rfl⟩;simp only[jn_eq,bifd];by_cases h:min t.Code.length many<t.Code.length;rw[if_pos (by omega),if_neg (by omega)];rw[if_neg (by omega),bifF];unfold big at hn;omega
theorem Qzx{n:Nat}{t:Qz}(hn:big≤n)(h1:t.Code.length≤1000000)(h2:t.Al.length≤1000000):Qaw n t=some ⟨t.Code.map tI,t.Al,t.An,t.Aq⟩:=by unfold Qaw;rw[Vw (by simp;omega) (by simp;omega),sbind];rw[Wq (λi=>((t.Code.take i).map tI,(i:Int))) t.Code.length (t.Code.map tI)];rfl;intro i hi;have hp:t.Code[i]?=some t.Code[i]:=List.getElem?_eq_getElem hi;generalize t.Code[i]=p at hp;simp only[bifd,V5,sbind];rw[if_pos (by omega),Jl hp,sbind,Vw (by simp;omega) (by simp;omega),sbind,w1 (by omega),Qfq tI hp];rfl;simp only[bifd];rw[if_neg (by omega),List.take_length];unfold big at hn;omega;rfl
def tF(x:Qa):Qb:=⟨⟨x.Neg,x.N⟩,x.D⟩
theorem Qa5{n:Nat}{l:List Qa}(hn:big≤n)(h1:l.length≤1000000):Kv n l=some (l.map tF):=by unfold Kv;rw[Wq (λi=>((l.take i).map tF,(i:Int))) l.length (l.map tF)];intro i hi;have hp:l[i]?=some l[i]:=List.getElem?_eq_getElem hi;generalize l[i]=p at hp;simp only[bifd,V5,sbind];rw[if_pos (by omega),Jl hp,sbind,Vw (by simp;omega) (by simp;omega),sbind,w1 (by omega),Qfq tF hp];rfl;simp only[bifd];rw[if_neg (by omega),List.take_length];unfold big at hn;omega;rfl
theorem Qzy{n:Nat}{l:List (List Qa)}(hn:big≤n)(h1:l.length≤1000000)(h2:∀ r∈l,r.length≤1000000):Qav n l=some (l.map (·.map tF)):=by unfold Qav;rw[Wq (λi=>((l.take i).map (·.map tF),(i:Int))) l.length (l.map (·.map tF))];intro i hi;have hp:l[i]?=some l[i]:=List.getElem?_eq_getElem hi;generalize l[i]=p at hp;simp only[bifd];rw[if_pos (by omega),Jl hp,sbind,Qa5 hn (h2 p (Kj hp)),sbind,Vw (by simp;omega) (by simp;omega),sbind,w1 (by omega),Qfq (·.map tF) hp];simp only[bifd];rw[if_neg (by omega),List.take_length];unfold big at hn;omega;rfl
def FL(many k:Nat)(l:List Qa):Prop:=l.length≤many∧∀ x∈l,x.N.length≤k∧x.D.length≤k
theorem Zs{n:Nat}{l:List Qa}{many k:Nat}(hn:big≤n)(hm:many≤1000000):∃ v,Jn n l (many:Int) (k:Int)=some v∧(v=false->FL many k l):=by unfold Jn;rw[Qm9 (λi=>∀ c,l[i]?=some c->c.N.length≤k∧c.D.length≤k) (min l.length many) (r:=true)];by_cases h:∀ i,i<min l.length many->∀ c,l[i]?=some c->c.N.length≤k∧c.D.length≤k;rw[if_pos h];refine⟨_,rfl,λhv=>⟨by have:=of_decide_eq_false hv;omega,λc hc=>?_⟩⟩;have:=of_decide_eq_false hv;obtain⟨i,hi⟩:=List.getElem?_of_mem hc;exact h i (by have:=Kb hi;omega) c hi;rw[if_neg h];exact⟨true,rfl,λh=>by cases h⟩;intro i hi;have hp:l[i]?=some l[i]:=List.getElem?_eq_getElem (by omega);generalize l[i]=c at hp;simp only[jn_eq,bifd];rw[if_pos (by omega),if_pos (by omega),Jl hp,sbind,Qj1,sbind];by_cases h:c.N.length≤k∧c.D.length≤k;rw[decide_eq_true h,Bool.not_true,bifF,w1 (by omega)];exact⟨λ_=>rfl,λg=>absurd (λd hd=>by rw[hp] at hd;cases hd;exact h) g⟩;rw[decide_eq_false h,Bool.not_false,bifT];exact⟨λg=>absurd (g c hp) h,λ_=>rfl⟩;simp only[jn_eq,bifd];by_cases h:min l.length many<l.length;rw[if_pos (by omega),if_neg (by omega)];rw[if_neg (by omega),bifF];unfold big at hn;omega
theorem Qwo{n:Nat}{s:Q2}{many k:Nat}(hn:big≤n)(hm:many≤1000000):∃ v,Zz n s (many:Int) (k:Int)=some v ∧
 (v=false->s.Name.length≤50∧s.A.length≤many∧FL many k s.B∧FL many k s.C∧FL many k s.E∧∀ r∈s.A,FL many k r):=by
 unfold Zz;simp only[jn_eq,bifd];by_cases h1:(50:Int)<(s.Name.length:Int)
 . rw[if_pos h1];exact⟨true,rfl,λh=>by cases h⟩
 rw[if_neg h1];by_cases h2:(many:Int)<(s.A.length:Int)
 . rw[if_pos h2];exact⟨true,rfl,λh=>by cases h⟩
 rw[if_neg h2];obtain⟨b,e1,e2⟩:=Zs (l:=s.B) (k:=k) hn hm;rw[e1,sbind];cases b
 case true=>exact⟨true,rfl,λh=>by cases h⟩
 rw[bifF];obtain⟨c,e3,e4⟩:=Zs (l:=s.C) (k:=k) hn hm;rw[e3,sbind];cases c
 case true=>exact⟨true,rfl,λh=>by cases h⟩
 rw[bifF];obtain⟨e,e5,e6⟩:=Zs (l:=s.E) (k:=k) hn hm;rw[e5,sbind];cases e
 case true=>exact⟨true,rfl,λh=>by cases h⟩
 rw[bifF];have hb:∀ r,∃ v,Jn n r (many:Int) (k:Int)=some v∧(v=false->FL many k r):=λr=>Zs hn hm
 have hl:=Qm9 (f:=λ(s28:Int)=>
  if s28<(s.A.length:Int) then (
   (getI s.A s28).bind λy29=>
   (Jn n y29 (many:Int) (k:Int)).bind λr31=>
   bif r31 then (
    some (Lp.out (Lp.out (true))))
   else (
    some (Lp.go (wrap64 (s28+(1:Int))))))
  else (
   some (Lp.out (Lp.go ())))) (n:=n) (K:=λ(_:Unit)=>some false) (r:=true) (λi=>∀ r,s.A[i]?=some r->Jn n r (many:Int) (k:Int)=some false) s.A.length (λi hi=>by
  have hp:s.A[i]?=some s.A[i]:=List.getElem?_eq_getElem hi;generalize s.A[i]=r at hp;obtain⟨v,g1,g2⟩:=hb r;rw[if_pos (by omega),Jl hp,sbind,g1,sbind];cases v
  . rw[bifF,w1 (by omega)]
    exact⟨λ_=>rfl,λg=>absurd (λd hd=>by rw[hp] at hd;cases hd;exact g1) g⟩
  . rw[bifT]
    exact⟨λg=>(by have:=g r hp;rw[g1] at this;cases this),λ_=>rfl⟩) (by rw[if_neg (by omega)]) (by unfold big at hn;omega)
 rw[hl];by_cases h:∀ i,i<s.A.length->∀ r,s.A[i]?=some r->Jn n r (many:Int) (k:Int)=some false
 . rw[if_pos h]
   refine⟨false,rfl,λ_=>⟨by omega,by omega,e2 rfl,e4 rfl,e6 rfl,λr hr=>?_⟩⟩;obtain⟨i,hi⟩:=List.getElem?_of_mem hr;obtain⟨v,g1,g2⟩:=hb r;have:=h i (Kb hi) r hi;rw[g1] at this;exact g2 (Option.some.inj this)
 . rw[if_neg h];exact⟨true,rfl,λh=>by cases h⟩
theorem Qwp{n:Nat}{p:Qu}{a b k:Nat}(hn:big≤n)(ha:a≤1000000)(hb:b≤1000000):∃ v,Z0 n p (a:Int) (b:Int) (k:Int)=some v ∧
 (v=false->(p.Tape.Code.length≤a∧p.Tape.Al.length≤a∧∀ c∈p.Tape.Code,c.N.N.length≤k∧c.N.D.length≤k)∧(p.Aj.Name.length≤50∧p.Aj.A.length≤b∧FL b 4 p.Aj.B∧FL b 4 p.Aj.C∧FL b 4 p.Aj.E∧∀ r∈p.Aj.A,FL b 4 r)∧FL 6 k p.P):=by
 unfold Z0;simp only[jn_eq];obtain⟨u,e1,e2⟩:=Qwn (t:=p.Tape) (k:=k) hn ha;rw[e1,sbind];cases u
 case true=>exact⟨true,rfl,λh=>by cases h⟩
 rw[bifF];obtain⟨u,e3,e4⟩:=Qwo (s:=p.Aj) (k:=4) hn hb;rw[show((4:Nat):Int)=4 from rfl] at e3;rw[e3,sbind];cases u
 case true=>exact⟨true,rfl,λh=>by cases h⟩
 rw[bifF];obtain⟨u,e5,e6⟩:=Zs (l:=p.P) (many:=6) (k:=k) hn (by decide);rw[show((6:Nat):Int)=6 from rfl] at e5;rw[e5,sbind];exact⟨u,rfl,λh=>⟨e2 rfl,e4 rfl,e6 h⟩⟩
theorem Qwq{n:Nat}{f:V7}(hn:big≤n):∃ v,Zw n f=some v∧(v=false->(f.T.N.length≤2∧f.T.D.length≤2)∧(f.H.N.length≤2∧f.H.D.length≤2)∧FL 4 2 f.Y):=by
 unfold Zw;simp only[jn_eq];have e:∀ g:Qa,Vj g 2=some (!decide (g.N.length≤2∧g.D.length≤2)):=λg=>Qj1 g 2;rw[e,sbind];by_cases h1:f.T.N.length≤2∧f.T.D.length≤2
 case neg=>rw[decide_eq_false h1];exact⟨true,rfl,λh=>by cases h⟩
 rw[decide_eq_true h1,Bool.not_true,bifF,e,sbind];by_cases h2:f.H.N.length≤2∧f.H.D.length≤2
 case neg=>rw[decide_eq_false h2];exact⟨true,rfl,λh=>by cases h⟩
 rw[decide_eq_true h2,Bool.not_true,bifF];obtain⟨u,e5,e6⟩:=Zs (l:=f.Y) (many:=4) (k:=2) hn (by decide);rw[show((4:Nat):Int)=4 from rfl,show((2:Nat):Int)=2 from rfl] at e5;rw[e5,sbind];exact⟨u,rfl,λh=>⟨h1,h2,e6 h⟩⟩
def tS(s:Q2):Qp:=⟨s.Name,s.C.map tF,s.A.map (·.map tF),s.B.map tF,s.E.map tF⟩
def tT(t:Qz):Qr:=⟨t.Code.map tI,t.Al,t.An,t.Aq⟩
def tP(p:Qu):Qn:=⟨tT p.Tape,tS p.Aj,p.P.map tF,p.Am⟩
theorem Qzz{n:Nat}{p:Qu}(hn:big≤n)(h1:p.Tape.Code.length≤1000000)(h2:p.Tape.Al.length≤1000000)(h3:p.Aj.A.length≤1000000)(h4:p.Aj.B.length≤1000000)(h5:p.Aj.C.length≤1000000)(h6:p.Aj.E.length≤1000000)
 (h7:∀ r∈p.Aj.A,r.length≤1000000) (h8:p.P.length≤1000000):Qax n p=some (tP p):=by
 unfold Qax Qb9;rw[Qzx hn h1 h2,sbind,Qa5 hn h5,sbind,Qzy hn h3 h7,sbind,Qa5 hn h4,sbind,Qa5 hn h6,sbind,sbind,Qa5 hn h8,sbind];rfl
structure PrbW(k:Nat)(p:Qn):Prop where
 t:∀ c∈p.Tape.Code,Fk k c.N
 d:-9223372036854775808≤p.Tape.An∧p.Tape.An≤9223372036854775807
 s:SchW k p.Aj
 p:FR k p.P
def prbR(p:Qn):Prop:=tapeR p.Tape∧schR p.Aj∧(p.P.length:Int)=p.Tape.Aq
theorem PrbW.tw{k:Nat}{p:Qn}(h:PrbW k p)(hk:k<1048576):TW p.Tape:=λc hc=>Fk_Fw (h.t c hc) (by omega)
theorem Q4g{n k:Nat}{p:Qn}(hn:big≤n)(h0:129≤k)(hk:k<8000)(hw:PrbW k p):Qer n p=some (dP (prbR p)):=
 Qwm hn (by omega) (by omega) (hw.tw (by omega)) hw.d hw.s
theorem PrbW.ok{n k:Nat}{p:Qn}{t h:Qb}{y:List Qb}(hw:PrbW k p)(hn:big≤n)(hk:k<8000)(hr:prbR p)(ht:Fk k t)(hh:Fk k h)(hy:FR k y)(hl:(y.length:Int)=p.Tape.An):PrbOK n k p t h y:=
 ⟨⟨hr.1,by rw[Qoa hn (hw.tw (by omega)) hw.d,dP_t hr.1],hw.t⟩,hw.s,hr.2.1,hw.p,hr.2.2,ht,hh,hy,hl⟩
def toM(z:MadeQ):Q8:=⟨toRR z.ys,toRR z.ks,toR z.next,toR z.err⟩
def noM:Q8:=⟨[],[],[],[]⟩
noncomputable def stepQ(p:Qn)(T H:Rat)(Y:List Rat):Qe ⊕ MadeQ:=
 @ite _ (prbR p∧(Y.length:Int)=p.Tape.An) (Classical.propDecidable _) (doQ p.Tape p.Aj (limQ p.Am) T H Y (rv p.P)) (.inl ⟨2,0,0,0⟩)
theorem Q1p{n k:Nat}{p:Qn}{t h:Qb}{y:List Qb}(hn:big≤n)(h0:129≤k)(hk:k<8000)(hw:PrbW k p)(ht:Fk k t)(hh:Fk k h)(hy:FR k y):
 Qla n p t h y=some (match stepQ p (fv t) (fv h) (rv y) with | .inl f=>(noM,f) | .inr z=>(toM z,⟨0,0,0,0⟩))∧∀ f,stepQ p (fv t) (fv h) (rv y)=.inl f->f.Ak≠0:=by
 unfold Qla stepQ;simp only[jn_eq];rw[Q4g hn h0 hk hw,sbind,bifnP,Ju];by_cases hr:prbR p
 case neg=>rw[if_neg hr,if_neg (λh=>hr h.1),bifT];exact⟨rfl,λf h=>by cases h;decide⟩
 rw[if_pos hr];by_cases hl:(y.length:Int)=p.Tape.An
 case neg=>rw[decide_eq_false hl,if_neg (λh=>hl h.2),Bool.not_false,bifT];exact⟨rfl,λf h=>by cases h;decide⟩
 rw[decide_eq_true hl,if_pos ⟨hr,hl⟩,Bool.not_true,bifF];have ok:=hw.ok hn hk hr ht hh hy hl;unfold Qar;rw[sbind];obtain⟨r,e1,e2⟩:=Q67 (g:=⟨⟨0,0⟩,min (max p.Am 0) 4096⟩) hn h0 hk ok rfl;rw[e1,sbind];cases hd:doQ p.Tape p.Aj (limQ p.Am) (fv t) (fv h) (rv y) (rv p.P) with
 | inl f=>
   rw[hd] at e2;obtain⟨e3,e4⟩:=e2;refine⟨?_,λg hg=>by cases hg;exact e4⟩;rw[e3];obtain⟨f1,f2,f3,f4⟩:=f;rw[Qao e4,Bool.not_false,bifT];rfl
 | inr z=>
   rw[hd] at e2;obtain⟨g',e3,_⟩:=e2;subst e3;simp only[];rw[Yr,Bool.not_true,bifF];exact⟨rfl,λg hg=>by cases hg⟩
theorem Qog{t:Qr}{lim:Int}{T H:Rat}{Y P:List Rat}{m:Nat}(hlim:lim≤4096)(hm:t.Al.length=m)(hY:Y.length=m):∀ {r:List (List Rat×Rat)}{i:Nat}{yss kss:List (List Rat)}{z},(∀ a∈kss,a.length=m)->(∀ a∈yss,a.length=m)->stagesQ t lim T H Y P r i yss kss=.inr z →
 (∀ a∈z.2,a.length=m)∧(∀ a∈z.1,a.length=m)∧(∃ e,z.1=yss++e)∧∃ e,z.2=kss++e
 | [],i,yss,kss,z,h1,h2,h=>by simp only[stagesQ] at h;cases h;exact⟨h1,h2,⟨[],by simp⟩,[],by simp⟩
 | x::r,i,yss,kss,z,h1,h2,h=>by
   simp only[stagesQ] at h;cases hs:stageQ t lim T H Y P x.1 x.2 i kss with
   | inl f=>rw[hs] at h;cases h
   | inr w=>
     rw[hs] at h;have hw:w.2.length=m∧w.1.length=m:=by
      unfold stageQ at hs;split at hs;cases hs;cases hf:fieldQ t lim (T+H*x.2) (fromQ H Y x.1 kss) P with
      | inl e=>rw[hf] at hs;cases hs
      | inr k=>
        rw[hf] at hs;cases hs;exact⟨by rw[(Qsx hlim hf).1,hm],by show(fromQ H Y x.1 kss).length=m;rw[Qcv (by rw[hY];exact h1),hY]⟩
     obtain⟨g1,g2,⟨e,g3⟩,e',g4⟩:=Qog hlim hm hY (λa ha=>by
      rcases List.mem_append.1 ha with ha | ha;exact h1 a ha;rw[List.mem_singleton.1 ha];exact hw.1) (λa ha=>by
      rcases List.mem_append.1 ha with ha | ha;exact h2 a ha
      rw[List.mem_singleton.1 ha];exact hw.2) h
     exact⟨g1,g2,⟨w.1::e,by rw[g3];simp⟩,w.2::e',by rw[g4];simp⟩
set_option maxRecDepth 100000
def toD(v d:Rat):Qo:=⟨toF v,toF d⟩
def toDD(vs ds:List Rat):List Qo:=List.zipWith toD vs ds
theorem Qkt{vs ds:List Rat}(h:ds.length=vs.length):(toDD vs ds).length=vs.length:=by unfold toDD;rw[List.length_zipWith,h,Nat.min_self]
theorem Qyy{vs ds:List Rat}{v d:Rat}(h:ds.length=vs.length):toDD vs ds++[toD v d]=toDD (vs++[v]) (ds++[d]):=by unfold toDD;rw[List.zipWith_append h.symm];rfl
theorem Qlf{vs ds:List Rat}{r:Int}(h:ds.length=vs.length)(h1:0≤r)(h2:r<(vs.length:Int)):getI (toDD vs ds) r=some (toD (vs.getD r.toNat 0) (ds.getD r.toNat 0)):=by
 obtain⟨k,rfl⟩:∃ k:Nat,r=(k:Int):=⟨r.toNat,by omega⟩
 have hk:k<vs.length:=by omega
 have hk2:k<ds.length:=by omega
 rw[Qcg,Int.toNat_natCast];unfold toDD;rw[List.getElem?_zipWith,List.getElem?_eq_getElem hk,List.getElem?_eq_getElem hk2,List.getD_eq_getElem?_getD,List.getElem?_eq_getElem hk,List.getD_eq_getElem?_getD,List.getElem?_eq_getElem hk2];rfl
def turnQ(a q:Rat)(e:Int):Rat:=if 0<e then a ^ (e - 1) else if e<0 then q / a else 0
def slopeQ(x:Qv)(q T:Rat)(Y P vs ds:List Rat):Rat:=
 if x.Op=6 then -ds.getD x.A.toNat 0 else
 if x.Op=11 then ((x.B:Rat)*turnQ (vs.getD x.A.toNat 0) q x.B)*ds.getD x.A.toNat 0 else
 if x.Op=7 then ds.getD x.A.toNat 0+ds.getD x.B.toNat 0 else
 if x.Op=8 then ds.getD x.A.toNat 0 - ds.getD x.B.toNat 0 else
 if x.Op=9 then ds.getD x.A.toNat 0*vs.getD x.B.toNat 0+vs.getD x.A.toNat 0*ds.getD x.B.toNat 0 else
 if x.Op=10 then (ds.getD x.A.toNat 0 - q*ds.getD x.B.toNat 0) / vs.getD x.B.toNat 0 else
 if x.Op=1 then 0 else
 if x.Op=3 then Y.getD x.A.toNat 0 else
 if x.Op=4 then P.getD x.A.toNat 0 else T
theorem Q1q{z:Int}(h:z.natAbs≤8):qw (z:Rat)≤1:=by unfold qw;rw[Rat.num_intCast,Rat.den_intCast];have l1:(toL z.natAbs).length≤1:=Qa2 (n:=z.natAbs) (k:=1) (by rw[K1,Yo];omega);have l2:(toL 1).length≤1:=Qa2 (n:=1) (k:=1) (by rw[K1,Yo];omega);omega
theorem Q4h{n k:Nat}{g:Ql}{z:Int}{t:Qr}{x:Qv}{T T':Rat}{Y P Y' P' vs ds:List Rat}(hn:big≤n)(h1:1≤k)(hk:k<1048576)(hx:mayR t vs.length x)(hN:Fk k x.N)
 (hT:qw T≤k) (hY:QR k Y) (hP:QR k P) (hV:QR k vs) (hT':qw T'≤k) (hY':QR k Y') (hP':QR k P') (hD:QR k ds) (hl:ds.length=vs.length) (hyl:Y'.length=Y.length) (hpl:P'.length=P.length) (hy:(Y.length:Int)=t.An) (hp:(P.length:Int)=t.Aq) :
 ∃ v,J8 n g z x ⟨toD T T',toDD Y Y',toDD P P'⟩ (toDD vs ds)=some (match opQ x T Y P vs with | none=>(v,false) | some q=>(toD q (slopeQ x q T' Y' P' vs ds),true))∧∀ q,opQ x T Y P vs=some q->qw q≤8*k+1∧qw (slopeQ x q T' Y' P' vs ds)≤20*k+10:=by
 unfold J8 opQ slopeQ;have rd:=Qte hx;have dA:x.Op=6∨x.Op=11∨x.Op=7∨x.Op=8∨x.Op=9∨x.Op=10->getI (toDD vs ds) x.A=some (toD (vs.getD x.A.toNat 0) (ds.getD x.A.toNat 0)):=λh=>Qlf hl (rd _ (rdT_A h)).1 (rd _ (rdT_A h)).2;have dB:x.Op=7∨x.Op=8∨x.Op=9∨x.Op=10->getI (toDD vs ds) x.B=some (toD (vs.getD x.B.toNat 0) (ds.getD x.B.toNat 0)):=λh=>Qlf hl (rd _ (rdT_B h)).1 (rd _ (rdT_B h)).2;have qA:qw (vs.getD x.A.toNat 0)≤k:=Vl hV h1;have qB:qw (vs.getD x.B.toNat 0)≤k:=Vl hV h1;have qA':qw (ds.getD x.A.toNat 0)≤k:=Vl hD h1;have qB':qw (ds.getD x.B.toNat 0)≤k:=Vl hD h1;generalize vs.getD x.A.toNat 0=a at dA qA ⊢;generalize vs.getD x.B.toNat 0=b at dB qB ⊢;generalize ds.getD x.A.toNat 0=a' at dA qA' ⊢;generalize ds.getD x.B.toNat 0=b' at dB qB' ⊢;have fA:Fk k (toF a):=V0 qA;have fB:Fk k (toF b):=V0 qB;have fA':Fk k (toF a'):=V0 qA';have fB':Fk k (toF b'):=V0 qB';have pV:∀ u w:Rat,(toD u w).V=toF u:=λ_ _=>rfl;have pD:∀ u w:Rat,(toD u w).D=toF w:=λ_ _=>rfl;simp only[bifd];by_cases o6:x.Op=6;simp only[if_pos o6];unfold Qdh;rw[dA (by omega),sbind,pV,pD,Qlx hn (Fk_Fw fA (by omega)),sbind,Qlx hn (Fk_Fw fA' (by omega)),sbind,sbind,Jz,Jz];exact⟨toD 0 0,rfl,λq hq=>by cases hq;rw[Qna,Qna];omega⟩;simp only[if_neg o6];by_cases o11:x.Op=11;simp only[if_pos o11];unfold Qdi;simp only[jn_eq];rw[dA (by omega),sbind,pV,pD,Qly hn h1 (by omega) fA,sbind,Jz];by_cases hc:x.B < -8∨8<x.B∨(x.B<0∧a=0)
 simp only[if_pos hc];exact⟨_,rfl,λq hq=>by cases hq⟩;simp only[if_neg hc];rw[Bool.not_true,bifF,Qan hn,sbind];have hq:=Qtd qA (e:=x.B) (by omega)
 have key:∀ w:Rat,qw w≤16*k+2->turnQ a (a ^ x.B) x.B=w->((K6 n x.B).bind λr16=>(Xa n r16 (toF w)).bind λr18=>(Xa n r18 (toF a')).bind λr20=>(some ((⟨toF (a ^ x.B),r20⟩:Qo),true):Option (Qo×Bool)))=some (toD (a ^ x.B) (((x.B:Rat)*turnQ a (a ^ x.B) x.B)*a'),true)∧qw (((x.B:Rat)*turnQ a (a ^ x.B) x.B)*a')≤20*k+10:=λw hw e=>by have qi:=Q1q (z:=x.B) (by omega);have q1:=Xg qi hw;have q2:=Xg q1 qA';rw[Qj0 hn (by omega) (by omega),sbind,Za (k:=16*k+2) hn (by omega) (by omega) (V0 (by omega)) (V0 hw),sbind,Za (k:=20*k) hn (by omega) (by omega) (V0 (by rw[Jz,Jz];omega)) (V0 (by omega)),sbind,Jz,Jz,Jz,Jz,e];exact⟨rfl,by omega⟩
 simp only[bifd];by_cases h0:0<x.B;have hw1:=Qtd qA (e:=x.B - 1) (by omega);obtain⟨k1,k2⟩:=key (a ^ (x.B - 1)) (by omega) (by unfold turnQ;rw[if_pos h0]);rw[if_pos h0,w64 (by omega) (by omega),Qly hn h1 (by omega) fA,sbind,Jz,if_neg (show ¬(x.B - 1 < -8∨8<x.B - 1∨(x.B - 1<0∧a=0)) by omega)];simp only[];rw[k1,sbind];exact⟨toD 0 0,rfl,λq hq=>by cases hq;exact⟨hq,k2⟩⟩;rw[if_neg h0];by_cases h2:x.B<0;have ha:¬ a=0:=λg=>hc (.inr (.inr ⟨h2,g⟩));have hw1:=Qnb hq qA;obtain⟨k1,k2⟩:=key (a ^ x.B / a) (by omega) (by unfold turnQ;rw[if_neg h0,if_pos h2]);rw[if_pos h2,Qif (k:=8*k+1) hn (by omega) (by omega) (V0 hq) (V0 (by omega)),sbind,Jz,Jz,if_neg ha];simp only[];rw[k1,sbind];exact⟨toD 0 0,rfl,λq hq=>by cases hq;exact⟨hq,k2⟩⟩;obtain⟨k1,k2⟩:=key 0 (by rw[Qam];omega) (by unfold turnQ;rw[if_neg h0,if_neg h2]);rw[if_neg h2,k1,sbind];exact⟨toD 0 0,rfl,λq hq=>by cases hq;exact⟨hq,k2⟩⟩;simp only[if_neg o11];by_cases o7:x.Op=7;simp only[if_pos o7];unfold Qdj;rw[dA (by omega),sbind,dB (by omega),sbind,pV,pV,pD,pD,Qa4 hn h1 (by omega) fA fB,sbind,Qa4 hn h1 (by omega) fA' fB',sbind,sbind,Jz,Jz,Jz,Jz];exact⟨toD 0 0,rfl,λq hq=>by cases hq;have:=Qb3 qA qB;have:=Qb3 qA' qB';omega⟩;simp only[if_neg o7];by_cases o8:x.Op=8;simp only[if_pos o8];unfold Qdk;rw[dA (by omega),sbind,dB (by omega),sbind,pV,pV,pD,pD,Qie hn h1 (by omega) fA fB,sbind,Qie hn h1 (by omega) fA' fB',sbind,sbind,Jz,Jz,Jz,Jz];exact⟨toD 0 0,rfl,λq hq=>by cases hq;have:=Qle qA qB;have:=Qle qA' qB';omega⟩;simp only[if_neg o8];by_cases o9:x.Op=9;simp only[if_pos o9];unfold Qdl;have q1:=Xg qA' qB;have q2:=Xg qA qB';have q3:=Xg qA qB;have q4:=Qb3 q1 q2;rw[dA (by omega),sbind,dB (by omega),sbind,pV,pV,pD,pD,Za hn h1 (by omega) fA fB,sbind,Za hn h1 (by omega) fA' fB,sbind,Za hn h1 (by omega) fA fB',sbind,Jz,Jz,Jz,Jz,Qa4 (k:=2*k) hn (by omega) (by omega) (V0 (by omega)) (V0 (by omega)),sbind,sbind,Jz,Jz];exact⟨toD 0 0,rfl,λq hq=>by cases hq;omega⟩;simp only[if_neg o9];by_cases o10:x.Op=10;simp only[if_pos o10];unfold Qdm;rw[dA (by omega),sbind,dB (by omega),sbind,pV,pV,pD,pD,Qif hn h1 (by omega) fA fB,sbind,Jz,Jz];by_cases hb:b=0;simp only[if_pos hb];exact⟨_,rfl,λq hq=>by cases hq⟩;simp only[if_neg hb];have q0:=Qnb qA qB;have q1:=Xg q0 qB';have q2:=Qle qA' q1;have q3:=Qnb q2 qB;rw[Bool.not_true,bifF,Za (k:=2*k) hn (by omega) (by omega) (V0 (by omega)) (V0 (by omega)),sbind,Jz,Jz,Qie (k:=3*k) hn (by omega) (by omega) (V0 (by omega)) (V0 (by omega)),sbind,Jz,Jz,Qif (k:=4*k+1) hn (by omega) (by omega) (V0 (by omega)) (V0 (by omega)),sbind,Jz,Jz,if_neg hb,sbind];exact⟨toD 0 0,rfl,λq hq=>by cases hq;omega⟩;simp only[if_neg o10];unfold Vp;simp only[bifd];by_cases o1:x.Op=1;simp only[if_pos o1];unfold Qef;rw[Yp hn (Fk_Fw hN (by omega)),sbind,Qan hn,sbind,sbind,sbind];exact⟨toD 0 0,rfl,λq hq=>by cases hq;have:=qw_fv hN h1;rw[Qam];omega⟩;simp only[if_neg o1];by_cases o3:x.Op=3;simp only[if_pos o3];obtain⟨a1,a2⟩:=Qwg hx o3;rw[Qlf hyl a1 (by omega),sbind,sbind]
 exact⟨toD 0 0,rfl,λq hq=>by cases hq;have:=Vl (i:=x.A.toNat) hY h1;have:=Vl (i:=x.A.toNat) hY' h1;omega⟩;simp only[if_neg o3];by_cases o4:x.Op=4;simp only[if_pos o4];obtain⟨a1,a2⟩:=Qwh hx o4;rw[Qlf hpl a1 (by omega),sbind,sbind];exact⟨toD 0 0,rfl,λq hq=>by cases hq;have:=Vl (i:=x.A.toNat) hP h1;have:=Vl (i:=x.A.toNat) hP' h1;omega⟩;simp only[if_neg o4];exact⟨toD 0 0,rfl,λq hq=>by cases hq;omega⟩
def prunQ(lim:Int)(T:Rat)(Y P:List Rat)(T':Rat)(Y' P':List Rat):List Qv->Nat->List Rat->List Rat->(Int×Int×Nat) ⊕ (List Rat×List Rat)
 | [],_,vs,ds=>.inr (vs,ds)
 | x::c,i,vs,ds=>match opQ x T Y P vs with
   | none=>.inl (3,0,i)
   | some q=>if (qz q:Int)≤lim then (if (qz (slopeQ x q T' Y' P' vs ds):Int)≤lim then prunQ lim T Y P T' Y' P' c (i+1) (vs++[q]) (ds++[slopeQ x q T' Y' P' vs ds]) else .inl (6,1,i)) else .inl (6,0,i)
theorem Q51{n k:Nat}{g:Ql}{t:Qr}{T T':Rat}{Y P Y' P':List Rat}(hn:big≤n)(h1:129≤k)(hk:k<1048576)(ht:tapeR t)(hR:Y3 n t=some true)(hN:∀ c∈t.Code,Fk k c.N)
 (hT:qw T≤k) (hY:QR k Y) (hP:QR k P) (hT':qw T'≤k) (hY':QR k Y') (hP':QR k P') (hyl:Y'.length=Y.length) (hpl:P'.length=P.length) (hy:(Y.length:Int)=t.An) (hp:(P.length:Int)=t.Aq) (hg:g.limit≤4096) :
 ∃ g',K0 n g 0 t ⟨toD T T',toDD Y Y',toDD P P'⟩=some (match prunQ g.limit T Y P T' Y' P' t.Code 0 [] [] with | .inl e=>([],⟨e.1,0,0,(e.2.2:Int)⟩,g',e.2.1) | .inr l=>(toDD l.1 l.2,⟨0,0,0,0⟩,g',0)):=by
 unfold K0;simp only[jn_eq,hR,sbind,Bool.not_true,bifF];rw[Qkt hyl,Qkt hpl,decide_eq_true hy,decide_eq_true hp,Bool.not_true,bifF,bifF]
 have key:∀(c:List Qv) (vs ds:List Rat) (g:Ql) (K:Ql×Int×List Qo->Option (List Qo×Qe×Ql×Int)),(∀(j:Nat) x,c[j]?=some x->mayR t (vs.length+j) x)->(∀ x∈c,Fk k x.N)->QR k vs->QR k ds->ds.length=vs.length->g.limit≤4096->vs.length+c.length≤300 →
  ∃ g',(rangeL (λ(i30:Nat) (x31:Qv) (s29:Ql×Int×(List Qo))=>
    (J8 n s29.1 s29.2.1 x31 ⟨toD T T',toDD Y Y',toDD P P'⟩ s29.2.2).bind λr33=>
    bif !r33.2 then (
     some (Lp.out ((([]:List Qo),(⟨(3:Int),0,0,(i30:Int)⟩:Qe),s29.1,s29.2.1))))
    else (
     (Qba n s29.1 s29.2.1 r33.1).bind λr35=>
     bif !r35.1 then (
      some (Lp.out ((([]:List Qo),(⟨(6:Int),0,0,(i30:Int)⟩:Qe),r35.2.1,r35.2.2))))
     else (
      (appM 112 s29.2.2 ([r33.1]:List Qo)).bind λy37=>
      some (Lp.go (r35.2.1,r35.2.2,y37))))) c vs.length (g,0,toDD vs ds)).bind (lpK K)=match prunQ g.limit T Y P T' Y' P' c vs.length vs ds with | .inl e=>some ([],⟨e.1,0,0,(e.2.2:Int)⟩,g',e.2.1) | .inr l=>K (g',0,toDD l.1 l.2):=by
  intro c
  induction c with
  | nil=>intro vs ds g K _ _ _ _ _ _ _;exact⟨g,rfl⟩
  | cons x c ih=>
    intro vs ds g K hm hN hV hD hdl hg hl;simp only[rangeL,prunQ];obtain⟨v,e1,e2⟩:=Q4h (g:=g) (z:=0) hn (by omega) hk (by have:=hm 0 x rfl;rwa [Nat.add_zero] at this) (hN x (.head _)) hT hY hP hV hT' hY' hP' hD hdl hyl hpl hy hp;rw[e1,sbind];cases hq:opQ x T Y P vs with
    | none=>exact⟨g,rfl⟩
    | some q=>
      obtain⟨hqk,hdk⟩:=e2 q hq;simp only[Bool.not_true,bifF];generalize slopeQ x q T' Y' P' vs ds=d at hdk ⊢;unfold Qba;rw[show(toD q d).V=toF q from rfl,show(toD q d).D=toF d from rfl,Qob hn (by omega),sbind];simp only[];by_cases hf:(qz q:Int)≤g.limit;rw[decide_eq_true hf,if_pos hf,Bool.not_true,bifF,Qob hn (by omega),sbind];simp only[];by_cases hf2:(qz d:Int)≤g.limit;rw[decide_eq_true (show(qz d:Int)≤(noteG g q).limit from hf2),if_pos hf2,Bool.not_true,bifF,sbind];simp only[Bool.not_true,bifF];rw[Vw (by rw[Qkt hdl];simp at hl ⊢;omega) (by rw[Qkt hdl];simp at hl ⊢;omega),sbind,sbind];simp only[];have hq2:qw q≤k:=by
       have:=qw_qz (q:=q) (b:=4096) (by omega);omega
      have hd2:qw d≤k:=by have:=qw_qz (q:=d) (b:=4096) (by omega);omega
      have hlen:(vs++[q]).length=vs.length+1:=by simp
      obtain⟨g',h⟩:=ih (vs++[q]) (ds++[d]) (noteG (noteG g q) d) K (λj y hy=>by
       rw[hlen,show vs.length+1+j=vs.length+(j+1) by omega];exact hm (j+1) y (by simpa using hy)) (λy hy=>hN y (.tail _ hy)) (λz hz=>by
       rcases List.mem_append.1 hz with hz | hz;exact hV z hz;rw[List.mem_singleton.1 hz];exact hq2) (λz hz=>by
       rcases List.mem_append.1 hz with hz | hz;exact hD z hz
       rw[List.mem_singleton.1 hz];exact hd2) (by simp;exact hdl) hg (by rw[hlen];simp at hl;omega)
      refine⟨g',?_⟩;rw[hlen] at h;rw[Qyy hdl];exact h;rw[decide_eq_false (show ¬(qz d:Int)≤(noteG g q).limit from hf2),if_neg hf2,Bool.not_false,bifT];unfold Qh8;rw[sbind,sbind];exact⟨noteG (noteG g q) d,rfl⟩;rw[decide_eq_false hf,if_neg hf,Bool.not_false,bifT,sbind];exact⟨noteG g q,rfl⟩
 obtain⟨⟨d1,d2,d3,d4⟩,m1,m2⟩:=ht;obtain⟨g',h⟩:=key t.Code [] [] g (λs39=>some (s39.2.2,(⟨0,0,0,0⟩:Qe),s39.1,s39.2.1)) (λj x hx=>by rw[show([]:List Rat).length+j=j by simp];exact m1 j x hx) hN (λ_ h=>by cases h) (λ_ h=>by cases h) rfl hg (by simpa using d4);refine⟨g',?_⟩;rw[show(([]:List Rat).length)=0 from rfl,show toDD [] []=[] from rfl] at h;rw[h];cases prunQ g.limit T Y P T' Y' P' t.Code 0 [] []<;>rfl
theorem Qyz{lim:Int}:∀ {l:List Rat}{i:Nat},fitQ lim l i=none->∀ q∈l,(qz q:Int)≤lim
 | [],_,_,q,hq=>by cases hq
 | x::l,i,h,q,hq=>by simp only[fitQ] at h;split at h;rename_i hx;rcases List.mem_cons.1 hq with rfl | hq;exact hx;exact Qyz h q hq;cases h
theorem Qmn{lim:Int}{l:List Rat}(hlim:lim≤4096)(h:fitQ lim l 0=none):QR 129 l:=λq hq=>by have h1:=Qyz h q hq;have h2:=qw_qz (q:=q) (b:=4096) (by omega);omega
theorem Quz{p:Qn}{T H:Rat}{Y:List Rat}{z:MadeQ}(h:stepQ p T H Y=.inr z):prbR p∧(Y.length:Int)=p.Tape.An∧QR 129 z.next∧z.next.length=Y.length∧QR 129 z.err:=by
 unfold stepQ at h;by_cases hc:prbR p∧(Y.length:Int)=p.Tape.An
 case neg=>rw[if_neg hc] at h;cases h
 rw[if_pos hc] at h;refine⟨hc.1,hc.2,?_⟩;have hdim:=hc.1.1.1;unfold doQ at h;cases hz:stagesQ p.Tape (limQ p.Am) T H Y (rv p.P) (List.zip (p.Aj.A.map rv) (rv p.Aj.C)) 0 [] [] with
 | inl e=>rw[hz] at h;cases h
 | inr w=>
   rw[hz] at h;simp only[] at h;obtain⟨g1,g2,g3,g4⟩:=Qog (m:=Y.length) (by unfold limQ;omega) (by have:=hdim.2.2.1;omega) rfl (λ_ h=>by cases h) (λ_ h=>by cases h) hz;unfold endQ at h;have hlim:limQ p.Am≤4096:=by unfold limQ;omega
   split at h
   . cases h
   . rename_i hf
     split at h
     . cases h
     . rename_i hf2
       cases h;exact⟨Qmn hlim hf,Qcv g1,Qmn hlim hf2⟩
set_option maxRecDepth 100000
theorem Qxz{α:Type}{l:List α}{i:Nat}{x:α}(h:l[i]?=some x):l.take (i+1)=l.take i++[x]:=by rw[List.take_add_one,h];rfl
theorem Qq6{lim T Y P T' Y' P'}(hlim:lim≤4096):∀ {c:List Qv}{i:Nat}{vs ds:List Rat}{l:List Rat×List Rat},QR 129 vs->QR 129 ds->ds.length=vs.length->prunQ lim T Y P T' Y' P' c i vs ds=.inr l->l.1.length=vs.length+c.length∧l.2.length=l.1.length∧QR 129 l.1∧QR 129 l.2
 | [],i,vs,ds,l,hv,hd,hl,h=>by simp only[prunQ] at h;cases h;exact⟨rfl,hl,hv,hd⟩
 | x::c,i,vs,ds,l,hv,hd,hl,h=>by
   simp only[prunQ] at h;cases hq:opQ x T Y P vs with
   | none=>rw[hq] at h;cases h
   | some q=>
     rw[hq] at h;simp only[] at h;generalize slopeQ x q T' Y' P' vs ds=d at h;by_cases hf:(qz q:Int)≤lim
     case neg=>rw[if_neg hf] at h;cases h
     rw[if_pos hf] at h;by_cases hf2:(qz d:Int)≤lim
     case neg=>rw[if_neg hf2] at h;cases h
     rw[if_pos hf2] at h;have b1:=qw_qz (q:=q) (b:=4096) (by omega);have b2:=qw_qz (q:=d) (b:=4096) (by omega)
     obtain⟨h1,h2,h3,h4⟩:=Qq6 hlim (λz hz=>by
      rcases List.mem_append.1 hz with hz | hz
      . exact hv z hz
      . rw[List.mem_singleton.1 hz];omega) (λz hz=>by
      rcases List.mem_append.1 hz with hz | hz
      . exact hd z hz
      . rw[List.mem_singleton.1 hz];omega) (by simp;exact hl) h
     exact⟨by rw[h1];simp;omega,h2,h3,h4⟩
theorem Qmg{lim T Y P T' Y' P'}:∀ {c:List Qv}{i:Nat}{vs ds:List Rat}{e},prunQ lim T Y P T' Y' P' c i vs ds=.inl e->e.1=3∨e.1=6
 | [],i,vs,ds,e,h=>by simp only[prunQ] at h;cases h
 | x::c,i,vs,ds,e,h=>by
   simp only[prunQ] at h;cases hq:opQ x T Y P vs with
   | none=>rw[hq] at h;cases h;exact .inl rfl
   | some q=>
     rw[hq] at h;simp only[] at h;split at h;split at h;exact Qmg h;cases h;exact .inr rfl;cases h;exact .inr rfl
def pfieldQ(t:Qr)(lim:Int)(T:Rat)(Y P:List Rat)(T':Rat)(Y' P':List Rat):(Int×Int×Nat) ⊕ (List Rat×List Rat):=
 match prunQ lim T Y P T' Y' P' t.Code 0 [] [] with
 | .inl e=>.inl e
 | .inr l=>.inr (t.Al.map λo=>l.1.getD o.toNat 0,t.Al.map λo=>l.2.getD o.toNat 0)
theorem Qp8{vs ds:List Rat}(h:ds.length=vs.length)(hl:vs.length≤1000000):Qf1 (toR vs) (toR ds)=some (toDD vs ds,true):=by
 unfold Qf1;rw[Vd,Vd,decide_eq_true (by omega),Bool.not_true,bifF];rw[Qix (λi=>toDD (vs.take i) (ds.take i)) (toR vs)];rw[Vd,List.take_length,←h,List.take_length];show some _=_;rfl;intro i x hx;have hi:=Kb hx;rw[Vd] at hi;have h1:vs[i]?=some vs[i]:=List.getElem?_eq_getElem hi;have h2:ds[i]?=some (ds[i]'(by omega)):=List.getElem?_eq_getElem _;generalize vs[i]=v at h1;generalize ds[i]'(by omega)=d at h2;have e1:x=toF v:=by
  unfold toR at hx;rw[List.getElem?_map,h1] at hx;exact(Option.some.inj hx).symm
 have hl2:(ds.take i).length=(vs.take i).length:=by rw[List.length_take,List.length_take,h]
 have hle:(vs.take i).length≤vs.length:=by rw[List.length_take];omega
 rw[Jl (show(toR ds)[i]?=some (toF d) by unfold toR;rw[List.getElem?_map,h2];rfl),sbind,Vw (by rw[Qkt hl2];simp;omega) (by rw[Qkt hl2];simp;omega),sbind,e1,show(⟨toF v,toF d⟩:Qo)=toD v d from rfl,Qyy hl2,Qxz h1,Qxz h2];rfl
theorem Qwr{n k:Nat}{t:Qr}{p q:Vf}{bits:Int}(hn:big≤n)(h1:129≤k)(hk:k<1048576)(ht:Q1o n k t)(hT:Fk k p.T)(hY:FR k p.Y)(hP:FR k p.P)(hT':Fk k q.T)(hY':FR k q.Y)(hP':FR k q.P)(hy:(p.Y.length:Int)=t.An)(hp:(p.P.length:Int)=t.Aq)(hyl:q.Y.length=p.Y.length)(hpl:q.P.length=p.P.length):
 Qgq n t p q bits=some (match pfieldQ t (min (max bits 0) 4096) (fv p.T) (rv p.Y) (rv p.P) (fv q.T) (rv q.Y) (rv q.P) with | .inl e=>([],[],⟨e.1,0,e.2.1,(e.2.2:Int)⟩) | .inr l=>(toR l.1,toR l.2,⟨0,0,0,0⟩)):=by
 obtain⟨r,h,w⟩:=ht;have hd:=r.1;obtain⟨⟨d1,d2⟩,⟨d3,d4⟩,d5,d6⟩:=hd;have eT:=qw_fv hT (by omega);have eY:=QR_rv hY (by omega);have eP:=QR_rv hP (by omega);have eT':=qw_fv hT' (by omega);have eY':=QR_rv hY' (by omega);have eP':=QR_rv hP' (by omega);unfold Qgq Qk2 Qd0 Qar;simp only[jn_eq];rw[Yp hn (Fk_Fw hT (by omega)),sbind,Qbu hn (by omega) hY (by omega),sbind,Qbu hn (by omega) hP (by omega),sbind,sbind,Yp hn (Fk_Fw hT' (by omega)),sbind,Qbu hn (by omega) hY' (by omega),sbind,Qbu hn (by omega) hP' (by omega),sbind,sbind];simp only[];rw[Qp8 (by rw[Ju,Ju];exact hyl) (by rw[Ju];omega),sbind,Qp8 (by rw[Ju,Ju];exact hpl) (by rw[Ju];omega),sbind];simp only[Bool.not_true,bifF,sbind];obtain⟨g',e⟩:=Q51 (g:=⟨⟨0,0⟩,min (max bits 0) 4096⟩) hn h1 hk r h w eT eY eP eT' eY' eP' (by rw[Ju,Ju];exact hyl) (by rw[Ju,Ju];exact hpl) (by rw[Ju];exact hy) (by rw[Ju];exact hp) (by simp only[];omega);rw[show(⟨toF (fv p.T),toF (fv q.T)⟩:Qo)=toD (fv p.T) (fv q.T) from rfl,e,sbind];unfold pfieldQ;simp only[];cases hr:prunQ (min (max bits 0) 4096) (fv p.T) (rv p.Y) (rv p.P) (fv q.T) (rv q.Y) (rv q.P) t.Code 0 [] [] with
 | inl q=>
   have hk:=Qmg hr;simp only[];rw[sbind];simp only[];rw[Qao (by omega),Bool.not_false,bifT]
 | inr l=>
   obtain⟨l1,l2,l3,l4⟩:=Qq6 (by omega) (λ_ h=>by cases h) (λ_ h=>by cases h) rfl hr;have hl:l.1.length=t.Code.length:=by simpa using l1
   simp only[];rw[sbind];simp only[];rw[Yr,Bool.not_true,bifF];rw[Qix (λi=>(toR ((t.Al.take i).map λo=>l.1.getD o.toNat 0),toR ((t.Al.take i).map λo=>l.2.getD o.toNat 0))) t.Al];rw[List.take_length];rfl;intro i o ho;have hb:=r.2.2 o (Kj ho);have hi:=Kb ho;rw[Qlf l2 hb.1 (by omega),sbind,Vw (by simp only[Vd,List.length_map,List.length_take,List.length_cons,List.length_nil];omega) (by simp only[Vd,List.length_map,List.length_take,List.length_cons,List.length_nil];omega),sbind,sbind,Vw (by simp only[Vd,List.length_map,List.length_take,List.length_cons,List.length_nil];omega) (by simp only[Vd,List.length_map,List.length_take,List.length_cons,List.length_nil];omega),sbind,Qxz ho];simp only[List.map_append,List.map_cons,List.map_nil];rw[←Qux,←Qux];rfl;rfl
theorem Qws{t:Qr}{lim T Y P T' Y' P' l}(hlim:lim≤4096)(h:pfieldQ t lim T Y P T' Y' P'=.inr l):l.1.length=t.Al.length∧l.2.length=t.Al.length∧QR 129 l.1∧QR 129 l.2:=by
 unfold pfieldQ at h;cases hr:prunQ lim T Y P T' Y' P' t.Code 0 [] [] with
 | inl q=>rw[hr] at h;cases h
 | inr l'=>
   rw[hr] at h;cases h;obtain⟨l1,l2,l3,l4⟩:=Qq6 hlim (λ_ h=>by cases h) (λ_ h=>by cases h) rfl hr;refine⟨by simp,by simp,λq hq=>?_,λq hq=>?_⟩;obtain⟨o,_,rfl⟩:=List.mem_map.1 hq;exact Vl l3 (by omega);obtain⟨o,_,rfl⟩:=List.mem_map.1 hq;exact Vl l4 (by omega)
theorem Qs0{t:Qr}{lim T Y P T' Y' P' e}(h:pfieldQ t lim T Y P T' Y' P'=.inl e):e.1=3∨e.1=6:=by
 unfold pfieldQ at h;cases hr:prunQ lim T Y P T' Y' P' t.Code 0 [] [] with
 | inl q=>rw[hr] at h;cases h;exact Qmg hr
 | inr l'=>rw[hr] at h;cases h
theorem Qy0{t:Qr}{lim:Int}{T H:Rat}{Y P:List Rat}(hlim:lim≤4096):∀ {r:List (List Rat×Rat)}{i:Nat}{yss kss:List (List Rat)}{z},(∀ a∈yss,QR 129 a)->stagesQ t lim T H Y P r i yss kss=.inr z->∀ a∈z.1,QR 129 a
 | [],i,yss,kss,z,h1,h=>by simp only[stagesQ] at h;cases h;exact h1
 | x::r,i,yss,kss,z,h1,h=>by
   simp only[stagesQ] at h;cases hs:stageQ t lim T H Y P x.1 x.2 i kss with
   | inl f=>rw[hs] at h;cases h
   | inr w=>
     rw[hs] at h;have hw:QR 129 w.1:=by
      unfold stageQ at hs;cases hf:fitQ lim (fromQ H Y x.1 kss) 0 with
      | some j=>rw[hf] at hs;cases hs
      | none=>
        rw[hf] at hs;simp only[] at hs;cases hf2:fieldQ t lim (T+H*x.2) (fromQ H Y x.1 kss) P with
        | inl e=>rw[hf2] at hs;cases hs
        | inr k=>rw[hf2] at hs;cases hs;exact Qmn hlim hf
     exact Qy0 hlim (λa ha=>by
      rcases List.mem_append.1 ha with ha | ha;exact h1 a ha
      rw[List.mem_singleton.1 ha];exact hw) h
theorem Q1r{p:Qn}{T H:Rat}{Y:List Rat}{z:MadeQ}(h:stepQ p T H Y=.inr z):(∀ a∈z.ys,QR 129 a∧a.length=Y.length)∧z.ys.length=p.Aj.B.length:=by
 obtain⟨hr,hl,_⟩:=Quz h;have hd:=hr.1.1;unfold stepQ at h;rw[if_pos ⟨hr,hl⟩] at h;unfold doQ at h;cases hz:stagesQ p.Tape (limQ p.Am) T H Y (rv p.P) (List.zip (p.Aj.A.map rv) (rv p.Aj.C)) 0 [] [] with
 | inl e=>rw[hz] at h;cases h
 | inr w=>
   rw[hz] at h;simp only[] at h;have hlim:limQ p.Am≤4096:=by unfold limQ;omega
   have q1:=Qy0 hlim (λ_ h=>by cases h) hz;obtain⟨_,q2,_,_⟩:=Qog hlim (m:=Y.length) (by have:=hd.2.2.1;omega) rfl (λ_ h=>by cases h) (λ_ h=>by cases h) hz;have q3:∀ {r:List (List Rat×Rat)}{i:Nat}{yss kss:List (List Rat)}{z},stagesQ p.Tape (limQ p.Am) T H Y (rv p.P) r i yss kss=.inr z->z.1.length=yss.length+r.length:=by
    intro r
    induction r with
    | nil=>intro i yss kss z h;simp only[stagesQ] at h;cases h;rfl
    | cons x r ih=>
      intro i yss kss z h;simp only[stagesQ] at h;cases hs:stageQ p.Tape (limQ p.Am) T H Y (rv p.P) x.1 x.2 i kss with
      | inl f=>rw[hs] at h;cases h
      | inr w=>rw[hs] at h;rw[ih h];simp;omega
   have q4:=q3 hz;obtain⟨⟨g1,g2⟩,g3,g4,g5,g6⟩:=hr.2.1.2.1;have e:z.ys=w.1:=by unfold endQ at h;split at h;cases h;split at h;cases h;cases h;rfl
   rw[e];refine⟨λa ha=>⟨q1 a ha,q2 a ha⟩,?_⟩;rw[q4,List.length_zip,List.length_map,Ju];simp;omega
set_option maxRecDepth 100000
def tstageQ(t:Qr)(lim:Int)(T H:Rat)(U V P:List Rat)(y a:List Rat)(c:Rat)(i:Nat)(kss:List (List Rat)):Qe ⊕ List Rat:=
 match fitQ lim (fromQ H U a kss) 0 with
 | some j=>.inl ⟨6,0,(i:Int),300+(j:Int)⟩
 | none=>match pfieldQ t lim (T+H*c) y P 0 (fromQ H U a kss) V with
   | .inl e=>.inl ⟨e.1,0,(i:Int),(e.2.2:Int)⟩
   | .inr k=>.inr k.2
def tstagesQ(t:Qr)(lim:Int)(T H:Rat)(U V P:List Rat):List ((List Rat×Rat)×List Rat)->Nat->List (List Rat)->Qe ⊕ List (List Rat)
 | [],_,kss=>.inr kss
 | x::r,i,kss=>match tstageQ t lim T H U V P x.2 x.1.1 x.1.2 i kss with
   | .inl f=>.inl f
   | .inr k=>tstagesQ t lim T H U V P r (i+1) (kss++[k])
def tendQ(s:Qp)(lim:Int)(H:Rat)(U:List Rat)(kss:List (List Rat)):Qe ⊕ (List Rat×List Rat):=
 match fitQ lim (fromQ H U (rv s.B) kss) 0 with
 | some j=>.inl ⟨6,0,(s.B.length:Int),300+(j:Int)⟩
 | none=>match fitQ lim (if gapQ s=[] then [] else towQ H U.length (gapQ s) kss) 0 with
   | some j=>.inl ⟨6,0,(s.B.length:Int)+1,300+(j:Int)⟩
   | none=>.inr (fromQ H U (rv s.B) kss,if gapQ s=[] then [] else towQ H U.length (gapQ s) kss)
def tdoQ(t:Qr)(s:Qp)(lim:Int)(T H:Rat)(U V P:List Rat)(yss:List (List Rat)):Qe ⊕ (List Rat×List Rat):=
 match tstagesQ t lim T H U V P (List.zip (pairQ s) yss) 0 [] with
 | .inl f=>.inl f
 | .inr kss=>tendQ s lim H U kss
section
variable {n k:Nat}{p:Qn}{t h:Qb}{y u v:List Qb}{g:Ql}{md:Q8}{ks:List (List Qb)}
theorem Qy1{c:List Qb}{kss:List (List Rat)}(hn:big≤n)(h0:129≤k)(hk:k<16384)(hh:Fk k h)(hc:FR k c)(hkq:∀ a∈kss,QR 129 a)(hl:kss.length≤8)(hcl:c.length=kss.length)(hkl:∀ a∈kss,a.length=u.length)(hy:u.length≤6):
 Vi n p t h u v md (toRR kss) g c=some (toR (towQ (fv h) u.length (rv c) kss)):=by
 unfold Vi;rw[Qnd,Qsw (j:=k) (k:=129) hn (by omega) (by omega) (by omega) (by omega) hc (Qq5 λa ha=>Qds (hkq a ha)) (by omega) (by rw[Qfi];omega),sbind,if_pos ⟨by rw[Qfi,hcl],Qq5 λa ha=>by rw[Vd];exact hkl a ha⟩];rw[Q25];have hm:=Qsv (z:=List.replicate u.length 0) (QR_rv hc (by omega)) hkq (Qsy u.length);have h3:kss.length*(k+129+1)≤8*(k+129+1):=Nat.mul_le_mul_right _ hl;have hml:=Qkr (cs:=rv c) hkl (show(List.replicate u.length (0:Rat)).length=u.length by simp);rw[Qkp (k:=20*k) hn (by omega) (by omega) (Wh hh (by omega)) (Qds (W8 hm (by omega))) (by rw[Vd,hml];omega),sbind,Qgz];rfl
theorem Qwt{c:List Qb}{kss:List (List Rat)}(hn:big≤n)(h0:129≤k)(hk:k<16384)(hh:Fk k h)(hyk:FR k u)(hc:FR k c)(hkq:∀ a∈kss,QR 129 a)(hl:kss.length≤8)(hcl:c.length=kss.length)(hkl:∀ a∈kss,a.length=u.length)(hy:u.length≤6):
 X9 n p t h u v md (toRR kss) g c=some (toR (fromQ (fv h) (rv u) (rv c) kss)):=by
 unfold X9;have hb:=Qks (m:=u.length) (qw_fv hh (by omega)) (QR_rv hc (by omega)) hkq hl h0;have htl:=Qhb (H:=fv h) (c:=rv c) hkl;rw[Qy1 hn h0 hk hh hc hkq hl hcl hkl hy,sbind,Qnc (k:=20*k) hn (by omega) (by omega) (Yz hyk (by omega)) (Qds hb) (by omega),sbind,Vd,htl,if_pos rfl,Qgz];unfold fromQ;rw[Ju]
theorem Qq7{l:List Rat}{x2:Int}(hn:big≤n)(hl:QR 1099511627775 l)(hll:l.length≤1000):
 ∃ g',g'.limit=g.limit∧V4 n p t h u v md ks g (toR l) x2=some (match fitQ g.limit l 0 with | none=>(⟨0,0,0,0⟩,g') | some j=>(⟨6,0,x2,300+(j:Int)⟩,g')):=by
 obtain⟨g',h1,h2⟩:=Q1n (g:=g) hn hl;refine⟨g',h1,?_⟩;unfold V4;rw[h2,sbind];cases hf:fitQ g.limit l 0 with
 | none=>rfl
 | some j=>
   have:=Qha hf;simp only[Bool.not_false,bifT];rw[w64 (by omega) (by omega)]
theorem Jaf{k:Nat}:Fk k ⟨⟨false,[]⟩,[]⟩:=⟨(λ_ h=>by cases h),Nat.zero_le _,(λ_ h=>by cases h),Nat.zero_le _⟩
theorem Jag:fv ⟨⟨false,[]⟩,[]⟩=0:=by decide +kernel
theorem Q2l{i:Nat}{a:List Qb}{c:Qb}{yi:List Rat}{kss yss:List (List Rat)}{ks0:List (List Qb)}{nx er:List Qb}(hn:big≤n)(h0:129≤k)(hk:k<16384)(ok:PrbOK n k p t h y)(hu:FR k u)(hul:u.length=y.length)(hv:FR k v)(hvl:v.length=p.P.length)(hg:g.limit=limQ p.Am)
 (ha:p.Aj.A[i]?=some a) (hc:p.Aj.C[i]?=some c) (hyi:yss[i]?=some yi) (hyq:QR 129 yi) (hyil:yi.length=y.length) (hkq:∀ a∈kss,QR 129 a) (hki:kss.length=i) (hkl:∀ a∈kss,a.length=y.length) :
 ∃ g',g'.limit=g.limit∧∃ r,Yu n p t h u v ⟨toRR yss,ks0,nx,er⟩ (toRR kss) g (i:Int)=some r ∧
   match tstageQ p.Tape (limQ p.Am) (fv t) (fv h) (rv u) (rv v) (rv p.P) yi (rv a) (fv c) i kss with
   | .inl f=>r.1=f∧f.Ak≠0
   | .inr z=>r=(⟨0,0,0,0⟩,p,t,h,u,v,⟨toRR yss,ks0,nx,er⟩,toRR (kss++[z]),g')∧QR 129 z∧z.length=y.length:=by
 obtain⟨⟨d1,d2⟩,⟨d3,d4⟩,d5,d6⟩:=ok.tp.r.1;obtain⟨⟨g1,g2⟩,g3,g4,g5,g6⟩:=ok.sr.2.1;have hi:=Kb ha;have hyl:=ok.yl;have hpl:=ok.pl;have hak:=ok.sw.a a (Kj ha);have hck:=ok.sw.c c (Kj hc);have hal:=g6 i a ha;have hkl':∀ a∈kss,a.length=u.length:=λa ha=>by rw[hul];exact hkl a ha
 have hb:=Qg0 (QR_rv hu (by omega)) (qw_fv ok.hk (by omega)) (QR_rv hak (by omega)) hkq (by omega) h0;have hfl:=Qcv (H:=fv h) (Y:=rv u) (c:=rv a) (kss:=kss) (by rw[Ju];exact hkl');rw[Ju] at hfl;unfold Yu;rw[Jl ha,sbind,Qwt hn h0 hk ok.hk hu hak hkq (by omega) (by omega) hkl' (by omega),sbind];obtain⟨g',e1,e2⟩:=Qq7 (p:=p) (t:=t) (h:=h) (u:=u) (v:=v) (g:=g) (md:=⟨toRR yss,ks0,nx,er⟩) (ks:=toRR kss) (x2:=(i:Int)) hn (W8 hb (show 22*k≤1099511627775 by omega)) (by omega);refine⟨g',e1,?_⟩;rw[e2,sbind,hg];unfold tstageQ;cases hf:fitQ (limQ p.Am) (fromQ (fv h) (rv u) (rv a) kss) 0 with
 | some j=>
   simp only[];rw[Qao (by decide),Bool.not_false,bifT];exact⟨_,rfl,rfl,by decide⟩
 | none=>
   simp only[];rw[Yr,Bool.not_true,bifF];have hmul:=Xg (qw_fv ok.hk (by omega)) (qw_fv hck (by omega));have hadd:=Qb3 (qw_fv ok.tk (by omega)) hmul;rw[Que hn h0 hk ok.tk ok.hk hck hc,sbind,Jl (show(toRR yss)[i]?=some (toR yi) by unfold toRR;rw[List.getElem?_map,hyi];rfl),sbind];have hF:=Qwr (k:=22*k) (t:=p.Tape) (p:=⟨toF (fv t+fv h*fv c),toR yi,p.P⟩) (q:=⟨⟨⟨false,[]⟩,[]⟩,toR (fromQ (fv h) (rv u) (rv a) kss),v⟩) (bits:=p.Am) hn (by omega) (by omega) ⟨ok.tp.r,ok.tp.h,λx hx=>Wh (ok.tp.w x hx) (by omega)⟩ (V0 (by omega)) (Qds (W8 hyq (by omega))) (Yz ok.pk (by omega)) Jaf (Qds hb) (Yz hv (by omega)) (by simp only[Vd];omega) ok.pl (by simp only[Vd];omega) hvl;rw[hF,sbind];simp only[];rw[Jz,Qgz,Qgz,Jag];have hlim:limQ p.Am=min (max p.Am 0) 4096:=rfl;rw[hlim];cases hq:pfieldQ p.Tape (min (max p.Am 0) 4096) (fv t+fv h*fv c) yi (rv p.P) 0 (fromQ (fv h) (rv u) (rv a) kss) (rv v) with
   | inl e=>
     have hkd:=Qs0 hq;simp only[];rw[Qao (by omega),Bool.not_false,bifT];exact⟨_,rfl,rfl,by show e.1≠0;omega⟩
   | inr l=>
     obtain⟨q1,q2,q3,q4⟩:=Qws (by omega) hq;simp only[];rw[Yr,Bool.not_true,bifF,Vw (by rw[Qfi];simp;omega) (by rw[Qfi];simp;omega),sbind];refine⟨_,rfl,?_,q4,by omega⟩;unfold toRR;rw[List.map_append];rfl
theorem Qy2{s:Qp}{yss:List (List Rat)}{i:Nat}{a:List Qb}{c:Qb}{yi:List Rat}(ha:s.A[i]?=some a)(hc:s.C[i]?=some c)(hy:yss[i]?=some yi):(List.zip (pairQ s) yss).drop i=((rv a,fv c),yi)::(List.zip (pairQ s) yss).drop (i+1):=by
 have h1:(List.zip (pairQ s) yss)[i]?=some ((rv a,fv c),yi):=by rw[List.getElem?_zip_eq_some];refine⟨?_,hy⟩;unfold pairQ rv;rw[List.getElem?_zip_eq_some];simp only[List.getElem?_map];exact⟨by rw[ha];rfl,by rw[hc];rfl⟩
 have hi:=Kb h1;rw[List.drop_eq_getElem_cons hi];congr 1;rw[List.getElem?_eq_getElem hi] at h1;exact Option.some.inj h1
abbrev TiS:=Qn×Qb×Qb×(List Qb)×(List Qb)×Q8×(List (List Qb))×Ql
abbrev TiR:=Q9×Qe×Qn×Qb×Qb×(List Qb)×(List Qb)×Q8×(List (List Qb))×Ql
def noMv:Q9:=⟨[],[],⟨[],[],[],[]⟩⟩
def tiBody(n:Nat)(i15:Nat)(_:Qb)(s14:TiS):Option (Lp TiS TiR):=
    (Yu n s14.1 s14.2.1 s14.2.2.1 s14.2.2.2.1 s14.2.2.2.2.1 s14.2.2.2.2.2.1 s14.2.2.2.2.2.2.1 s14.2.2.2.2.2.2.2 (i15:Int)).bind λr18=>
    bif !(Q1 r18.1 (⟨0,0,0,0⟩:Qe)) then (
     some (Lp.out (((⟨[],[],(⟨[],[],[],[]⟩:Q8)⟩:Q9),r18.1,r18.2.1,r18.2.2.1,r18.2.2.2.1,r18.2.2.2.2.1,r18.2.2.2.2.2.1,r18.2.2.2.2.2.2.1,r18.2.2.2.2.2.2.2.1,r18.2.2.2.2.2.2.2.2))))
    else (
     some (Lp.go (r18.2.1,r18.2.2.1,r18.2.2.2.1,r18.2.2.2.2.1,r18.2.2.2.2.2.1,r18.2.2.2.2.2.2.1,r18.2.2.2.2.2.2.2.1,r18.2.2.2.2.2.2.2.2)))
def tiFin(n:Nat)(x0_p:Qn)(s20:TiS)(g:Ql)(s31:Q9):Option TiR:=
 (V4 n s20.1 s20.2.1 s20.2.2.1 s20.2.2.2.1 s20.2.2.2.2.1 s20.2.2.2.2.2.1 s20.2.2.2.2.2.2.1 g s31.Err (wrap64 ((x0_p.Aj.B.length:Int)+(1:Int)))).bind λr36=>
 bif !(Q1 r36.1 (⟨0,0,0,0⟩:Qe)) then (
  some ((⟨[],[],(⟨[],[],[],[]⟩:Q8)⟩:Q9),r36.1,s20.1,s20.2.1,s20.2.2.1,s20.2.2.2.1,s20.2.2.2.2.1,s20.2.2.2.2.2.1,s20.2.2.2.2.2.2.1,r36.2))
 else (
  some (s31,(⟨0,0,0,0⟩:Qe),s20.1,s20.2.1,s20.2.2.1,s20.2.2.2.1,s20.2.2.2.2.1,s20.2.2.2.2.2.1,s20.2.2.2.2.2.2.1,r36.2))
def tiEnd(n:Nat)(x0_p:Qn)(x0_made:Q8)(s20:TiS):Option TiR:=
 (X9 n s20.1 s20.2.1 s20.2.2.1 s20.2.2.2.1 s20.2.2.2.2.1 s20.2.2.2.2.2.1 s20.2.2.2.2.2.2.1 s20.2.2.2.2.2.2.2 x0_p.Aj.B).bind λr21=>
 (V4 n s20.1 s20.2.1 s20.2.2.1 s20.2.2.2.1 s20.2.2.2.2.1 s20.2.2.2.2.2.1 s20.2.2.2.2.2.2.1 s20.2.2.2.2.2.2.2 r21 (x0_p.Aj.B.length:Int)).bind λr23=>
 bif !(Q1 r23.1 (⟨0,0,0,0⟩:Qe)) then (
  some ((⟨[],[],(⟨[],[],[],[]⟩:Q8)⟩:Q9),r23.1,s20.1,s20.2.1,s20.2.2.1,s20.2.2.2.1,s20.2.2.2.2.1,s20.2.2.2.2.2.1,s20.2.2.2.2.2.2.1,r23.2))
 else (
  jn (λ(j29:(Q9)->Option _)=>
   (Qbm n x0_p.Aj).bind λr32=>
   bif decide ((0:Int)<(r32.length:Int)) then (
    (Vi n s20.1 s20.2.1 s20.2.2.1 s20.2.2.2.1 s20.2.2.2.2.1 s20.2.2.2.2.2.1 s20.2.2.2.2.2.2.1 r23.2 r32).bind λr34=>
    j29 ⟨r21,r34,x0_made⟩)
   else (
    j29 ⟨r21,[],x0_made⟩)) (tiFin n x0_p s20 r23.2))
theorem Q52(ks):Qbb n p t h u v md ks g=(rangeL (tiBody n) p.Aj.B 0 (p,t,h,u,v,md,ks,g)).bind (lpK (tiEnd n p md)):=Eq.symm (Eq.symm rfl)
theorem Q53{yss:List (List Rat)}{ks0:List (List Qb)}{nx er:List Qb}(hn:big≤n)(h0:129≤k)(hk:k<8000)(ok:PrbOK n k p t h y)(hu:FR k u)(hul:u.length=y.length)(hv:FR k v)(hvl:v.length=p.P.length)(hg:g.limit=limQ p.Am)
 (hys:∀ a∈yss,QR 129 a∧a.length=y.length) (hysl:yss.length=p.Aj.B.length) :
 ∃ r,Qbb n p t h u v ⟨toRR yss,ks0,nx,er⟩ [] g=some r ∧
   match tdoQ p.Tape p.Aj (limQ p.Am) (fv t) (fv h) (rv u) (rv v) (rv p.P) yss with
   | .inl f=>r.1=noMv∧r.2.1=f∧f.Ak≠0
   | .inr z=>r.1=⟨toR z.1,toR z.2,⟨toRR yss,ks0,nx,er⟩⟩∧r.2.1=⟨0,0,0,0⟩∧QR 129 z.1∧z.1.length=u.length:=by
 obtain⟨⟨d1,d2⟩,⟨d3,d4⟩,d5,d6⟩:=ok.tp.r.1;obtain⟨⟨g1,g2⟩,g3,g4,g5,g6⟩:=ok.sr.2.1;have hyl:=ok.yl;rw[Q52]
 have key:∀(bs:List Qb) (i:Nat) (g:Ql) (kss:List (List Rat)) (K:TiS->Option TiR),
  i+bs.length=p.Aj.B.length->kss.length=i->(∀ a∈kss,QR 129 a)->(∀ a∈kss,a.length=y.length)->g.limit=limQ p.Am →
  match tstagesQ p.Tape (limQ p.Am) (fv t) (fv h) (rv u) (rv v) (rv p.P) ((List.zip (pairQ p.Aj) yss).drop i) i kss with
  | .inl f=>∃ r,(rangeL (tiBody n) bs i (p,t,h,u,v,⟨toRR yss,ks0,nx,er⟩,toRR kss,g)).bind (lpK K)=some r∧r.1=noMv∧r.2.1=f∧f.Ak≠0
  | .inr z=>∃ g',g'.limit=limQ p.Am∧(rangeL (tiBody n) bs i (p,t,h,u,v,⟨toRR yss,ks0,nx,er⟩,toRR kss,g)).bind (lpK K)=K (p,t,h,u,v,⟨toRR yss,ks0,nx,er⟩,toRR z,g')∧z.length=p.Aj.B.length∧(∀ a∈z,QR 129 a)∧∀ a∈z,a.length=y.length:=by
  intro bs
  induction bs with
  | nil=>
    intro i g kss K hi hk1 hq hl hg;simp only[List.length_nil,Nat.add_zero] at hi;have he:(List.zip (pairQ p.Aj) yss).drop i=[]:=by apply List.drop_eq_nil_of_le;rw[List.length_zip];omega
    rw[he];simp only[tstagesQ];exact⟨g,hg,rfl,by omega,hq,hl⟩
  | cons b bs ih=>
    intro i g kss K hi hk1 hq hl hg;rw[List.length_cons] at hi;have ha:p.Aj.A[i]?=some (p.Aj.A[i]'(by omega)):=List.getElem?_eq_getElem (by omega);have hc:p.Aj.C[i]?=some (p.Aj.C[i]'(by omega)):=List.getElem?_eq_getElem (by omega);have hyi:yss[i]?=some (yss[i]'(by omega)):=List.getElem?_eq_getElem (by omega);have hym:=hys (yss[i]'(by omega)) (List.getElem_mem _);generalize p.Aj.A[i]'(by omega)=a at ha;generalize p.Aj.C[i]'(by omega)=c at hc;generalize yss[i]'(by omega)=yi at hyi hym;rw[Qy2 ha hc hyi];simp only[tstagesQ,rangeL];obtain⟨g',e1,r,e2,e3⟩:=Q2l (g:=g) (ks0:=ks0) (nx:=nx) (er:=er) hn h0 (by omega) ok hu hul hv hvl hg ha hc hyi hym.1 hym.2 hq hk1 hl
    have eb:tiBody n i b (p,t,h,u,v,⟨toRR yss,ks0,nx,er⟩,toRR kss,g)=(bif !(Q1 r.1 (⟨0,0,0,0⟩:Qe)) then (
     some (Lp.out ((noMv,r.1,r.2.1,r.2.2.1,r.2.2.2.1,r.2.2.2.2.1,r.2.2.2.2.2.1,r.2.2.2.2.2.2.1,r.2.2.2.2.2.2.2.1,r.2.2.2.2.2.2.2.2))))
     else (
      some (Lp.go (r.2.1,r.2.2.1,r.2.2.2.1,r.2.2.2.2.1,r.2.2.2.2.2.1,r.2.2.2.2.2.2.1,r.2.2.2.2.2.2.2.1,r.2.2.2.2.2.2.2.2)))):=by
     unfold tiBody;rw[e2,sbind];rfl
    rw[eb];cases hs:tstageQ p.Tape (limQ p.Am) (fv t) (fv h) (rv u) (rv v) (rv p.P) yi (rv a) (fv c) i kss with
    | inl f=>
      rw[hs] at e3;obtain⟨e4,e5⟩:=e3;obtain⟨⟨f1,f2,f3,f4⟩,r⟩:=r;simp only[] at e4;subst e4;simp only[];rw[Qao e5,Bool.not_false,bifT,sbind];exact⟨_,rfl,rfl,rfl,e5⟩
    | inr z=>
      rw[hs] at e3;obtain⟨e4,e5,e6⟩:=e3;subst e4;simp only[];rw[Yr,Bool.not_true,bifF,sbind]
      exact ih (i+1) g' (kss++[z]) K (by omega) (by simp;omega) (λa ha=>by
       rcases List.mem_append.1 ha with ha | ha;exact hq a ha;rw[List.mem_singleton.1 ha];exact e5) (λa ha=>by
       rcases List.mem_append.1 ha with ha | ha;exact hl a ha
       rw[List.mem_singleton.1 ha];exact e6) (by omega)
 have h1:=key p.Aj.B 0 g [] (tiEnd n p ⟨toRR yss,ks0,nx,er⟩) (by omega) rfl (λ_ h=>by cases h) (λ_ h=>by cases h) hg;unfold tdoQ;rw[List.drop_zero] at h1;cases hs:tstagesQ p.Tape (limQ p.Am) (fv t) (fv h) (rv u) (rv v) (rv p.P) (List.zip (pairQ p.Aj) yss) 0 [] with
 | inl f=>
   rw[hs] at h1;exact h1
 | inr kss=>
   rw[hs] at h1;obtain⟨g',q1,q2,q4,q5,q6⟩:=h1;simp only[];rw[show([]:List (List Qb))=toRR [] from rfl,q2];unfold tiEnd;simp only[];have q6':∀ a∈kss,a.length=u.length:=λa ha=>by rw[hul];exact q6 a ha
   have hbB:=Qg0 (QR_rv hu (by omega)) (qw_fv ok.hk (by omega)) (QR_rv ok.sw.b (by omega)) q5 (by omega) h0;have hlB:=Qcv (H:=fv h) (Y:=rv u) (c:=rv p.Aj.B) (kss:=kss) (by rw[Ju];exact q6');rw[Ju] at hlB;have hgq:=Qwl (k:=k) (s:=p.Aj) (by omega) ok.sw;rw[Qwt hn h0 (by omega) ok.hk hu ok.sw.b q5 (by omega) (by omega) q6' (by omega),sbind];obtain⟨g2',e1,e2⟩:=Qq7 (p:=p) (t:=t) (h:=h) (u:=u) (v:=v) (g:=g') (md:=⟨toRR yss,ks0,nx,er⟩) (ks:=toRR kss) (x2:=(p.Aj.B.length:Int)) hn (W8 hbB (show 22*k≤1099511627775 by omega)) (by omega);rw[e2,sbind,q1];unfold tendQ;cases hf:fitQ (limQ p.Am) (fromQ (fv h) (rv u) (rv p.Aj.B) kss) 0 with
   | some j=>
     simp only[];rw[Qao (by decide),Bool.not_false,bifT];exact⟨_,rfl,rfl,rfl,by decide⟩
   | none=>
     simp only[];rw[Yr,Bool.not_true,bifF,jn_eq,Qof hn (by omega) (by omega) ok.sw ok.sr,sbind,Vd];have hE:((Vi n p t h u v ⟨toRR yss,ks0,nx,er⟩ (toRR kss) g2' (toR (gapQ p.Aj)))=some (toR (towQ (fv h) u.length (gapQ p.Aj) kss))∨gapQ p.Aj=[])∧QR (41*k+1000) (if gapQ p.Aj=[] then [] else towQ (fv h) u.length (gapQ p.Aj) kss)∧(if gapQ p.Aj=[] then [] else towQ (fv h) u.length (gapQ p.Aj) kss).length≤1000:=by
      by_cases he:gapQ p.Aj=[]
      rw[if_pos he];exact⟨.inr he,λ_ h=>(by cases h),by simp⟩;have hEl:p.Aj.E.length=p.Aj.B.length:=by rcases g5 with g5 | g5;exact g5;exact absurd (by unfold gapQ;rw[if_pos (List.eq_nil_of_length_eq_zero g5)]) he
      have hgl:(gapQ p.Aj).length=p.Aj.B.length:=by unfold gapQ;rw[if_neg (λh=>by rw[h] at hEl;simp at hEl;omega),Qkq,Qfh,Ju,Ju];omega
      rw[if_neg he];have ht:=Qy1 (k:=2*k+2) (p:=p) (t:=t) (h:=h) (u:=u) (v:=v) (g:=g2') (md:=⟨toRR yss,ks0,nx,er⟩) (c:=toR (gapQ p.Aj)) (kss:=kss) hn (by omega) (by omega) (Wh ok.hk (by omega)) (Qds hgq) q5 (by omega) (by rw[Vd];omega) q6' (by omega);rw[Qgz] at ht;refine⟨.inl ht,W8 (Qks (k:=2*k+2) (Nat.le_trans (qw_fv ok.hk (by omega)) (by omega)) hgq q5 (by omega) (by omega)) (by omega),?_⟩;rw[Qhb q6'];omega
     obtain⟨hE1,hE2,hE3⟩:=hE;have hj:∀ {β:Type}(f:Q9->Option β),(bif decide ((0:Int)<((gapQ p.Aj).length:Int)) then (Vi n p t h u v ⟨toRR yss,ks0,nx,er⟩ (toRR kss) g2' (toR (gapQ p.Aj))).bind λr34=>f ⟨toR (fromQ (fv h) (rv u) (rv p.Aj.B) kss),r34,⟨toRR yss,ks0,nx,er⟩⟩ else f ⟨toR (fromQ (fv h) (rv u) (rv p.Aj.B) kss),[],⟨toRR yss,ks0,nx,er⟩⟩)=f ⟨toR (fromQ (fv h) (rv u) (rv p.Aj.B) kss),toR (if gapQ p.Aj=[] then [] else towQ (fv h) u.length (gapQ p.Aj) kss),⟨toRR yss,ks0,nx,er⟩⟩:=by
      intro β f;by_cases he:gapQ p.Aj=[]
      rw[if_pos he,he];rfl;have:(gapQ p.Aj).length≠0:=λh=>he (List.eq_nil_of_length_eq_zero h);rw[if_neg he,decide_eq_true (by omega),bifT,hE1.resolve_right he,sbind]
     rw[hj (tiFin n p (p,t,h,u,v,⟨toRR yss,ks0,nx,er⟩,toRR kss,g') g2')];unfold tiFin;rw[w1 (by omega),Ju];generalize (if gapQ p.Aj=[] then [] else towQ (fv h) u.length (gapQ p.Aj) kss)=er' at hE2 hE3 ⊢;simp only[];obtain⟨g3',e3,e4⟩:=Qq7 (p:=p) (t:=t) (h:=h) (u:=u) (v:=v) (g:=g2') (md:=⟨toRR yss,ks0,nx,er⟩) (ks:=toRR kss) (x2:=((p.Aj.B.length+1:Nat):Int)) hn (W8 hE2 (show 41*k+1000≤1099511627775 by omega)) hE3;rw[e4,sbind,show g2'.limit=limQ p.Am by omega];cases hf2:fitQ (limQ p.Am) er' 0 with
     | some j=>
       simp only[];rw[Qao (by decide),Bool.not_false,bifT];exact⟨_,rfl,rfl,rfl,by show(6:Int)≠0;decide⟩
     | none=>
       simp only[];rw[Yr,Bool.not_true,bifF];exact⟨_,rfl,rfl,rfl,Qmn (by unfold limQ;omega) hf,hlB⟩
end
noncomputable def tiltQ(p:Qn)(T H:Rat)(Y U V:List Rat):Qe ⊕ (MadeQ×List Rat×List Rat):=
 match stepQ p T H Y with
 | .inl f=>if f.Ak=2∨U.length≠Y.length∨V.length≠p.P.length then .inl ⟨2,0,0,0⟩ else .inl f
 | .inr z=>if U.length≠Y.length∨V.length≠p.P.length then .inl ⟨2,0,0,0⟩ else match tdoQ p.Tape p.Aj (limQ p.Am) T H U V (rv p.P) z.ys with
   | .inl f=>.inl f
   | .inr w=>.inr (z,w.1,w.2)
theorem Qtv{n k:Nat}{p:Qn}{t h:Qb}{y u v:List Qb}(hn:big≤n)(h0:129≤k)(hk:k<8000)(hw:PrbW k p)(ht:Fk k t)(hh:Fk k h)(hy:FR k y)(hu:FR k u)(hv:FR k v):
 Qcj n p t h y u v=some (match tiltQ p (fv t) (fv h) (rv y) (rv u) (rv v) with | .inl f=>(noMv,f) | .inr z=>(⟨toR z.2.1,toR z.2.2,toM z.1⟩,⟨0,0,0,0⟩))∧(∀ f,tiltQ p (fv t) (fv h) (rv y) (rv u) (rv v)=.inl f->f.Ak≠0)∧∀ z,tiltQ p (fv t) (fv h) (rv y) (rv u) (rv v)=.inr z->stepQ p (fv t) (fv h) (rv y)=.inr z.1∧QR 129 z.2.1∧z.2.1.length=y.length∧u.length=y.length∧v.length=p.P.length:=by
 obtain⟨d1,d2⟩:=Q1p hn h0 hk hw ht hh hy;unfold Qcj tiltQ;simp only[jn_eq];rw[d1,sbind];cases hs:stepQ p (fv t) (fv h) (rv y) with
 | inl f=>
   have hf:=d2 f hs;obtain⟨f1,f2,f3,f4⟩:=f;simp only[];rw[Ju,Ju,Ju,bifd];by_cases c1:f1=2
   . rw[if_pos c1,if_pos (Or.inl c1)]
     exact⟨rfl,(λf h=>by cases h;show(2:Int)≠0;decide),λz h=>by cases h⟩
   rw[if_neg c1];by_cases c2:u.length=y.length
   case neg=>
    rw[decide_eq_false (show ¬(u.length:Int)=(y.length:Int) by omega),if_pos (.inr (.inl c2))];exact⟨rfl,(λf h=>by cases h;show(2:Int)≠0;decide),λz h=>by cases h⟩
   rw[decide_eq_true (show(u.length:Int)=(y.length:Int) by omega),Bool.not_true,bifF];by_cases c3:v.length=p.P.length
   case neg=>
    rw[decide_eq_false (show ¬(v.length:Int)=(p.P.length:Int) by omega),if_pos (.inr (.inr c3))];exact⟨rfl,(λf h=>by cases h;show(2:Int)≠0;decide),λz h=>by cases h⟩
   rw[decide_eq_true (show(v.length:Int)=(p.P.length:Int) by omega),Bool.not_true,bifF,Qao hf,Bool.not_false,bifT,if_neg (by rintro(g | g | g)<;>contradiction)];exact⟨rfl,(λf h=>by cases h;exact hf),λz h=>by cases h⟩
 | inr z=>
   obtain⟨r1,r2,r3,r4,r5⟩:=Quz hs;obtain⟨r6,r7⟩:=Q1r hs;rw[Ju] at r2;simp only[];rw[Ju,Ju,Ju,show decide ((0:Int)=2)=false from rfl,bifF];by_cases c2:u.length=y.length
   case neg=>
    rw[decide_eq_false (show ¬(u.length:Int)=(y.length:Int) by omega),if_pos (.inl c2)];exact⟨rfl,(λf h=>by cases h;show(2:Int)≠0;decide),λz h=>by cases h⟩
   rw[decide_eq_true (show(u.length:Int)=(y.length:Int) by omega),Bool.not_true,bifF];by_cases c3:v.length=p.P.length
   case neg=>
    rw[decide_eq_false (show ¬(v.length:Int)=(p.P.length:Int) by omega),if_pos (.inr c3)];exact⟨rfl,(λf h=>by cases h;show(2:Int)≠0;decide),λz h=>by cases h⟩
   rw[decide_eq_true (show(v.length:Int)=(p.P.length:Int) by omega),Bool.not_true,bifF,Yr,Bool.not_true,bifF,if_neg (by rintro(g | g)<;>contradiction)];unfold Qar;rw[sbind];have ok:=hw.ok hn hk r1 ht hh hy r2;obtain⟨r,e1,e2⟩:=Q53 (g:=⟨⟨0,0⟩,min (max p.Am 0) 4096⟩) (yss:=z.ys) (ks0:=toRR z.ks) (nx:=toR z.next) (er:=toR z.err) hn h0 hk ok hu c2 hv c3 rfl (λa ha=>by have:=r6 a ha;rwa [Ju] at this) r7;rw[show toM z=⟨toRR z.ys,toRR z.ks,toR z.next,toR z.err⟩ from rfl,e1,sbind];cases hd:tdoQ p.Tape p.Aj (limQ p.Am) (fv t) (fv h) (rv u) (rv v) (rv p.P) z.ys with
   | inl f=>
     rw[hd] at e2;obtain⟨e3,e4,e5⟩:=e2;refine⟨by simp only[];rw[e3,e4],(λf h=>by cases h;exact e5),λz h=>by cases h⟩
   | inr w=>
     rw[hd] at e2;obtain⟨e3,e4,e5,e6⟩:=e2;refine⟨by simp only[];rw[e3,e4];rfl,(λf h=>by cases h),λz h=>by cases h;exact⟨rfl,e5,e6.trans c2,c2,c3⟩⟩
def padL(l:Nat)(a:List Nat):List Nat:=a++List.replicate (l - a.length) 0
theorem Q1s{l:Nat}{a:List Nat}(h:a.length≤l):(padL l a).length=l:=by unfold padL;simp;omega
theorem Q1t(l:Nat)(a:List Nat):val (padL l a)=val a:=by unfold padL;rw[Wr,Qd3];simp
theorem Q26{l:Nat}{a:List Nat}(h:Wd a):Wd (padL l a):=Js.2 ⟨h,Qjx (by omega)⟩
theorem Q1u{l:Nat}{a:List Nat}{j:Nat}(h:j<(padL l a).length):(padL l a)[j]=a.getD j 0:=by unfold padL at h ⊢;by_cases hj:j<a.length;rw[List.getElem_append_left hj];simp[hj];rw[List.getElem_append_right (by omega),List.getElem_replicate];simp[List.getElem?_eq_none (show a.length≤j by omega)]
theorem Qku{n:Nat}{a b:List Nat}(hn:big≤n)(ha:a.length≤4611686018427387904)(hb:b.length≤4611686018427387904)(hwa:Wd a)(hwb:Wd b):Xq n a b=some (cmpI (val a) (val b)):=by
 unfold Xq;obtain⟨l,hl⟩:∃ l:Nat,l=max a.length b.length:=⟨_,rfl⟩
 have hmax:max (a.length:Int) (b.length:Int)=(l:Int):=by omega
 have la:=Q1s (l:=l) (a:=a) (by omega);have lb:=Q1s (l:=l) (a:=b) (by omega);have wa:=Q26 (l:=l) hwa;have wb:=Q26 (l:=l) hwb;have ga:∀ j (h:j<(padL l a).length),(padL l a)[j]=a.getD j 0:=λj h=>Q1u h;have gb:∀ j (h:j<(padL l b).length),(padL l b)[j]=b.getD j 0:=λj h=>Q1u h;rw[hmax,←Q1t l a,←Q1t l b];generalize padL l a=a' at *;generalize padL l b=b' at *;unfold big at hn;rw[w64 (by omega) (by omega)];refine Y7 (λs=>(s+1).toNat) (λs=>∃ k:Nat,s=(k:Int) - 1∧k≤l∧a'.drop k=b'.drop k) (λt=>(t=.go ()∧a'=b')∨(t=.out (-1)∧val a'<val b')∨(t=.out 1∧val b'<val a')) ⟨l,rfl,Nat.le_refl _,by rw[List.drop_of_length_le (by omega),List.drop_of_length_le (by omega)]⟩ (by omega) ?_ ?_;rintro s ⟨k,rfl,hk,ht⟩;simp only[bifd];by_cases h0:0<k;obtain⟨j,rfl⟩:∃ j,k=j+1:=⟨k - 1,by omega⟩
 have hj:j<a'.length:=by omega
 have hj':j<b'.length:=by omega
 rw[if_pos (by omega),show((j+1:Nat):Int) - 1=(j:Nat) by omega,Qbz,sbind,Qbz,sbind,←ga j hj,←gb j hj'];by_cases g1:a'[j]<b'[j];right;rw[if_pos g1];exact⟨_,rfl,.inr (.inl ⟨rfl,Qtb wa hj hj' ht g1⟩)⟩;rw[if_neg g1];by_cases g2:b'[j]<a'[j];right;rw[if_pos g2];exact⟨_,rfl,.inr (.inr ⟨rfl,Qtb wb hj' hj ht.symm g2⟩)⟩;left;rw[if_neg g2,w64 (by omega) (by omega)];refine⟨_,rfl,⟨j,rfl,by omega,?_⟩,by omega⟩;rw[List.drop_eq_getElem_cons hj,List.drop_eq_getElem_cons hj',ht,show a'[j]=b'[j] by omega];right;obtain rfl:k=0:=by omega
 rw[if_neg (by omega)];exact⟨_,rfl,.inl ⟨rfl,by simpa using ht⟩⟩;rintro t (⟨rfl,h⟩ | ⟨rfl,h⟩ | ⟨rfl,h⟩);rw[Xf,h];simp[cmpI];rw[Zu,cmpI,if_pos h];rw[Zu,cmpI,if_neg (by omega),if_pos h]
theorem Q1v{x y c:Nat}(hx:x<4294967296)(hy:y<4294967296)(hc:c≤1):∃ d c',d<4294967296∧c'≤1∧d+y+c=x+4294967296*c' ∧
 ∀ {R:Type}(k:Nat×Nat->R),(if x<(y+c)%18446744073709551616 then k (1,(x+4294967296)%18446744073709551616) else k (0,x))=k (c',x+4294967296*c')∧(x+4294967296*c'+18446744073709551616 - (y+c)%18446744073709551616)%18446744073709551616%4294967296=d:=by
 rw[Nat.mod_eq_of_lt (show y+c<18446744073709551616 by omega)];by_cases h:x<y+c;exact⟨x+4294967296 - (y+c),1,by omega,by omega,by omega,λk=>⟨by rw[if_pos h,Nat.mod_eq_of_lt (by omega)],by omega⟩⟩;exact⟨x - (y+c),0,by omega,by omega,by omega,λk=>⟨by rw[if_neg h];rfl,by omega⟩⟩
theorem Qy3{P s o av bv:Nat}(h:o+bv=av+P*s)(hle:bv≤av)(ho:o<P):s=0:=by rcases Nat.eq_zero_or_pos s with h' | h';exact h';exfalso;have:P*1≤P*s:=Nat.mul_le_mul_left _ h';omega
theorem Qp9{n:Nat}{a b:List Nat}(hn:big≤n)(ha:a.length<17592186044416)(hb:b.length<17592186044416)(hwa:Wd a)(hwb:Wd b)(hle:val b≤val a):Wu n a b=some (toL (val a - val b)):=by
 unfold Wu;unfold big at hn;obtain⟨l,hl⟩:∃ l:Nat,l=max a.length b.length:=⟨_,rfl⟩
 have hmax:max (a.length:Int) (b.length:Int)=(l:Int):=by omega
 rw[hmax,Qe4 (by omega) (by omega),sbind]
 refine Y7 (λs=>l - s.2.2.toNat) (λs=>∃(k:Nat) (o:List Nat),s.2.2=k∧k≤l∧s.1=o++List.replicate (l - k) 0∧o.length=k∧Wd o∧s.2.1≤1∧val o+val (b.take k)=val (a.take k)+bp k*s.2.1)
  (λt=>t.length=l∧Wd t∧val t=val a - val b) ⟨0,[],rfl,by omega,by simp,rfl,K5,by simp,by simp[val,Yo]⟩ (by simp only[];omega) ?_ ?_
 rintro⟨q,s,i⟩ ⟨k,o,h1,h2,h3,h4,h5,h6,h7⟩;simp only at h1 h3 h6 h7;subst h1 h3;simp only[sbind,bifd,jn_eq];by_cases hk:k<l;left;have hx:=Qg8 hwa k;have hy:=Qg8 hwb k;obtain⟨d,c',g1,g2,g3,g4⟩:=Q1v hx hy h6;rw[if_pos (by omega),Qbz,sbind,Qbz,sbind];have g5:=(g4 (λs34:Nat×Nat=>(getI (o++List.replicate (l - k) 0) (k:Int)).bind λ_=>some (Lp.go (σ:=List Nat×Nat×Int) (τ:=List Nat) ((o++List.replicate (l - k) 0).set (Int.toNat (k:Int)) ((s34.2+18446744073709551616 - (b.getD k 0+s)%18446744073709551616)%18446744073709551616%4294967296),s34.1,wrap64 ((k:Int)+1))))).1;have g6:=(g4 (λ_=>())).2;rw[g5];simp only[];rw[g6];obtain⟨j,hj⟩:∃ j,l - k=j+1:=⟨l - k - 1,by omega⟩
 rw[hj,List.replicate_succ,Kx h4,sbind,W5 h4,w64 (by omega) (by omega)];refine⟨_,rfl,⟨k+1,o++[d],by simp only[];omega,by omega,?_,by simp[h4],Js.2 ⟨h5,Jx.2 ⟨g1,K5⟩⟩,g2,?_⟩,by simp only[];omega⟩;simp only[];rw[show l - (k+1)=j by omega];simp;simp only[];rw[Wl,Wl,Kc,h4,K1];exact Qus _ _ _ _ _ _ _ _ _ g3 h7;right;obtain rfl:k=l:=by omega
 rw[if_neg (by omega)];refine⟨_,rfl,by simp[h4],by simpa using h5,?_⟩;rw[List.take_of_length_le (by omega),List.take_of_length_le (by omega)] at h7;have h8:s=0:=Qy3 h7 hle (by rw[←h4];exact W2 h5);rw[h8,Nat.mul_zero,Nat.add_zero] at h7;simp only[Nat.sub_self,List.replicate_zero,List.append_nil];omega;rintro t ⟨h1,h2,h3⟩;rw[Wk (by unfold big;exact hn) (by omega),sbind,←Jy h2,h3]
theorem Qim{k l:Nat}(h:k<l):grd (winS (k:Int) l)=some ():=grd_t (by unfold winS;simp;omega)
theorem Qoh{n:Nat}{p a q b:List Nat}(hn:big≤n)(hl:p.length+a.length+q.length<17592186044416)(hb:b.length≤a.length)(hwa:Wd a)(hwb:Wd b)(hle:val b≤val a):
 ∃ r,V8 n (p++a++q) p.length a.length b=some (p++r++q)∧r.length=a.length∧Wd r∧val r=val a - val b:=by
 have key:∃ r,V8 n (p++a++q) p.length a.length b=some r∧∃ r',r=p++r'++q∧r'.length=a.length∧Wd r'∧val r'=val a - val b:=by
  unfold V8;unfold big at hn
  refine Qdp (λs=>a.length - s.2.2.toNat) (λs=>∃(k:Nat) (o:List Nat),s.2.2=k∧k≤a.length∧s.1=p++o++(a.drop k++q)∧o.length=k∧Wd o∧s.2.1≤1∧val o+val (b.take k)=val (a.take k)+bp k*s.2.1)
   (λt=>∃ o,t=p++o++q∧o.length=a.length∧Wd o∧val o=val a - val b) ⟨0,[],rfl,by omega,by simp,rfl,K5,by simp,by simp[val,Yo]⟩ (by simp only[];omega) ?_ ?_
  rintro⟨w,s,i⟩ ⟨k,o,h1,h2,h3,h4,h5,h6,h7⟩;simp only at h1 h3 h6 h7;subst h1 h3;simp only[sbind,bifd,jn_eq];by_cases hk:k<a.length;left;have hx:=Y8 hwa hk;have hy:=Qg8 hwb k;obtain⟨d,c',g1,g2,g3,g4⟩:=Q1v hx hy h6;rw[if_pos (by omega),Qim hk,sbind,show((p.length:Int)+(k:Int))=((p.length+k:Nat):Int) by omega,List.drop_eq_getElem_cons hk,List.cons_append,Kx (by simp;omega),sbind,Qbz,sbind];have g5:=(g4 (λs38:Nat×Nat=>(getI (p++o++a[k]::(a.drop (k+1)++q)) ((p.length+k:Nat):Int)).bind λ_=>some (Lp.go (σ:=List Nat×Nat×Int) (τ:=List Nat) ((p++o++a[k]::(a.drop (k+1)++q)).set (Int.toNat ((p.length+k:Nat):Int)) ((s38.2+18446744073709551616 - (b.getD k 0+s)%18446744073709551616)%18446744073709551616%4294967296),s38.1,wrap64 ((k:Int)+1))))).1;have g6:=(g4 (λ_=>())).2;rw[Kx (by simp;omega)] at g5;simp only[sbind,Qim hk] at g5 ⊢;rw[g5,g6,W5 (by simp;omega),w64 (by omega) (by omega)];refine⟨_,rfl,⟨k+1,o++[d],by simp only[];omega,by omega,by simp,by simp[h4],Js.2 ⟨h5,Jx.2 ⟨g1,K5⟩⟩,g2,?_⟩,by simp only[];omega⟩;simp only[];rw[Wl,Kq hk,Kc,Kc,List.length_take,Nat.min_eq_left (by omega),h4,K1];exact Qus _ _ _ _ _ _ _ _ _ g3 h7;right;obtain rfl:k=a.length:=by omega
  rw[if_neg (by omega)];refine⟨_,rfl,o,by simp,h4,h5,?_⟩;rw[List.take_of_length_le (by omega),List.take_of_length_le (by omega)] at h7;have h8:s=0:=Qy3 h7 hle (by rw[←h4];exact W2 h5);rw[h8,Nat.mul_zero,Nat.add_zero] at h7;omega;rintro t ⟨o,rfl,h1,h2,h3⟩;exact⟨_,rfl,o,rfl,h1,h2,h3⟩
 obtain⟨r,h1,r',h2,h3,h4,h5⟩:=key;exact⟨r',by rw[h1,h2],h3,h4,h5⟩
theorem Q68(P y c c' d V A m:Nat)(e:d+4294967296*c'=2*y+c)(h:V+P*c=2*A+m):V+P*d+P*4294967296*c'=2*(A+P*y)+m:=by grind
theorem Ql2{n:Nat}{a:List Nat}{b:Bool}(hn:big≤n)(hl:a.length<17592186044416)(hwa:Wd a):
 ∃ r c,Wn n a b=some r∧r.length=a.length∧Wd r∧val r+bp a.length*c=2*val a+b.toNat:=by
 have key:∃ r,Wn n a b=some r∧∃ c,r.length=a.length∧Wd r∧val r+bp a.length*c=2*val a+b.toNat:=by
  unfold Wn;unfold big at hn;have e:∀ k:Nat->Option (List Nat),jn (λ(j1:(Nat)->Option _)=>bif b then (j1 1) else (j1 0)) k=k b.toNat:=by intro k;cases b<;>rfl
  rw[e]
  refine Qdp (λs=>a.length - s.2.2.toNat) (λs=>∃(k:Nat) (o:List Nat),s.2.2=k∧k≤a.length∧s.1=o++a.drop k∧o.length=k∧Wd o∧s.2.1≤1∧val o+bp k*s.2.1=2*val (a.take k)+b.toNat)
   (λt=>∃ c,t.length=a.length∧Wd t∧val t+bp a.length*c=2*val a+b.toNat) ⟨0,[],rfl,by omega,by simp,rfl,K5,by simp only[];cases b<;>decide,by simp[val,Yo]⟩ (by simp only[];omega) ?_ ?_
  rintro⟨w,s,i⟩ ⟨k,o,h1,h2,h3,h4,h5,h6,h7⟩;simp only at h1 h3 h6 h7;subst h1 h3;simp only[sbind,bifd];have hol:(o++a.drop k).length=a.length:=by simp;omega
  by_cases hk:k<a.length;left;have hx:=Y8 hwa hk;rw[if_pos (by rw[hol];omega),List.drop_eq_getElem_cons hk,Kx h4,sbind,sbind,sbind,W5 h4,w64 (by omega) (by omega)];refine⟨_,rfl,⟨k+1,o++[(a[k]*2%4294967296+s)%4294967296],by simp only[];omega,by omega,by simp,by simp[h4],Js.2 ⟨h5,Jx.2 ⟨by omega,K5⟩⟩,by simp only[];omega,?_⟩,by simp only[];omega⟩;simp only[];rw[Kq hk,Kc,Kc,List.length_take,Nat.min_eq_left (by omega),h4,K1];exact Q68 _ _ _ _ _ _ _ _ (by omega) h7;right;obtain rfl:k=a.length:=by omega
  rw[if_neg (by rw[hol];omega)];rw[List.take_of_length_le (by omega)] at h7;exact⟨_,rfl,s,by simp;omega,by simpa using h5,by simpa using h7⟩;rintro t ⟨c,h1,h2,h3⟩;exact⟨_,rfl,c,h1,h2,h3⟩
 obtain⟨r,h1,c,h2⟩:=key;exact⟨r,c,h1,h2⟩
theorem Q69(w t r:Nat)(hr:r<32):(w+4294967296*t) / 2 ^ r%2=w / 2 ^ r%2:=by
 have e:(4294967296:Nat)=2 ^ r*(2*2 ^ (31 - r)):=by rw[←Nat.mul_assoc,Nat.mul_comm (2 ^ r) 2,Nat.mul_assoc,←Nat.pow_add,show r+(31 - r)=31 by omega]
 rw[e,Nat.mul_assoc,Nat.add_mul_div_left _ _ (Nat.two_pow_pos r),Nat.mul_assoc 2,Nat.add_mul_mod_self_left]
theorem Q27{a:List Nat}(hw:Wd a)(q r:Nat)(hr:r<32):val a / 2 ^ (32*q+r)%2=a.getD q 0 / 2 ^ r%2:=by rw[Nat.pow_add,←Qh7,←Nat.div_div_eq_div_mul,Qn3 hw];by_cases h:q<a.length;rw[List.drop_eq_getElem_cons h];simp only[val];rw[Q69 _ _ _ hr];simp[h];rw[List.drop_of_length_le (by omega)];simp[val,List.getElem?_eq_none (show a.length≤q by omega)]
theorem Qx0{n i:Nat}{a:List Nat}(hn:big≤n)(hi:i<4611686018427387904)(hw:Wd a):Qag n a (i:Int)=some (decide (val a / 2 ^ i%2=1)):=by unfold Qag;have hd:Int.tdiv (i:Int) 32=((i / 32:Nat):Int):=rfl;have hm:Int.tmod (i:Int) 32=((i%32:Nat):Int):=rfl;have hb:=Q27 hw (i / 32) (i%32) (Nat.mod_lt _ (by decide));rw[show 32*(i / 32)+i%32=i by omega] at hb;rw[hd,hm,w64 (by omega) (by omega),hb];simp only[jn_eq,bifd];rw[if_neg (by omega)];by_cases h:i / 32<a.length;rw[if_neg (by omega),Qa1 h,sbind];rw[Wq (λk=>(a[i / 32] / 2 ^ k,(k:Int))) (i%32) (a[i / 32] / 2 ^ (i%32))];simp[h];intro k hk;simp only[];rw[if_pos (by omega),Nat.div_div_eq_div_mul,←Nat.pow_succ,w1 (by omega)];simp only[];rw[if_neg (by omega)];unfold big at hn;omega;simp;rw[if_pos (by omega)];simp[List.getElem?_eq_none (show a.length≤i / 32 by omega)]
theorem Qkv{n:Nat}{a:List Nat}(hn:big≤n)(hl:a.length<17592186044416)(hw:Wd a):Xr n a=some (blen (val a):Int):=by
 unfold Xr;rw[w64 (by omega) (by omega)];have h0:val a<2 ^ (32*a.length):=by rw[←Qh7];exact W2 hw
 refine Y7 (λs=>s.toNat) (λs=>∃ k:Nat,s=k∧k≤32*a.length∧val a<2 ^ k) (λt=>t=(blen (val a):Int)) ⟨32*a.length,by omega,Nat.le_refl _,h0⟩ (by unfold big at hn;omega) ?_ ?_;rintro s ⟨k,rfl,hk,hv⟩;simp only[jn_eq,bifd];by_cases h:0<k;obtain⟨j,rfl⟩:∃ j,k=j+1:=⟨k - 1,by omega⟩
 rw[if_pos (by omega),w64 (by omega) (by omega),show((j+1:Nat):Int) - 1=(j:Nat) by omega,Qx0 hn (by omega) hw,sbind];by_cases hb:val a / 2 ^ j%2=1;right;rw[decide_eq_true hb,Bool.not_true,bifF];refine⟨_,rfl,?_⟩;have h1:2 ^ j≤val a:=by rcases Nat.lt_or_ge (val a) (2 ^ j) with g | g;rw[Nat.div_eq_of_lt g] at hb;cases hb;exact g
 rw[Qxl h1 hv];left;rw[decide_eq_false hb,Bool.not_false,bifT];refine⟨_,rfl,⟨j,rfl,by omega,?_⟩,by omega⟩;have h2:val a / 2 ^ j<2:=Nat.div_lt_of_lt_mul (by rw[←Nat.pow_succ];exact hv);have h3:val a / 2 ^ j=0:=by clear hv h0;generalize val a / 2 ^ j=z at *;omega
 rcases Nat.lt_or_ge (val a) (2 ^ j) with g | g;exact g;have:=Nat.div_pos g (Nat.two_pow_pos j);omega;right;obtain rfl:k=0:=by omega
 rw[if_neg (by omega),bifF];refine⟨_,rfl,?_⟩;have:val a=0:=by simpa using hv
 rw[this,Qe7];rintro t rfl;rfl
theorem Qy4{P c x:Nat}(h:P*c≤x)(hx:x<P):c=0:=by rcases Nat.eq_zero_or_pos c with h' | h';exact h';exfalso;have:P*1≤P*c:=Nat.mul_le_mul_left _ h';omega
theorem Q7a(x j:Nat):x / 2 ^ j=2*(x / 2 ^ (j+1))+x / 2 ^ j%2:=by rw[Nat.pow_succ,←Nat.div_div_eq_div_mul];generalize x / 2 ^ j=z;omega
theorem Q54{a b q r:Nat}(h:a=q*b+r)(hr:r<b):q=a / b∧r=a%b:=by
 have h0:0<b:=by omega
 rw[h,Nat.mul_comm q b,Nat.mul_add_div h0,Nat.mul_add_mod,Nat.div_eq_of_lt hr,Nat.mod_eq_of_lt hr];exact⟨by omega,rfl⟩
theorem Q55{A A2 q q2 r r2 b t:Nat}(e:A=2*A2+t)(h:A2=q*b+r)(h1:q2=2*q)(h2:r2=2*r+t):A=q2*b+r2:=by subst h1 h2;grind
theorem Q56{A A2 q q2 q3 r r2 r3 b t:Nat}(e:A=2*A2+t)(h:A2=q*b+r)(h1:q2=2*q)(h2:r2=2*r+t)(h3:q3=q2+1)(h4:r3=r2 - b)(h5:b≤r2):A=q3*b+r3:=by
 obtain⟨d,rfl⟩:∃ d,r2=b+d:=⟨r2 - b,by omega⟩
 have:r3=d:=by omega
 subst this h3 h1;grind
theorem Q28{x y:Nat}:0≤cmpI x y↔y≤x:=by unfold cmpI;split;constructor<;>intro h<;>omega;split<;>constructor<;>intro h<;>omega
theorem Q1w{k:Nat}(h:k<32):(1*2 ^ min (Int.toNat (k:Int)) 32)%4294967296=2 ^ k:=by rw[Int.toNat_natCast,Nat.min_eq_left (by omega),Nat.one_mul];exact Nat.mod_eq_of_lt (Nat.lt_of_lt_of_le (Nat.pow_lt_pow_right (by decide) h) (by decide))
theorem Qrm{a:List Nat}(hw:Wd a):blen (val a)≤32*a.length:=by by_cases h:val a=0;rw[h,Qe7];omega;have h1:=Qko h;have h2:=W2 hw;rw[Qh7] at h2;have h3:=(Nat.pow_lt_pow_iff_right (show 1<2 by decide)).1 (Nat.lt_of_le_of_lt h1 h2);omega
theorem Qx1{n:Nat}{a b:List Nat}(hn:big≤n)(ha:a.length<17592186044410)(hb:b.length<17592186044410)(hwa:Wd a)(hwb:Wd b)(h0:val b≠0):
 Qah n a b=some (toL (val a / val b),toL (val a%val b)):=by
 unfold Qah;have hbl:=Qrm hwa;have hbb:=W2 hwb;have hva:=W2 hwa;rw[w64 (x:=(b.length:Int)+1) (by omega) (by omega),show((b.length:Int)+1)=((b.length+1:Nat):Int) by omega,Qe4 (by omega) (by omega),sbind,Qe4 (by omega) (by omega),sbind,Qkv hn (by omega) hwa,sbind,w64 (by omega) (by omega)]
 refine Y7 (λs=>(s.2.2+1).toNat) (λs=>∃ k:Nat,s.2.2=(k:Int) - 1∧k≤blen (val a)∧s.1.length=a.length∧s.2.1.length=b.length+1∧Wd s.1∧Wd s.2.1∧val s.2.1<val b∧val a / 2 ^ k=val s.1*val b+val s.2.1)
  (λt=>t.1.length=a.length∧t.2.length=b.length+1∧Wd t.1∧Wd t.2∧val t.2<val b∧val a=val t.1*val b+val t.2) ⟨blen (val a),rfl,Nat.le_refl _,by simp,by simp,Qjx (by decide),Qjx (by decide),by simp only[];rw[Qd3];omega,by simp only[];rw[Qd3,Qd3,Nat.div_eq_of_lt Qmk];simp⟩ (by simp only[];unfold big at hn;omega) ?_ ?_
 rintro⟨q,r,i⟩ ⟨k,h1,h2,h3,h4,h5,h6,h7,h8⟩;simp only at h1 h3 h4 h5 h6 h7 h8;subst h1;simp only[jn_eq,sbind];by_cases hk:0<k;left;obtain⟨j,rfl⟩:∃ j,k=j+1:=⟨k - 1,by omega⟩
 have hd:Int.tdiv (j:Int) 32=((j / 32:Nat):Int):=rfl;have hm:Int.tmod (j:Int) 32=((j%32:Nat):Int):=rfl;have hq:j / 32<a.length:=by omega
 have hp:(1*2 ^ min (Int.toNat ((j%32:Nat):Int)) 32)%4294967296=2 ^ (j%32):=Q1w (Nat.mod_lt _ (by decide));have hbit:=Q27 hwa (j / 32) (j%32) (Nat.mod_lt _ (by decide));rw[show 32*(j / 32)+j%32=j by omega,show a.getD (j / 32) 0=a[j / 32] by simp[hq]] at hbit;have hp0:0<2 ^ (j%32):=Nat.two_pow_pos _;obtain⟨r2,c1,d1,d2,d3,d4⟩:=Ql2 (b:=decide (a[j / 32] / 2 ^ (j%32)%2=1)) hn (show r.length<17592186044416 by omega) h6;obtain⟨q2,c2,e1,e2,e3,e4⟩:=Ql2 (b:=false) hn (show q.length<17592186044416 by omega) h5;have hhb:=Q7a (val a) j;have ht:(decide (a[j / 32] / 2 ^ (j%32)%2=1)).toNat=val a / 2 ^ j%2:=by
  rw[hbit];generalize a[j / 32] / 2 ^ (j%32)=z;by_cases g:z%2=1;rw[decide_eq_true g,g];rfl;rw[decide_eq_false g];simp only[Bool.toNat_false];omega
 rw[ht] at d4;have ht2:val a / 2 ^ j%2<2:=Nat.mod_lt _ (by decide);have hAle:val a / 2 ^ j≤val a:=Nat.div_le_self _ _;generalize hA:val a / 2 ^ j=A at *;generalize hA2:val a / 2 ^ (j+1)=A2 at *;generalize A%2=t at *;have hqb:val q≤val q*val b:=Nat.le_mul_of_pos_right _ (by omega);have c1z:c1=0:=by rw[h4,K1] at d4;refine Qy4 (P:=bp b.length*4294967296) (x:=2*val r+t) (by omega) ?_;omega
 have c2z:c2=0:=by rw[h3] at e4;refine Qy4 (P:=bp a.length) (x:=2*val q+0) (by simp only[Bool.toNat_false] at e4;omega) (by omega)
 subst c1z c2z;simp only[Nat.mul_zero,Nat.add_zero,Bool.toNat_false] at d4 e4;simp only[show((j+1:Nat):Int) - 1=(j:Nat) by omega,hd,hm,w64 (x:=((j / 32:Nat):Int)) (by omega) (by omega),hp];rw[decide_eq_true (show(0:Int)≤(j:Int) by omega),bifT,Qa1 hq,sbind,grd_t (decide_eq_true (Int.natCast_nonneg _)),sbind,grd_t (bne_iff_ne.2 (by omega)),sbind,d1,sbind,e1,sbind,Qku hn (by omega) (by omega) d3 hwb,sbind,bifd];by_cases hge:val b≤val r2;rw[if_pos (Q28.2 hge)];obtain⟨r3,l1,l2,l3,l4⟩:=Qoh (p:=[]) (q:=[]) hn (by simp;omega) (show b.length≤r2.length by omega) d3 hwb hge;simp only[List.nil_append,List.append_nil,List.length_nil] at l1;rw[l1,sbind];cases q2 with
 | nil=>simp at e2;omega
 | cons x t2=>
   obtain⟨x1,x2⟩:=Jx.1 e3;have hv:val (x::t2)=x+4294967296*val t2:=rfl;rw[hv] at e4;rw[show getI (x::t2) 0=some x from rfl,sbind,sbind,show(x::t2).set (Int.toNat 0) ((x+1)%4294967296)=(x+1)%4294967296::t2 from rfl,w64 (by omega) (by omega)];have hx:(x+1)%4294967296=x+1:=by omega
   rw[hx];refine⟨_,rfl,⟨j,rfl,by omega,by simpa [h3] using e2,by simp only[];omega,Jx.2 ⟨by omega,x2⟩,l3,by simp only[];omega,?_⟩,by simp only[];omega⟩;simp only[];rw[hA];exact Q56 hhb h8 e4 d4 (by simp only[val];omega) l4 hge
 rw[if_neg (λh=>hge (Q28.1 h)),w64 (by omega) (by omega)];refine⟨_,rfl,⟨j,rfl,by omega,by simp only[];omega,by simp only[];omega,e3,d3,by simp only[];omega,?_⟩,by simp only[];omega⟩;simp only[];rw[hA];exact Q55 hhb h8 e4 d4;right;obtain rfl:k=0:=by omega
 rw[decide_eq_false (by omega),bifF];rw[Nat.pow_zero,Nat.div_one] at h8;exact⟨_,rfl,h3,h4,h5,h6,h7,h8⟩;rintro⟨q,r⟩ ⟨h1,h2,h3,h4,h5,h6⟩;simp only at h1 h2 h3 h4 h5 h6;obtain⟨e1,e2⟩:=Q54 h6 h5;simp only[];rw[Wk hn (by omega),sbind,Wk hn (by omega),sbind,←Jy h3,←Jy h4,←e1,←e2]
theorem Q7b{x c y:Nat}(h:x=2 ^ c*y)(h2:y%2=0):x=2 ^ (c+1)*(y / 2):=by rw[Nat.pow_succ,Nat.mul_assoc,h];congr 1;omega
theorem Q57{x c y k:Nat}(h:x=2 ^ c*y)(h0:y≠0)(hx:x<2 ^ k):c<k:=by have h1:2 ^ c*1≤2 ^ c*y:=Nat.mul_le_mul_left _ (by omega);exact(Nat.pow_lt_pow_iff_right (show 1<2 by decide)).1 (show 2 ^ c<2 ^ k by omega)
theorem Qu0{n x:Nat}(hn:big≤n)(h0:x≠0)(hx:x<4294967296):∃ z o:Nat,Xz n x=some (z:Int)∧z<32∧x=2 ^ z*o∧o%2=1:=by
 have hx2:x<2 ^ 32:=hx;have key:∃ r:Int,Xz n x=some r∧∃ z o:Nat,r=z∧z<32∧x=2 ^ z*o∧o%2=1:=by unfold Xz;rw[bifd,if_neg h0];refine Qdp (λs=>s.1) (λs=>∃ c:Nat,s.2=c∧x=2 ^ c*s.1∧s.1≠0) (λt=>∃ z o:Nat,t=z∧z<32∧x=2 ^ z*o∧o%2=1) ⟨0,rfl,by simp,h0⟩ (by simp only[];unfold big at hn;omega) ?_ ?_;rintro⟨y,i⟩ ⟨c,h1,h2,h3⟩;simp only at h1 h2 h3;subst h1;have hc:=Q57 h2 h3 hx2;simp only[bifd];by_cases h:y%2=0;left;rw[if_pos h,w1 (by omega)];exact⟨_,rfl,⟨c+1,rfl,Q7b h2 h,by simp only[];omega⟩,by simp only[];omega⟩;right;rw[if_neg h];exact⟨_,rfl,c,y,rfl,hc,h2,by omega⟩;rintro t ⟨z,o,rfl,h1,h2,h3⟩;exact⟨_,rfl,z,o,rfl,h1,h2,h3⟩
 obtain⟨r,h1,z,o,rfl,h2,h3,h4⟩:=key;exact⟨z,o,h1,h2,h3,h4⟩
theorem Qqa(a:List Nat):Yv a=some (decide (a=[1])):=by
 unfold Yv;simp only[jn_eq,bifd]
 match a with
 | []=>rfl
 | [x]=>rw[if_pos (show(([x]:List Nat).length:Int)=1 from rfl)];exact congrArg some (decide_eq_decide.2 (by simp))
 | x::y::t=>rw[if_neg (by simp;omega)];simp
theorem mid2{α:Type}(l:List α)(x y:α)(r:List α):l++x::y::r=(l++[x])++y::r:=by simp
theorem Q58{a a' V z:Nat}(hz:z<32)(ha:a<4294967296)(ha':a'<4294967296):
 (a+4294967296*(a'+4294967296*V)) / 2 ^ z=((a'*4294967296)%18446744073709551616+a)%18446744073709551616 / 2 ^ (min z 64)%4294967296+4294967296*((a'+4294967296*V) / 2 ^ z):=by
 rw[Nat.mod_eq_of_lt (show a'*4294967296<18446744073709551616 by omega),Nat.mod_eq_of_lt (show a'*4294967296+a<18446744073709551616 by omega),Nat.min_eq_left (by omega)];have h1:(a+4294967296*(a'+4294967296*V)) / 2 ^ z / 4294967296=(a'+4294967296*V) / 2 ^ z:=by rw[Nat.div_div_eq_div_mul,Nat.mul_comm (2 ^ z) 4294967296,←Nat.div_div_eq_div_mul];congr 1;omega
 have h2:(a+4294967296*(a'+4294967296*V)) / 2 ^ z%4294967296=(a'*4294967296+a) / 2 ^ z%4294967296:=by
  have e:(4294967296:Nat)=2 ^ z*2 ^ (32 - z):=by rw[←Nat.pow_add,show z+(32 - z)=32 by omega]
  have e2:a+4294967296*(a'+4294967296*V)=(a'*4294967296+a)+2 ^ z*(4294967296*(2 ^ (32 - z)*V)):=by rw[Nat.mul_left_comm (2 ^ z),←Nat.mul_assoc (2 ^ z),←e];omega
  rw[e2,Nat.add_mul_div_left _ _ (Nat.two_pow_pos z),Nat.add_mul_mod_self_left]
 rw[←h1,←h2];omega
theorem Qih{a:List Nat}{k:Nat}(h:k<a.length):val (a.drop k)=a[k]+4294967296*val (a.drop (k+1)):=by rw[List.drop_eq_getElem_cons h];rfl
theorem Qz0{a:List Nat}{k:Nat}:val (a.drop k)=a.getD k 0+4294967296*val (a.drop (k+1)):=by by_cases h:k<a.length;rw[Qih h];simp[h];rw[List.drop_of_length_le (by omega),List.drop_of_length_le (by omega)];simp[val,List.getElem?_eq_none (show a.length≤k by omega)]
theorem Q59(P w V2 V V1 A:Nat)(e:V=w+4294967296*V2)(h:V1+P*V=A):V1+P*w+P*4294967296*V2=A:=by grind
theorem Qwu{n z:Nat}{p a q:List Nat}(hn:big≤n)(hl:p.length+a.length+q.length<17592186044416)(hwa:Wd a)(hz:z<32):
 ∃ r k,Yi n (p++a++q) p.length a.length (z:Int)=some (p.length,k,p++r++q)∧r.length=a.length∧Wd r∧k≤r.length∧r.take k=toL (val a / 2 ^ z):=by
 have key:∃ w,Yi n (p++a++q) p.length a.length (z:Int)=some w∧∃ r k,w=(p.length,k,p++r++q)∧r.length=a.length∧Wd r∧k≤r.length∧r.take k=toL (val a / 2 ^ z):=by
  unfold Yi
  refine Qdp (λs=>a.length - s.2.toNat) (λs=>∃(k:Nat) (o:List Nat),s.2=k∧k≤a.length∧s.1=p++o++(a.drop k++q)∧o.length=k∧Wd o∧val o+bp k*(val (a.drop k) / 2 ^ z)=val a / 2 ^ z)
   (λt=>∃ o,t=p++o++q∧o.length=a.length∧Wd o∧val o=val a / 2 ^ z) ⟨0,[],rfl,by omega,by simp,rfl,K5,by simp[val,Yo]⟩ (by simp only[];unfold big at hn;omega) ?_ ?_
  rintro⟨w,i⟩ ⟨k,o,h1,h2,h3,h4,h5,h6⟩;simp only at h1 h3 h6;subst h1 h3;simp only[bifd,jn_eq,sbind];by_cases hk:k<a.length;left;have hx:=Y8 hwa hk;have hy:=Qg8 hwa (k+1);have hdw:=Q58 (V:=val (a.drop (k+1+1))) hz hx hy;have hget:∀(K:Nat->Option (Lp (List Nat×Int) (List Nat))),(if wrap64 ((k:Int)+1)<(a.length:Int) then (grd (winS (wrap64 ((k:Int)+1)) a.length)).bind λ_=>(getI (p++o++(a.drop k++q)) ((p.length:Int)+wrap64 ((k:Int)+1))).bind λy48=>K y48 else K 0)=K (a.getD (k+1) 0):=by
   intro K;rw[w1 (by omega)];by_cases hk1:k+1<a.length;rw[if_pos (by omega),Qim hk1,sbind,show((p.length:Int)+((k+1:Nat):Int))=((p.length+k+1:Nat):Int) by omega,List.drop_eq_getElem_cons hk,List.drop_eq_getElem_cons hk1,List.cons_append,List.cons_append,mid2,Kx (by simp;omega),sbind];simp[hk1];rw[if_neg (by omega)];simp[List.getElem?_eq_none (show a.length≤k+1 by omega)]
  rw[if_pos (by omega),hget (λs47=>(grd (winS (k:Int) a.length)).bind λ_=>(getI (p++o++(a.drop k++q)) ((p.length:Int)+(k:Int))).bind λy51=>(grd (decide (0≤(z:Int)))).bind λ_=>(grd (winS (k:Int) a.length)).bind λ_=>(getI (p++o++(a.drop k++q)) ((p.length:Int)+(k:Int))).bind λ_=>some (Lp.go ((p++o++(a.drop k++q)).set (Int.toNat ((p.length:Int)+(k:Int))) (((s47*4294967296)%18446744073709551616+y51)%18446744073709551616 / 2 ^ (min (Int.toNat (z:Int)) 64)%4294967296),wrap64 ((k:Int)+1))))];rw[Qim hk,sbind,show((p.length:Int)+(k:Int))=((p.length+k:Nat):Int) by omega,List.drop_eq_getElem_cons hk,List.cons_append,Kx (by simp;omega),sbind,grd_t (decide_eq_true (Int.natCast_nonneg _)),sbind,sbind,sbind,W5 (by simp;omega),w1 (by omega),Int.toNat_natCast];have hwl:(a.getD (k+1) 0*4294967296%18446744073709551616+a[k])%18446744073709551616 / 2 ^ min z 64%4294967296<4294967296:=Nat.mod_lt _ (by decide);generalize (a.getD (k+1) 0*4294967296%18446744073709551616+a[k])%18446744073709551616 / 2 ^ min z 64%4294967296=w at hdw hwl ⊢;refine⟨_,rfl,⟨k+1,o++[w],rfl,by omega,by simp,by simp[h4],Js.2 ⟨h5,Jx.2 ⟨hwl,K5⟩⟩,?_⟩,by simp only[];omega⟩;rw[Kc,h4,K1];refine Q59 _ _ _ _ _ _ ?_ h6;rw[Qih hk,Qz0 (k:=k+1)];exact hdw;right;obtain rfl:k=a.length:=by omega
  rw[if_neg (by omega)];rw[List.drop_of_length_le (Nat.le_refl _)] at h6;exact⟨_,rfl,o,by simp,h4,h5,by simpa [val] using h6⟩;rintro t ⟨o,rfl,h1,h2,h3⟩;refine Qdp (λs=>s.2) (λs=>s.1=p.length∧s.2≤o.length∧trimZ o=trimZ (o.take s.2)) (λt=>t.1=p.length∧t.2≤o.length∧trimZ o=o.take t.2) ⟨rfl,by simp only[];omega,by simp only[];rw[←h1,List.take_length]⟩ (by simp only[];unfold big at hn;omega) ?_ ?_;rintro⟨s1,k⟩ ⟨rfl,g2,g3⟩;simp only at g2 g3;simp only[jn_eq,bifd];by_cases h0:0<k;obtain⟨j,rfl⟩:∃ j,k=j+1:=⟨k - 1,by omega⟩
  have hj:j<o.length:=by omega
  rw[Kq hj] at g3;rw[if_pos (by omega),w64 (by omega) (by omega),show((j+1:Nat):Int) - 1=(j:Nat) by omega,Qim (by omega),sbind,show((p.length:Int)+(j:Int))=((p.length+j:Nat):Int) by omega];have hg:getI (p++o++q) ((p.length+j:Nat):Int)=some o[j]:=by rw[Qcg,List.append_assoc,List.getElem?_append_right (by omega),Nat.add_sub_cancel_left,List.getElem?_append_left hj,List.getElem?_eq_getElem hj]
  rw[hg,sbind];by_cases hz0:o[j]=0;left;rw[if_pos hz0,grd_t (by unfold winC;simp;omega),sbind];exact⟨_,rfl,⟨by simp,by simp only[];omega,by simp only[];rw[g3,hz0,Qpe];simp⟩,by simp only[];omega⟩;right;rw[if_neg hz0];exact⟨_,rfl,rfl,g2,by simp only[];rw[g3,Kq hj,Qv3 _ hz0]⟩;right;obtain rfl:k=0:=by omega
  rw[if_neg (by omega),bifF];exact⟨_,rfl,rfl,by simp only[];omega,by simp only[];rw[g3];simp[trimZ]⟩;rintro⟨s1,k⟩ ⟨rfl,g2,g3⟩;simp only at g2 g3;exact⟨_,rfl,o,k,rfl,h1,h2,g2,by rw[←g3,←Jy h2,h3]⟩
 obtain⟨w,h1,r,k,rfl,h2⟩:=key;exact⟨r,k,h1,h2⟩
def Win(X:List Nat)(o l:Nat)(b:List Nat):Prop:=∃ p q,X=p++b++q∧p.length=o∧b.length=l
theorem Qtg{X:List Nat}{o l:Nat}{b:List Nat}(h:Win X o l b):subW X o l=some b:=by obtain⟨p,q,rfl,rfl,rfl⟩:=h;unfold subW;rw[if_pos (by simp)];simp
theorem Q29(b:List Nat):Win b 0 b.length b:=⟨[],[],by simp,rfl,rfl⟩
theorem oddw{w z o R:Nat}(hz:z<32)(e:w=2 ^ z*o)(ho:o%2=1):(w+4294967296*R) / 2 ^ z%2=1∧w+4294967296*R=2 ^ z*((w+4294967296*R) / 2 ^ z):=by
 have e2:(4294967296:Nat)=2 ^ z*(2*2 ^ (31 - z)):=by rw[←Nat.mul_assoc,Nat.mul_comm (2 ^ z) 2,Nat.mul_assoc,←Nat.pow_add,show z+(31 - z)=31 by omega]
 have e3:w+4294967296*R=2 ^ z*(o+2*(2 ^ (31 - z)*R)):=by rw[Nat.mul_add,←e,←Nat.mul_assoc 2,←Nat.mul_assoc (2 ^ z),←e2]
 rw[e3,Nat.mul_div_cancel_left _ (Nat.two_pow_pos z)];exact⟨by omega,rfl⟩
theorem Qkw{n o l:Nat}{X a:List Nat}(hn:big≤n)(hX:X.length<17592186044416)(hw:Win X o l a)(hwa:Wd a)(h0:val a≠0):
 ∃ o' l' t X',Vt n X o l=some (o',l',((t:Nat):Int),X')∧X'.length=X.length∧∃ u,val a=2 ^ t*u∧u%2=1∧Win X' o' l' (toL u)∧t≤32*a.length:=by
 obtain⟨p,q,rfl,rfl,rfl⟩:=hw;have key:∃ w,Vt n (p++a++q) p.length a.length=some w∧∃ o' l' t X',w=(o',l',((t:Nat):Int),X')∧X'.length=(p++a++q).length∧∃ u,val a=2 ^ t*u∧u%2=1∧Win X' o' l' (toL u)∧t≤32*a.length:=by
  unfold Vt;simp only[List.length_append] at hX;have hlt:∀ j,val a=bp j*val (a.drop j)->j<a.length:=by intro j hj;rcases Nat.lt_or_ge j a.length with h | h;exact h;rw[List.drop_of_length_le h] at hj;exact absurd hj (by simpa [val] using h0)
  refine Qdp (λs=>s.2.1) (λs=>∃ j:Nat,s.1=p.length+j∧s.2.1=a.length - j∧s.2.2=((32*j:Nat):Int)∧val a=bp j*val (a.drop j))
   (λs=>∃ j:Nat,s.1=p.length+j∧s.2.1=a.length - j∧s.2.2=((32*j:Nat):Int)∧val a=bp j*val (a.drop j)∧a.getD j 0≠0) ⟨0,rfl,rfl,rfl,by rw[Yo];simp⟩ (by simp only[];unfold big at hn;omega) ?_ ?_
  rintro⟨s1,s2,s3⟩ ⟨j,rfl,rfl,rfl,h4⟩;have hj:=hlt j h4;have hg:getI (p++a++q) (((p.length+j:Nat):Int)+0)=some a[j]:=by rw[show(((p.length+j:Nat):Int)+0)=((p.length+j:Nat):Int) by omega,Qcg,List.append_assoc,List.getElem?_append_right (by omega),Nat.add_sub_cancel_left,List.getElem?_append_left hj,List.getElem?_eq_getElem hj]
  simp only[bifd];rw[show(0:Int)=((0:Nat):Int) from rfl,Qim (by omega),sbind,show((0:Nat):Int)=0 from rfl,hg,sbind];by_cases hz:a[j]=0;left;rw[if_pos hz,grd_t (by unfold winC;simp;omega),sbind,w64 (by omega) (by omega)];refine⟨_,rfl,⟨j+1,by simp only[];omega,by simp only[];omega,by simp only[];omega,?_⟩,by simp only[];omega⟩;rw[h4,Qih hj,hz,K1,Nat.zero_add,Nat.mul_assoc];right;rw[if_neg hz];exact⟨_,rfl,j,rfl,rfl,rfl,h4,by simpa [hj] using hz⟩;rintro⟨s1,s2,s3⟩ ⟨j,rfl,rfl,rfl,h4,h5⟩;have hj:=hlt j h4;have hg:getI (p++a++q) (((p.length+j:Nat):Int)+0)=some a[j]:=by
   rw[show(((p.length+j:Nat):Int)+0)=((p.length+j:Nat):Int) by omega,Qcg,List.append_assoc,List.getElem?_append_right (by omega),Nat.add_sub_cancel_left,List.getElem?_append_left hj,List.getElem?_eq_getElem hj]
  have hx:=Y8 hwa hj;have hz0:a[j]≠0:=by simpa [hj] using h5
  obtain⟨z,od,z1,z2,z3,z4⟩:=Qu0 hn hz0 hx;simp only[];rw[show(0:Int)=((0:Nat):Int) from rfl,Qim (by omega),sbind,show((0:Nat):Int)=0 from rfl,hg,sbind,z1,sbind];have hsp:p++a++q=(p++a.take j)++a.drop j++q:=by simp
  have hpl:(p++a.take j).length=p.length+j:=by simp;omega
  have hal:(a.drop j).length=a.length - j:=by simp
  obtain⟨r,k,d1,d2,d3,d4,d5⟩:=Qwu (p:=p++a.take j) (a:=a.drop j) (q:=q) hn (by rw[hpl,hal];omega) (Qiw hwa) z2;rw[hpl,hal,←hsp] at d1;rw[d1,sbind,w64 (by omega) (by omega)];obtain⟨w1,w2⟩:=oddw (R:=val (a.drop (j+1))) z2 z3 z4;rw[←Qih hj] at w1 w2;refine⟨_,rfl,p.length+j,k,32*j+z,p++a.take j++r++q,by simp,by simp;omega,val (a.drop j) / 2 ^ z,?_,w1,?_,by omega⟩;rw[Nat.pow_add,←Qh7,Nat.mul_assoc,←w2];exact h4;refine⟨p++a.take j,r.drop k++q,?_,hpl,?_⟩;rw[←d5];simp only[List.append_assoc];rw[←List.append_assoc (r.take k),List.take_append_drop];rw[←d5,List.length_take,Nat.min_eq_left (by omega)]
 obtain⟨w,h1,o',l',t,X',rfl,h2⟩:=key;exact⟨o',l',t,X',h1,h2⟩
theorem Qtw{n t:Nat}{a:List Nat}(hn:big≤n)(hl:a.length<1099511627776)(ht:t<35184372088832)(hwa:Wd a):Y4 n a (t:Int)=some (toL (2 ^ t*val a)):=by unfold Y4;have hd:Int.tdiv (t:Int) 32=((t / 32:Nat):Int):=rfl;have hm:Int.tmod (t:Int) 32=((t%32:Nat):Int):=rfl;have hp:(1*2 ^ min (Int.toNat ((t%32:Nat):Int)) 32)%4294967296=2 ^ (t%32):=Q1w (Nat.mod_lt _ (by decide));have hb:2 ^ (t%32)<4294967296:=Nat.lt_of_lt_of_le (Nat.pow_lt_pow_right (by decide) (Nat.mod_lt t (show 0<32 by decide))) (by decide);rw[hd,hm,w64 (by omega) (by omega),Qe4 (by omega) (by omega),sbind,Vw (by simp;omega) (by simp;omega),sbind,grd_t (decide_eq_true (Int.natCast_nonneg _)),sbind,hp,sbind,Qal hn (by simp;omega) (by simp) (Js.2 ⟨Qjx (by decide),hwa⟩) (Jx.2 ⟨hb,K5⟩),sbind,Wr,Qd3,List.length_replicate,Qh7,Nat.zero_add];congr 2;simp only[val,Nat.mul_zero,Nat.add_zero];rw[Nat.mul_assoc,Nat.mul_comm (val a),←Nat.mul_assoc,←Nat.pow_add,show 32*(t / 32)+t%32=t by omega]
theorem Qx2{u t:Nat}(h:u%2=1):Nat.Coprime (2 ^ t) u:=Nat.Coprime.pow_left t (by
 have:Nat.gcd 2 u=1:=by rw[Nat.gcd_rec,h];rfl
 exact this)
theorem Q8m{m k u v:Nat}(hu:u%2=1)(hv:v%2=1):Nat.gcd (2 ^ m*u) (2 ^ k*v)=2 ^ (min m k)*Nat.gcd u v:=by by_cases h:m≤k;rw[Nat.min_eq_left h,show k=m+(k - m) by omega,Nat.pow_add,Nat.mul_assoc,Nat.gcd_mul_left,Nat.Coprime.gcd_mul_left_cancel_right _ (Qx2 hu)];rw[Nat.min_eq_right (by omega),show m=k+(m - k) by omega,Nat.pow_add,Nat.mul_assoc,Nat.gcd_mul_left,Nat.Coprime.gcd_mul_left_cancel _ (Qx2 hv)]
theorem Quf{x k:Nat}(h:x<2 ^ k):blen x≤k:=by by_cases h0:x=0;rw[h0,Qe7];omega;have h1:=Qko h0;have:=(Nat.pow_lt_pow_iff_right (show 1<2 by decide)).1 (Nat.lt_of_le_of_lt h1 h);omega
theorem Q6a{x y t:Nat}(h:x=2 ^ t*y)(ht:t≠0)(h0:x≠0):blen y<blen x:=by
 have h1:=Qmk (x:=x);have hp:=Qq0 h0;obtain⟨k,hk⟩:∃ k,blen x=k+1:=⟨_,(Nat.sub_add_cancel hp).symm⟩
 rw[hk] at h1 ⊢;have h2:y<2 ^ k:=by
  obtain⟨s,rfl⟩:∃ s,t=s+1:=⟨t - 1,by omega⟩
  rw[Nat.pow_succ] at h h1;have h3:1*y≤2 ^ s*y:=Nat.mul_le_mul_right _ (Nat.two_pow_pos s);have h4:x=2*(2 ^ s*y):=by rw[h,Nat.mul_comm (2 ^ s) 2,Nat.mul_assoc]
  omega
 have:=Quf h2;omega
theorem Q6b{x y:Nat}(h:x≤y):blen x≤blen y:=Quf (Nat.lt_of_le_of_lt h Qmk)
theorem Qoi{v:Nat}:blen v≤32*(toL v).length:=by have:=Qrm (Q0 v);rwa [Qt] at this
theorem Qqb{X:List Nat}{o l:Nat}{b:List Nat}(h:Win X o l b):b.length≤X.length∧b.length=l:=by obtain⟨p,q,rfl,rfl,rfl⟩:=h;exact⟨by simp;omega,rfl⟩
def wval(X:List Nat)(o l:Nat):Nat:=val ((subW X o l).getD [])
theorem Qmo{X:List Nat}{o l u:Nat}(h:Win X o l (toL u)):wval X o l=u:=by unfold wval;rw[Qtg h,Option.getD_some,Qt]
theorem Q8n{u v:Nat}(hu:u%2=1)(hv:v%2=1)(h:v<u):(u - v)≠0∧(u - v)%2=0:=by omega
theorem Qj2{a:List Nat}(hw:Wd a):(trimZ a).length=0↔val a=0:=by rw[←Qsq hw];constructor;intro h;exact List.eq_nil_of_length_eq_zero h;intro h;rw[h];rfl
set_option maxHeartbeats 1000000 in
theorem Qx3{n:Nat}{a b:List Nat}(hn:big≤n)(ha:a.length<1099511627776)(hb:b.length<1099511627776)(hwa:Wd a)(hwb:Wd b):Qaf n a b=some (toL (Nat.gcd (val a) (val b))):=by
 unfold Qaf;have la:=Xv a;have lb:=Xv b;rw[Wk hn (by omega),sbind,Wk hn (by omega),sbind];by_cases h0:val a=0;have:=(Qj2 hwa).2 h0;rw[decide_eq_true (by omega),bifT,h0,Nat.gcd_zero_left,Jy hwb];rw[decide_eq_false (λh=>h0 ((Qj2 hwa).1 (by omega))),bifF];by_cases h0':val b=0;have:=(Qj2 hwb).2 h0';rw[decide_eq_true (by omega),bifT,h0',Nat.gcd_zero_right,Jy hwa];rw[decide_eq_false (λh=>h0' ((Qj2 hwb).1 (by omega))),bifF];obtain⟨o1,l1,t1,X1,e1,e2,u,e3,e4,e5,e6⟩:=Qkw hn (show(trimZ a).length<_ by omega) (Q29 _) (Q1e hwa) (by rw[Qn1];exact h0);obtain⟨o2,l2,t2,X2,f1,f2,v,f3,f4,f5,f6⟩:=Qkw hn (show(trimZ b).length<_ by omega) (Q29 _) (Q1e hwb) (by rw[Qn1];exact h0');rw[Qn1] at e3 f3;rw[e1,sbind,f1,sbind,e3,f3,Q8m e4 f4];simp only[];have i1:=Qqb e5;have i2:=Qqb f5;have j1:=@Qoi u;have j2:=@Qoi v;have k1:=Qd5 (v:=u)
 refine Y7 (λs=>blen (wval s.1 s.2.1 s.2.2.1)+blen (wval s.2.2.2.1 s.2.2.2.2.1 s.2.2.2.2.2))
  (λs=>∃ x y:Nat,Win s.1 s.2.1 s.2.2.1 (toL x)∧Win s.2.2.2.1 s.2.2.2.2.1 s.2.2.2.2.2 (toL y)∧x%2=1∧y%2=1∧Nat.gcd x y=Nat.gcd u v∧s.1.length<1099511627776∧s.2.2.2.1.length<1099511627776)
  (λt=>Win t.1 t.2.1 t.2.2 (toL (Nat.gcd u v))∧t.1.length<1099511627776) ⟨u,v,e5,f5,e4,f4,rfl,by simp only[];omega,by simp only[];omega⟩ (by simp only[];rw[Qmo e5,Qmo f5];unfold big at hn;omega) ?_ ?_
 have round:∀(X:List Nat) (o l:Nat) (Y:List Nat) (o' l' x y:Nat),Win X o l (toL x)->Win Y o' l' (toL y)->x%2=1->y%2=1->Nat.gcd x y=Nat.gcd u v->X.length<1099511627776->Y.length<1099511627776->y<x →
  ∃ s':List Nat×Nat×Nat×List Nat×Nat×Nat,((some (toL y)).bind λy53=>(V8 n X o l y53).bind λr55=>(Vt n r55 o l).bind λr57=>some (Lp.go (σ:=List Nat×Nat×Nat×List Nat×Nat×Nat) (τ:=List Nat×Nat×Nat) (r57.2.2.2,r57.1,r57.2.1,Y,o',l')))=some (.go s') ∧
    (∃ x y:Nat,Win s'.1 s'.2.1 s'.2.2.1 (toL x)∧Win s'.2.2.2.1 s'.2.2.2.2.1 s'.2.2.2.2.2 (toL y)∧x%2=1∧y%2=1∧Nat.gcd x y=Nat.gcd u v∧s'.1.length<1099511627776∧s'.2.2.2.1.length<1099511627776) ∧
    blen (wval s'.1 s'.2.1 s'.2.2.1)+blen (wval s'.2.2.2.1 s'.2.2.2.2.1 s'.2.2.2.2.2)<blen x+blen y:=by
  intro X o l Y o' l' x y hX hY hx hy hg lX lY hlt;obtain⟨p,q,rfl,rfl,rfl⟩:=hX;obtain⟨r,g1,g2,g3,g4⟩:=Qoh (p:=p) (a:=toL x) (q:=q) (b:=toL y) hn (by simp at lX;omega) (Ws (by omega)) (Q0 _) (Q0 _) (by rw[Qt,Qt];omega);rw[Qt,Qt] at g4;obtain⟨s1,s2⟩:=Q8n hx hy hlt;obtain⟨o3,l3,t3,X3,h1,h2,w,h3,h4,h5,h6⟩:=Qkw (X:=p++r++q) (o:=p.length) (l:=(toL x).length) (a:=r) hn (by simp[g2];simp at lX;omega) ⟨p,q,rfl,rfl,g2⟩ g3 (by rw[g4];exact s1);rw[g4] at h3;have ht:t3≠0:=by rintro rfl;rw[Nat.pow_zero,Nat.one_mul] at h3;omega
  refine⟨(X3,o3,l3,Y,o',l'),by rw[sbind,g1,sbind,h1,sbind],⟨w,y,h5,hY,h4,hy,?_,?_,lY⟩,?_⟩;rw[←hg,←Nat.Coprime.gcd_mul_left_cancel (k:=2 ^ t3) w (Qx2 hy),←h3,Nat.gcd_sub_self_left (by omega)];rw[h2];simp[g2];simp at lX;omega;simp only[];rw[Qmo h5,Qmo hY];have c1:=Q6a h3 ht s1;have c2:=Q6b (Nat.sub_le x y);omega
 rintro⟨X,o,l,Y,o',l'⟩ ⟨x,y,w1,w2,hx,hy,hg,lX,lY⟩;simp only at w1 w2 lX lY;have i3:=Qqb w1;have i4:=Qqb w2;simp only[jn_eq];rw[Qtg w1,sbind,Qtg w2,sbind,Qku hn (by omega) (by omega) (Q0 _) (Q0 _),sbind,Qt,Qt,Qmo w1,Qmo w2,bifd,bifd];unfold cmpI;by_cases c1:x<y;left;rw[if_pos c1,if_neg (by decide),if_pos (by decide)];obtain⟨s',r1,r2,r3⟩:=round Y o' l' X o l y x w2 w1 hy hx (by rw[Nat.gcd_comm];exact hg) lY lX c1;exact⟨s',r1,r2,by omega⟩;rw[if_neg c1];by_cases c2:y<x;left;rw[if_pos c2,if_neg (by decide),if_neg (by decide)];exact round X o l Y o' l' x y w1 w2 hx hy hg lX lY c2;right;rw[if_neg c2,if_pos rfl];obtain rfl:x=y:=by omega
 refine⟨_,rfl,?_,lX⟩;rw[←hg,Nat.gcd_self];exact w1;rintro⟨X,o,l⟩ ⟨w1,lX⟩;simp only at w1 lX;have i3:=Qqb w1;simp only[];have hmin:min (t1:Int) (t2:Int)=((min t1 t2:Nat):Int):=by omega
 rw[Qtg w1,sbind,hmin,Qtw hn (by omega) (by omega) (Q0 _),sbind,Qt]
theorem Qoj{n:Nat}{a g:List Nat}(hn:big≤n)(ha:a.length<1099511627776)(hb:g.length<1099511627776)(hwa:Wd a)(hwg:Wd g)(h0:val g≠0):Yj n a g=some (toL (val a / val g)):=by unfold Yj;rw[Qqa,sbind,bifd];split;rename_i h;rw[h,Wk hn (by omega),sbind,←Jy hwa];simp[val];rw[Qx1 hn (by omega) (by omega) hwa hwg h0,sbind]
def wy(w:Q3):Int:=if w.Neg then -(val w.Ao:Int) else (val w.Ao:Int)
def rW(z:Int):Q3:=⟨decide (z<0),toL z.natAbs⟩
theorem wy_rW(z:Int):wy (rW z)=z:=by unfold wy rW;simp only[Qt];by_cases h:z<0;rw[decide_eq_true h,if_pos rfl];omega;rw[decide_eq_false h,if_neg (by decide)];omega
theorem Qj3{n:Nat}{w:Q3}(hn:big≤n)(hw:Wd w.Ao)(hl:w.Ao.length≤35184372088832):K7 n w=some (rW (wy w)):=by unfold K7 rW wy;rw[Wk hn hl,sbind,←Jy hw,jn_eq];cases w.Neg;rw[bifF,if_neg (by decide),decide_eq_false (by omega),Int.natAbs_natCast];rw[bifT,if_pos rfl,Int.natAbs_neg,Int.natAbs_natCast];have:=Qd5 (v:=val w.Ao);refine congrArg (λb=>some (⟨b,_⟩:Q3)) (decide_eq_decide.2 ?_);omega
theorem Qx4{n:Nat}{w u:Q3}(hn:big≤n)(hw:Wd w.Ao)(hu:Wd u.Ao)(hl:w.Ao.length<17592186044410)(hl2:u.Ao.length<17592186044410):Qai n w u=some (rW (wy w+wy u)):=by
 unfold Qai;have g1:=Ji hw;have g2:=Ji hu;have len:∀ z,z≤val w.Ao+val u.Ao->(toL z).length≤35184372088832:=λz hz=>Nat.le_trans (Ws hz) (Nat.le_trans (Qml (k:=17592186044410) (by omega) (by omega)) (by decide));rw[Qpx hn (by omega) (by omega) hw hu,sbind,Qku hn (by omega) (by omega) hw hu,sbind,bifd];obtain⟨s,a⟩:=w;obtain⟨t,b⟩:=u;simp only at *
 have hsum:∀ s,K7 n ⟨s,toL (val a+val b)⟩=some (rW (if s then -((val a+val b:Nat):Int) else ((val a+val b:Nat):Int))):=λs=>by rw[Qj3 hn (Q0 _) (len _ (Nat.le_refl _))];unfold wy;simp only[Qt]
 have hd1:∀ s,val b≤val a->(Wu n a b).bind (λr=>(K7 n ⟨s,r⟩).bind λr13=>some r13)=some (rW (if s then -((val a - val b:Nat):Int) else ((val a - val b:Nat):Int))):=λs h=>by rw[Qp9 hn (by omega) (by omega) hw hu h,sbind,Qj3 hn (Q0 _) (len _ (by omega)),sbind];unfold wy;simp only[Qt]
 have hd2:∀ s,val a≤val b->(Wu n b a).bind (λr=>(K7 n ⟨s,r⟩).bind λr13=>some r13)=some (rW (if s then -((val b - val a:Nat):Int) else ((val b - val a:Nat):Int))):=λs h=>by rw[Qp9 hn (by omega) (by omega) hu hw h,sbind,Qj3 hn (Q0 _) (len _ (by omega)),sbind];unfold wy;simp only[Qt]
 have hc:=@Q1j (val a) (val b);unfold wy;simp only[hsum,sbind];by_cases h:val a<val b;rw[if_pos (hc.2 h),hd2 t (by omega)];cases s<;>cases t<;>simp only[beq_self_eq_true,bifT,bifF,Bool.false_eq_true,if_true,if_false,show(false == true)=false by rfl,show(true == false)=false by rfl]<;>congr 2<;>omega;rw[if_neg (λg=>h (hc.1 g)),hd1 s (by omega)];cases s<;>cases t<;>simp only[beq_self_eq_true,bifT,bifF,Bool.false_eq_true,if_true,if_false,show(false == true)=false by rfl,show(true == false)=false by rfl]<;>congr 2<;>omega
def rF(q:Rat):Qa:=⟨decide (q.num<0),toL q.num.natAbs,toL q.den⟩
def fr(f:Qa):Rat:=mkRat (if f.Neg then -(val f.N:Int) else (val f.N:Int)) (val f.D)
theorem Qqc(z:Int):(if decide (z<0) then -(z.natAbs:Int) else (z.natAbs:Int))=z:=by by_cases h:z<0;rw[decide_eq_true h,if_pos rfl];omega;rw[decide_eq_false h,if_neg (by decide)];omega
theorem fr_rF(q:Rat):fr (rF q)=q:=by unfold fr rF;simp only[Qt];rw[Qqc];exact Rat.mkRat_self q
theorem Q6c{p q:Rat}(h:rF p=rF q):p=q:=by rw[←fr_rF p,h,fr_rF]
theorem Q8o:toL 1=[1]:=by rw[Qak (by decide)];rw[show(1:Nat)%4294967296=1 from rfl,show(1:Nat) / 4294967296=0 from rfl,Vx]
theorem Q3a:rF 0=⟨false,[],[1]⟩:=by unfold rF;rw[show(0:Rat).num=0 from rfl,show(0:Rat).den=1 from rfl,Q8o,show(0:Int).natAbs=0 from rfl,Vx];rfl
theorem rF_mk{s:Bool}{x d:Nat}(hx:x≠0)(hd:d≠0):rF (mkRat (if s then -(x:Int) else (x:Int)) d)=⟨s,toL (x / Nat.gcd x d),toL (d / Nat.gcd x d)⟩:=by
 obtain⟨e1,e2⟩:=Qfp (z:=if s then -(x:Int) else (x:Int)) hd;have e3:(if s then -(x:Int) else (x:Int)).natAbs=x:=by cases s<;>simp
 have hg:Nat.gcd x d ∣ x:=Nat.gcd_dvd_left _ _;have hp:x / Nat.gcd x d≠0:=by have:=Nat.div_pos (Nat.le_of_dvd (Nat.pos_of_ne_zero hx) hg) (Nat.gcd_pos_of_pos_left d (Nat.pos_of_ne_zero hx));omega
 rw[e3] at e1 e2;rw[←Q23 s x _ hg] at e1;unfold rF;rw[e1,e2];generalize x / Nat.gcd x d=y at hp;cases s;rw[if_neg (by decide),decide_eq_false (by omega),Int.natAbs_natCast];rw[if_pos rfl,decide_eq_true (by omega),Int.natAbs_neg,Int.natAbs_natCast]
theorem Xw{n:Nat}{f:Qa}(hn:big≤n)(hN:Wd f.N)(hD:Wd f.D)(lN:f.N.length<1099511627776)(lD:f.D.length<1099511627776):Jp n f=some (rF (fr f)):=by
 unfold Jp;have g1:=Ji hN;have g2:=Ji hD;rw[Wk hn (by omega),sbind,Wk hn (by omega),sbind,←Jy hN,←Jy hD];simp only[jn_eq,bifd];have z1:=Qd5 (v:=val f.N);have z2:=Qd5 (v:=val f.D);unfold fr;by_cases hd:val f.D=0;rw[if_pos (by omega),hd,Rat.mkRat_zero,Q3a];rfl;rw[if_neg (by omega)];by_cases hx:val f.N=0;rw[if_pos (by omega),hx];have:(if f.Neg=true then -((0:Nat):Int) else ((0:Nat):Int))=0:=by split<;>rfl
 rw[this,Rat.zero_mkRat,Q3a];rw[if_neg (by omega),rF_mk hx hd,Qqa,sbind];have hg:Nat.gcd (val f.N) (val f.D)≠0:=by have:=Nat.gcd_pos_of_pos_left (val f.D) (Nat.pos_of_ne_zero hx);omega
 have lg:(toL (Nat.gcd (val f.N) (val f.D))).length<1099511627776:=Nat.lt_of_le_of_lt (Ws (Nat.gcd_le_left _ (Nat.pos_of_ne_zero hx))) (by omega);by_cases h1:toL (val f.D)=[1]
 rw[decide_eq_true h1,Bool.not_true,bifF];have:val f.D=1:=by rw[←Qt (val f.D),h1];rfl
 rw[this,Nat.gcd_one_right,Nat.div_one,Nat.div_one];rw[decide_eq_false h1,Bool.not_false,bifT,Qx3 hn (by omega) (by omega) (Q0 _) (Q0 _),sbind,Qt,Qt,Qoj hn (by omega) lg (Q0 _) (Q0 _) (by rw[Qt];exact hg),sbind,Qoj hn (by omega) lg (Q0 _) (Q0 _) (by rw[Qt];exact hg),sbind,Qt,Qt,Qt]
theorem wy_mk(z:Int)(d:Nat):wy ⟨decide (z<0),toL (z.natAbs*d)⟩=z*(d:Int):=by unfold wy;simp only[Qt,Int.natCast_mul];by_cases h:z<0;rw[decide_eq_true h,if_pos rfl,←Int.neg_mul];congr 1;omega;rw[decide_eq_false h,if_neg (by decide)];congr 1;omega
theorem Zi{n k:Nat}{p q:Rat}(hn:big≤n)(hk:k<274877906944)(hp:qw p≤k)(hq:qw q≤k):Ko n (rF p) (rF q)=some (rF (p+q)):=by
 have n1:=Qcs p;have n2:=Qcs q;have d1:=Qct p;have d2:=Qct q;have m1:=@Zh p.num.natAbs q.den;have m2:=@Zh q.num.natAbs p.den;have m3:=@Zh p.den q.den;unfold Ko rF;simp only[];rw[Qal hn (by omega) (by omega) (Q0 _) (Q0 _),sbind,Qal hn (by omega) (by omega) (Q0 _) (Q0 _),sbind,Qt,Qt,Qt,Qt,Qx4 hn (Q0 _) (Q0 _) (by simp only[];omega) (by simp only[];omega),sbind,wy_mk,wy_mk,Qal hn (by omega) (by omega) (Q0 _) (Q0 _),sbind,Qt,Qt];have hs:(toL (p.num*(q.den:Int)+q.num*(p.den:Int)).natAbs).length≤2*k+1:=by
  refine Nat.le_trans (Ws (Int.natAbs_add_le _ _)) ?_;rw[Int.natAbs_mul,Int.natAbs_mul,Int.natAbs_natCast,Int.natAbs_natCast];exact Qml (by omega) (by omega)
 rw[Xw hn (Q0 _) (Q0 _) (by unfold rW;simp only[];omega) (by simp only[];omega),sbind];have e:fr ⟨(rW (p.num*(q.den:Int)+q.num*(p.den:Int))).Neg,(rW (p.num*(q.den:Int)+q.num*(p.den:Int))).Ao,toL (p.den*q.den)⟩=p+q:=by unfold fr rW;simp only[Qt];rw[Qqc,←Rat.mkRat_add_mkRat _ _ p.den_nz q.den_nz,Rat.mkRat_self,Rat.mkRat_self]
 rw[e];rfl
theorem Jah(z:Int)(hz:z≠0):(if (!decide (z<0)) then -(z.natAbs:Int) else (z.natAbs:Int))=-z:=by by_cases h:z<0;rw[decide_eq_true h,Bool.not_true,if_neg (by decide)];omega;rw[decide_eq_false h,Bool.not_false,if_pos rfl];omega
theorem Qkx{n k:Nat}{q:Rat}(hn:big≤n)(hk:k<274877906944)(hq:qw q≤k):Xs n (rF q)=some (rF (-q)):=by
 have n2:=Qcs q;have d2:=Qct q;unfold Xs rF;simp only[];rw[Xw hn (Q0 _) (Q0 _) (by simp only[];omega) (by simp only[];omega),sbind];have e:fr ⟨!decide (q.num<0),toL q.num.natAbs,toL q.den⟩=-q:=by unfold fr;simp only[Qt];by_cases h0:q.num=0;rw[h0];have:q=0:=Rat.num_eq_zero.1 h0;subst this;rfl;rw[Jah _ h0,←Rat.neg_mkRat,Rat.mkRat_self]
 rw[e];rfl
theorem Qhc{n k:Nat}{p q:Rat}(hn:big≤n)(hk:k<274877906944)(hp:qw p≤k)(hq:qw q≤k):Wx n (rF p) (rF q)=some (rF (p - q)):=by unfold Wx;rw[Qkx hn hk hq,sbind,Zi hn hk hp (by rw[Qna];exact hq),sbind,Rat.sub_eq_add_neg]
theorem Q7c(z u:Int):(if (decide (z<0) != decide (u<0)) then -((z.natAbs*u.natAbs:Nat):Int) else ((z.natAbs*u.natAbs:Nat):Int))=z*u:=by rw[Q22,Qqc,Qqc]
theorem Wi{n k:Nat}{p q:Rat}(hn:big≤n)(hk:k<274877906944)(hp:qw p≤k)(hq:qw q≤k):J2 n (rF p) (rF q)=some (rF (p*q)):=by
 have n1:=Qcs p;have n2:=Qcs q;have d1:=Qct p;have d2:=Qct q;have m1:=@Zh p.num.natAbs q.num.natAbs;have m3:=@Zh p.den q.den;unfold J2 rF;simp only[];rw[Qal hn (by omega) (by omega) (Q0 _) (Q0 _),sbind,Qal hn (by omega) (by omega) (Q0 _) (Q0 _),sbind,Qt,Qt,Qt,Qt,Xw hn (Q0 _) (Q0 _) (by simp only[];omega) (by simp only[];omega),sbind];have e:fr ⟨decide (p.num<0) != decide (q.num<0),toL (p.num.natAbs*q.num.natAbs),toL (p.den*q.den)⟩=p*q:=by
  unfold fr;simp only[Qt];rw[Q7c,←Rat.mkRat_mul_mkRat,Rat.mkRat_self,Rat.mkRat_self]
 rw[e];rfl
theorem Q7d{z u:Int}{d:Nat}(hu:u≠0):(if (decide (z<0) != decide (u<0)) then -((z.natAbs*d:Nat):Int) else ((z.natAbs*d:Nat):Int))=z*(u.sign*(d:Int)):=by rw[←Int.mul_assoc,Int.natCast_mul];have h1:=Qqc z;by_cases h:u<0;rw[decide_eq_true h,Int.sign_eq_neg_one_of_neg h] at *;by_cases h':z<0;rw[decide_eq_true h'] at *;simp only[bne_self_eq_false,Bool.false_eq_true,if_false,if_true] at *;rw[show z * -1=(z.natAbs:Int) by omega];rw[decide_eq_false h'] at *;simp only[show(false != true)=true from rfl,if_true,Bool.false_eq_true,if_false] at *;rw[show z * -1=-(z.natAbs:Int) by omega,Int.neg_mul];rw[decide_eq_false h,Int.sign_eq_one_of_pos (by omega)] at *;by_cases h':z<0;rw[decide_eq_true h'] at *;simp only[show(true != false)=true from rfl,if_true] at *;rw[show z*1=-(z.natAbs:Int) by omega,Int.neg_mul];rw[decide_eq_false h'] at *;simp only[bne_self_eq_false,Bool.false_eq_true,if_false] at *;rw[show z*1=(z.natAbs:Int) by omega]
theorem Qhd{n k:Nat}{p q:Rat}(hn:big≤n)(hk:k<274877906944)(hp:qw p≤k)(hq:qw q≤k):Vu n (rF p) (rF q)=some (rF (p / q)):=by
 have n1:=Qcs p;have n2:=Qcs q;have d1:=Qct p;have d2:=Qct q;have m1:=@Zh p.num.natAbs q.den;have m3:=@Zh p.den q.num.natAbs;unfold Vu rF;simp only[];rw[Qal hn (by omega) (by omega) (Q0 _) (Q0 _),sbind,Qal hn (by omega) (by omega) (Q0 _) (Q0 _),sbind,Qt,Qt,Qt,Qt,Xw hn (Q0 _) (Q0 _) (by simp only[];omega) (by simp only[];omega),sbind];have e:fr ⟨decide (p.num<0) != decide (q.num<0),toL (p.num.natAbs*q.den),toL (p.den*q.num.natAbs)⟩=p / q:=by
  unfold fr;simp only[Qt];by_cases h0:q.num=0
  . rw[h0,show(0:Int).natAbs=0 from rfl,Nat.mul_zero,Rat.mkRat_zero,Rat.num_eq_zero.1 h0];grind
  . rw[Q7d h0,Rat.div_def]
    have e2:=Qys h0 q.den_nz;rw[Rat.mkRat_self] at e2;rw[e2]
    conv=>rhs;rw[←Rat.mkRat_self p]
    rw[Rat.mkRat_mul_mkRat]
 rw[e];rfl
theorem Q7e{v:Nat}:((toL v).length:Int)=0↔v=0:=by have:=Qd5 (v:=v);omega
theorem Qj4(q:Rat):Xi (rF q)=some (decide (q=0)):=by unfold Xi rF;refine congrArg some (decide_eq_decide.2 ?_);simp only[Q7e];rw[←Rat.num_eq_zero];omega
open Classical in
theorem Qj5{n:Nat}{f g:Qa}(hn:big≤n)(h1:f.N.length≤4611686018427387904)(h2:f.D.length≤4611686018427387904):J6 n f g=some (decide (f=g)):=by unfold J6;simp only[jn_eq];obtain⟨s,a,d⟩:=f;obtain⟨t,b,e⟩:=g;simp only at *;by_cases c1:s=t;subst c1;rw[show(s == s)=true by simp,bifT,Qn2 hn h1,sbind];by_cases c2:a=b;subst c2;rw[decide_eq_true rfl,bifT,Qn2 hn h2,sbind];exact congrArg some (decide_eq_decide.2 ⟨λh=>by rw[h],λh=>by cases h;rfl⟩);rw[decide_eq_false c2,bifF,decide_eq_false (λh=>by cases h;exact c2 rfl)];rw[show(s == t)=false by simpa using c1,bifF,decide_eq_false (λh=>by cases h;exact c1 rfl)]
theorem Qu1{n k:Nat}{p q:Rat}(hn:big≤n)(hk:k<274877906944)(hp:qw p≤k):J6 n (rF p) (rF q)=some (decide (p=q)):=by have n1:=Qcs p;have d1:=Qct p;rw[Qj5 hn (by show(toL p.num.natAbs).length≤_;omega) (by show(toL p.den).length≤_;omega)];exact congrArg some (decide_eq_decide.2 ⟨Q6c,λh=>by rw[h]⟩)
theorem Qf7{n k:Nat}{q:Rat}(hn:big≤n)(hk:k<274877906944)(hq:qw q≤k):Yl n (rF q)=some (qz q:Int):=by have n1:=Qcs q;have d1:=Qct q;have b1:=@Qoi q.num.natAbs;have b2:=@Qoi q.den;unfold Yl rF qz;simp only[];rw[Qkv hn (by omega) (Q0 _),sbind,Qkv hn (by omega) (Q0 _),sbind,Qt,Qt,w64 (by omega) (by omega)];rfl
theorem Qs1{n x:Nat}(hn:big≤n)(hx:x<18446744073709551616):Ze n x=some (toL x):=by
 unfold Ze;have hw:Wd [x%4294967296%4294967296,x / 4294967296%4294967296]:=Jx.2 ⟨by omega,Jx.2 ⟨by omega,K5⟩⟩;have hv:val [x%4294967296%4294967296,x / 4294967296%4294967296]=x:=by simp only[val];omega
 rw[sbind,Wk hn (by simp),sbind,←Jy hw,hv]
theorem Qj6{n:Nat}{x:Int}(hn:big≤n)(h1:-9223372036854775808≤x)(h2:x≤9223372036854775807):Jv n x=some (rF (x:Rat)):=by
 unfold Jv;have w1':Wd [1]:=Jx.2 ⟨by decide,K5⟩;have v1:val [1]=1:=rfl;have l2:∀ z,z<18446744073709551616->(toL z).length≤2:=λz hz=>Qa2 (by rw[K1,K1,Yo];omega);rw[bifd];by_cases h:x<0;have e:Int.toNat (wrap64 (-(wrap64 (x+1)))%18446744073709551616)=x.natAbs - 1:=by rw[w64 (x:=x+1) (by omega) (by omega),w64 (by omega) (by omega)];omega
 have hl:=l2 (x.natAbs - 1) (by omega);have hl2:=l2 x.natAbs (by omega);rw[if_pos h,sbind,e,Qs1 hn (by omega),sbind,Qpx hn (by omega) (by simp) (Q0 _) w1',sbind,Qt,v1,show x.natAbs - 1+1=x.natAbs by omega,Xw hn (Q0 _) w1' (by simp only[];omega) (by simp),sbind];congr 2;unfold fr;simp only[Qt,v1];rw[if_pos trivial,show -((x.natAbs:Nat):Int)=x by omega,←Rat.mkRat_one];have e:Int.toNat (x%18446744073709551616)=x.natAbs:=by omega
 have hl2:=l2 x.natAbs (by omega);rw[if_neg h,e,Qs1 hn (by omega),sbind,Xw hn (Q0 _) w1' (by simp only[];omega) (by simp),sbind];congr 2;unfold fr;simp only[Qt,v1];rw[if_neg (by decide),show((x.natAbs:Nat):Int)=x by omega,←Rat.mkRat_one]
theorem Qad{n:Nat}(hn:big≤n):Jv n 0=some (rF 0):=Qj6 hn (by decide) (by decide)
theorem Qok{n:Nat}(hn:big≤n):Jv n 1=some (rF 1):=Qj6 hn (by decide) (by decide)
theorem Qy5{q:Rat}(m:Nat):q⁻¹ ^ m / q=q⁻¹ ^ (m+1):=by rw[Rat.pow_succ,Rat.div_def]
theorem Qx5{n k:Nat}{q:Rat}{e:Int}(hn:big≤n)(hk:k<1073741824)(hq:qw q≤k):
 Qaj n (rF q) e=some (if e < -8∨8<e∨(e<0∧q=0) then (rF 0,false) else (rF (q ^ e),true)):=by
 have h1:=Qwb q;unfold Qaj;simp only[jn_eq,bifd];rw[Qad hn,sbind,Qok hn,sbind];by_cases c1:e < -8;rw[if_pos c1,bifT,if_pos (.inl c1)];rw[if_neg c1];by_cases c2:8<e;rw[if_pos c2,bifT,if_pos (.inr (.inl c2))];rw[if_neg c2]
 have bnd:∀ m:Nat,m≤8->∀ q:Rat,qw q≤k->qw (q ^ m)≤9*k:=λm hm q hq=>by have:=Qwc hq m;have h2:m*k≤8*k:=Nat.mul_le_mul_right _ hm;have:=Nat.le_trans (Qwb q) hq;omega
 have main:∀(hz:¬(e<0∧q=0)),((loopM (λ(s20:Qa×Int)=>
  if s20.2<e then (
   (J2 n s20.1 (rF q)).bind λr21=>
   some (Lp.go (r21,wrap64 (s20.2+(1:Int)))))
  else (
   some (Lp.out s20.1))) n (rF 1,(0:Int))).bind λ(t18:Qa)=>
  (loopM (λ(s31:Qa×Int)=>
   if e<s31.2 then (
    (Vu n s31.1 (rF q)).bind λr32=>
    some (Lp.go (r32,wrap64 (s31.2 - (1:Int)))))
   else (
    some (Lp.out s31.1))) n (t18,(0:Int))).bind λ(t29:Qa)=>
  some (t29,true))=some (rF (q ^ e),true):=by
  intro hz;by_cases h:e<0;obtain⟨m,rfl⟩:∃ m:Nat,e=-(m:Int):=⟨e.natAbs,by omega⟩
  rw[Wq (λ_=>(rF 1,(0:Int))) 0 (rF 1) (λi hi=>absurd hi (Nat.not_lt_zero _)) (by rw[if_neg (by omega)]) (by unfold big at hn;omega) rfl];have hne:q≠0:=λg=>hz ⟨h,g⟩;rw[Wq (λi=>(rF (q⁻¹ ^ i),-(i:Int))) m (rF (q⁻¹ ^ m))];rw[Rat.zpow_neg,Rat.zpow_natCast];congr 3;clear bnd hz c1 c2 h
  induction m with
  | zero=>rw[Rat.pow_zero,Rat.pow_zero];grind
  | succ m ih=>rw[Rat.pow_succ,Rat.pow_succ,ih];grind
  intro i hi;rw[if_pos (by omega),Qhd (k:=9*k) hn (by omega) (bnd i (by omega) _ (Qsu hq)) (by omega),sbind,Qy5,w64 (by omega) (by omega)];congr 3;omega;rw[if_neg (by omega)];unfold big at hn;omega;rw[Rat.pow_zero];rfl;obtain⟨m,rfl⟩:∃ m:Nat,e=(m:Int):=⟨e.natAbs,by omega⟩
  rw[Wq (λi=>(rF (q ^ i),(i:Int))) m (rF (q ^ m))];rw[Wq (λ_=>(rF (q ^ m),(0:Int))) 0 (rF (q ^ m)) (λi hi=>absurd hi (Nat.not_lt_zero _)) (by rw[if_neg (by omega)]) (by unfold big at hn;omega) rfl,Rat.zpow_natCast];intro i hi;rw[if_pos (by omega),Wi (k:=9*k) hn (by omega) (bnd i (by omega) _ hq) (by omega),sbind,←Rat.pow_succ,w1 (by omega)];rw[if_neg (by omega)];unfold big at hn;omega;rw[Rat.pow_zero];rfl
 by_cases h:e<0;rw[if_pos h,Qj4,sbind,bifd];by_cases h0:q=0;rw[if_pos h0,if_pos (.inr (.inr ⟨h,h0⟩))];rw[if_neg h0,main (λg=>h0 g.2),if_neg (by rintro(g | g | g);exact c1 g;exact c2 g;exact h0 g.2)];rw[if_neg h,bifF,main (λg=>h g.1),if_neg (by rintro(g | g | g);exact c1 g;exact c2 g;exact h g.1)]
def rR(l:List Rat):List Qa:=l.map rF
theorem Kf(l:List Rat):(rR l).length=l.length:=by unfold rR;simp
theorem Qlg{l:List Rat}{i:Nat}{q:Rat}(h:l[i]?=some q):(rR l)[i]?=some (rF q):=by unfold rR;rw[List.getElem?_map,h];rfl
theorem Jai{a b:List Rat}(h:rR a=rR b):a=b:=by
 unfold rR at h
 induction a generalizing b with
 | nil=>cases b with
   | nil=>rfl
   | cons y b=>cases h
 | cons x a ih=>cases b with
   | nil=>cases h
   | cons y b=>
     rw[List.map_cons,List.map_cons] at h;obtain⟨h1,h2⟩:=List.cons.inj h;rw[Q6c h1,ih h2]
theorem Qiy(l:List Rat)(q:Rat):rR (l++[q])=rR l++[rF q]:=by unfold rR;simp
theorem Qg1{α:Type}{l:List α}{i:Nat}{x:α}(h:l[i]?=some x):l.take (i+1)=l.take i++[x]:=by rw[List.take_add_one,h];rfl
def FRr(k:Nat)(l:List Qa):Prop:=∀ f∈l,Wd f.N∧Wd f.D∧f.N.length≤k∧f.D.length≤k
def rvr(l:List Qa):List Rat:=l.map fr
theorem X7(l:List Qa):(rvr l).length=l.length:=by unfold rvr;simp
theorem fr_tF(f:Qa):fv (tF f)=fr f:=rfl
theorem Qcw(l:List Qa):rv (l.map tF)=rvr l:=by unfold rv rvr;rw[List.map_map];rfl
theorem qw_fr{f:Qa}{k:Nat}(h:Wd f.N∧Wd f.D∧f.N.length≤k∧f.D.length≤k)(h1:1≤k):qw (fr f)≤k:=by rw[←fr_tF];exact qw_fv ⟨h.1,h.2.2.1,h.2.1,h.2.2.2⟩ h1
theorem Qfr{k:Nat}{l:List Qa}(h:FRr k l)(h1:1≤k):QR k (rvr l):=λq hq=>by obtain⟨f,hf,rfl⟩:=List.mem_map.1 hq;exact qw_fr (h f hf) h1
theorem Qcx{n k:Nat}{l:List Qa}(hn:big≤n)(hk:k<1099511627776)(h:FRr k l)(hl:l.length≤1000000):Ky n l=some (rR (rvr l)):=by
 unfold Ky;rw[Wq (λi=>(rR (rvr (l.take i)),(i:Int))) l.length (rR (rvr l))];intro i hi;have hp:l[i]?=some l[i]:=List.getElem?_eq_getElem hi;have hf:=h l[i] (List.getElem_mem hi);generalize l[i]=p at hp hf;simp only[bifd];have e:rvr (l.take (i+1))=rvr (l.take i)++[fr p]:=by rw[Qg1 hp];unfold rvr;simp
 rw[if_pos (by omega),Jl hp,sbind,Xw hn hf.1 hf.2.1 (by omega) (by omega),sbind,Vw (by simp[Kf,X7];omega) (by simp[Kf,X7];omega),sbind,w1 (by omega),e,Qiy];simp only[bifd];rw[if_neg (by omega),List.take_length];unfold big at hn;omega;rfl
open Classical in
theorem Qwv{n:Nat}{a b:List Qa}(hn:big≤n)(hl:a.length≤1000000)(h:∀ f∈a,f.N.length≤4611686018427387904∧f.D.length≤4611686018427387904):Yh n a b=some (decide (a=b)):=by
 unfold Yh;by_cases hab:a.length=b.length;rw[decide_eq_true (show(a.length:Int)=(b.length:Int) by omega),Bool.not_true,bifF];rw[Qm9 (λi=>a[i]?=b[i]?) a.length (r:=false)];have e:(∀ i,i<a.length->a[i]?=b[i]?)↔a=b:=by constructor;intro g;refine List.ext_getElem? λi=>?_;rcases Nat.lt_or_ge i a.length with hi | hi;exact g i hi;rw[List.getElem?_eq_none hi,List.getElem?_eq_none (by omega)];rintro rfl i _;rfl
 by_cases g:a=b;rw[if_pos (e.2 g),decide_eq_true g];rw[if_neg (λh=>g (e.1 h)),decide_eq_false g];intro i hi;have hp:a[i]?=some a[i]:=List.getElem?_eq_getElem hi;have hp2:b[i]?=some (b[i]'(by omega)):=List.getElem?_eq_getElem (by omega);have hf:=h a[i] (List.getElem_mem hi);generalize a[i]=x at hp hf;generalize b[i]'(by omega)=y at hp2;simp only[bifd];rw[if_pos (by omega),Jl hp,sbind,Jl hp2,sbind,Qj5 hn hf.1 hf.2,sbind,hp,hp2,w1 (by omega)];constructor;intro g;rw[decide_eq_true (Option.some.inj g)];rfl;intro g;rw[decide_eq_false (λh=>g (by rw[h]))];rfl;simp only[bifd];rw[if_neg (by omega)];unfold big at hn;omega;rw[decide_eq_false (show ¬(a.length:Int)=(b.length:Int) by omega),Bool.not_false,bifT,decide_eq_false];intro g;exact hab (by rw[g])
theorem Q3b{q:Rat}{k:Nat}(h:qw q≤k):(rF q).N.length≤k∧(rF q).D.length≤k:=by have:=Qcs q;have:=Qct q;exact⟨by show(toL q.num.natAbs).length≤k;omega,by show(toL q.den).length≤k;omega⟩
theorem Qu2{n k:Nat}{a b:List Rat}(hn:big≤n)(hl:a.length≤1000000)(hk:k<274877906944)(h:QR k a):Yh n (rR a) (rR b)=some (decide (a=b)):=by
 classical
 rw[Qwv hn (by rw[Kf];exact hl) (λf hf=>by
  obtain⟨q,hq,rfl⟩:=List.mem_map.1 hf;have:=Q3b (h q hq)
  exact⟨by omega,by omega⟩)]
 exact congrArg some (decide_eq_decide.2 ⟨Jai,λh=>by rw[h]⟩)
def oF(x:Qb):Qa:=⟨x.Num.Neg,x.Num.Ao,x.Den⟩
theorem Jaj(l:List Rat):(toR l).map oF=rR l:=by unfold toR rR;rw[List.map_map];rfl
theorem Qz1(x:Qb):Qb8 x=some (oF x):=rfl
theorem Qz2{n:Nat}{l:List Qb}(hn:big≤n)(h1:l.length≤1000000):Qau n l=some (l.map oF):=by unfold Qau;rw[Wq (λi=>((l.take i).map oF,(i:Int))) l.length (l.map oF)];intro i hi;have hp:l[i]?=some l[i]:=List.getElem?_eq_getElem hi;generalize l[i]=p at hp;simp only[bifd,Qz1,sbind];rw[if_pos (by omega),Jl hp,sbind,Vw (by simp;omega) (by simp;omega),sbind,w1 (by omega),Qfq oF hp];simp only[bifd];rw[if_neg (by omega),List.take_length];unfold big at hn;omega;rfl
theorem Qhe{n k:Nat}{a b:List Rat}(hn:big≤n)(hl:a.length≤1000000)(hk:k<274877906944)(h:QR k a):Xb n (toR a) (rR b)=some (decide (a=b)):=by unfold Xb;rw[Qz2 hn (by rw[Vd];exact hl),sbind,Jaj,Qu2 hn hl hk h,sbind]
theorem Q1x{many k:Nat}{l:List Qa}(hB:J5 l)(h:FL many k l):FRr k l:=λx hx=>by have hb:=hB.2 x hx;have:=h.2 x hx;exact⟨hb.2.1.2,hb.2.2.1.2,this.1,this.2⟩
def blkB(c:Nat):Bool:=decide (c=32∨c=9∨c=10∨c=13)
theorem Qg2{α:Type}(p:α->Bool):∀(l:List α),(l.dropWhile p).length≤l.length
 | []=>Nat.le_refl _
 | x::l=>by rw[List.dropWhile_cons];split;exact Nat.le_succ_of_le (Qg2 p l);exact Nat.le_refl _
def wcons(w:Qk):List Qk ⊕ Nat->List Qk ⊕ Nat
 | .inl l=>.inl (w::l)
 | .inr p=>.inr p
def tailK(k:Int)(r:List UInt8):List UInt8:=r.takeWhile (λb=>goC k b.toNat)
def scanS:List UInt8->Nat->List Qk ⊕ Nat
 | [],_=>.inl []
 | c::r,i=>
   if blkB c.toNat then scanS r (i+1)
   else if c.toNat=35 then scanS (r.dropWhile (λb=>b.toNat≠10)) (i+1+(r.takeWhile (λb=>b.toNat≠10)).length)
   else if kindC c.toNat=0 then .inr i
   else if mostC (kindC c.toNat)<1+(tailK (kindC c.toNat) r).length then .inr (i+mostC (kindC c.toNat))
   else wcons ⟨kindC c.toNat,c::tailK (kindC c.toNat) r,i⟩ (scanS (r.drop (tailK (kindC c.toNat) r).length) (i+1+(tailK (kindC c.toNat) r).length))
termination_by s=>s.length
decreasing_by
 all_goals simp only[List.length_cons,List.length_drop]
 . omega
 . have:=Qg2 (λb:UInt8=>decide (b.toNat≠10)) r;omega
 . omega
theorem Qlh(i:Nat):scanS [] i=.inl []:=by rw[scanS]
theorem Qj7(c:UInt8)(r:List UInt8)(i:Nat):scanS (c::r) i =
 if blkB c.toNat then scanS r (i+1)
 else if c.toNat=35 then scanS (r.dropWhile (λb=>b.toNat≠10)) (i+1+(r.takeWhile (λb=>b.toNat≠10)).length)
 else if kindC c.toNat=0 then .inr i
 else if mostC (kindC c.toNat)<1+(tailK (kindC c.toNat) r).length then .inr (i+mostC (kindC c.toNat))
 else wcons ⟨kindC c.toNat,c::tailK (kindC c.toNat) r,i⟩ (scanS (r.drop (tailK (kindC c.toNat) r).length) (i+1+(tailK (kindC c.toNat) r).length)):=by rw[scanS]
def rstep(i:Nat)(c:UInt8)(b:List Qk×Bool):(List Qk×Bool) ⊕ (List Qk×Int):=
 let note:=if c.toNat=35 then true else if c.toNat=10 then false else b.2
 if note || blkB c.toNat then .inl (b.1,note)
 else match b.1.getLast? with
  | some w=>if w.At+w.Ap.length=i∧goC w.Ak c.toNat=true then
   (if w.Ak=0∨mostC w.Ak<w.Ap.length+1 then .inr ([],(i:Int)) else .inl (b.1.dropLast++[⟨w.Ak,w.Ap++[c],w.At⟩],note))
    else if kindC c.toNat=0 then .inr ([],(i:Int)) else .inl (b.1++[⟨kindC c.toNat,[c],i⟩],note)
  | none=>if kindC c.toNat=0 then .inr ([],(i:Int)) else .inl (b.1++[⟨kindC c.toNat,[c],i⟩],note)
def rscan(s:List UInt8)(i:Nat)(b:List Qk×Bool):List Qk×Int:=runG rstep (λb=>(b.1,(-1:Int))) s i b
theorem Qu3(k:Int):1≤mostC k∧mostC k≤60:=by unfold mostC;grind
theorem Q8p{α:Type}{s:List α}{i:Nat}{x:α}(h:s[i]?=some x)(hs:s.length≤4611686018427387904):sub s (i:Int) (wrap64 ((i:Int)+1))=some [x]:=by
 have hi:=Kb h;rw[w1 (by omega),Q73 (by omega) (by omega),Kq hi];have:s[i]=x:=by have:=List.getElem?_eq_getElem hi;rw[h] at this;exact(Option.some.inj this).symm
 rw[this,List.drop_append_of_le_length (by simp;omega),List.drop_of_length_le (by simp;omega)];rfl
theorem Qww{n:Nat}{s:List UInt8}(hn:big≤n):Yk n s=some (if 4000<s.length then ([],4000) else rscan s 0 ([],false)):=by
 unfold Yk;simp only[bifd];by_cases hs:4000<s.length;rw[if_pos (by omega),if_pos hs];rw[if_neg (by omega),if_neg hs];have hn':=hn;unfold big at hn;unfold rscan;refine Quu (λb i=>(b.1,b.2,(i:Int))) rstep (λb=>b.1) _ (λi b=>b.1.length≤i∧∀ w∈b.1,0≤w.At∧w.At+w.Ap.length≤i) s ([],false) (λi c b hx hI=>?_) (λb _=>by simp) (λb _=>rfl) (by simp) (by omega);obtain⟨hI1,hI2⟩:=hI;have hi:=Kb hx;have hsub:=Q8p hx (by omega);have hg:getS s (i:Int)=some c.toNat:=by rw[Qso,hx];rfl
 obtain⟨out,note⟩:=b;simp only at hI1 hI2;simp only[if_pos (show(i:Int)<(s.length:Int) by omega),jn_eq,hg,sbind,hsub,Qwk hn',Qwi,Qwj];have hw1:wrap64 ((i:Int)+1)=((i+1:Nat):Int):=w1 (by omega);have hkeep:∀ nt:Bool,rstep i c (out,note)=.inl (out,nt)->∀ b':List Qk×Bool,rstep i c (out,note)=.inl b'->b'.1.length≤i+1∧∀ w∈b'.1,0≤w.At∧w.At+w.Ap.length≤((i+1:Nat):Int):=by intro nt h b' hb';rw[h] at hb';cases hb';exact⟨by simp only[];omega,λw hw=>by have:=hI2 w hw;omega⟩
 by_cases h35:c.toNat=35;have hr:rstep i c (out,note)=.inl (out,true):=by simp[rstep,h35]
 refine⟨?_,hkeep true hr⟩;rw[hr];simp[h35,hw1,toLpp];by_cases h10:c.toNat=10;have hr:rstep i c (out,note)=.inl (out,false):=by simp[rstep,h10,blkB]
 refine⟨?_,hkeep false hr⟩;rw[hr];simp[h10,hw1,toLpp];cases note with
 | true=>
   have hr:rstep i c (out,true)=.inl (out,true):=by simp[rstep,h10,h35]
   refine⟨?_,hkeep true hr⟩;rw[hr];simp[h10,h35,hw1,toLpp]
 | false=>
   by_cases hb:blkB c.toNat=true;have hr:rstep i c (out,false)=.inl (out,false):=by simp[rstep,h10,h35,hb]
   refine⟨?_,hkeep false hr⟩;rw[hr];simp only[blkB,decide_eq_true_eq,h10,false_or] at hb;rcases hb with h | h | h<;>simp[h,hw1,toLpp];have hb':blkB c.toNat=false:=by simpa using hb
   have g1:c.toNat≠32:=λh=>hb (by simp[blkB,h]);have g2:c.toNat≠9:=λh=>hb (by simp[blkB,h]);have g3:c.toNat≠13:=λh=>hb (by simp[blkB,h]);simp only[if_neg h35,if_neg h10,if_neg g1,if_neg g2,bifF,decide_eq_false g3]
   have hnew:((appM 32 out [(⟨kindC c.toNat,[c],(i:Int)⟩:Qk)]).bind λy596=>
    (getI y596 (wrap64 ((y596.length:Int) - 1))).bind λy598=>
     if y598.Ak=0 then bif true then some (Lp.out (Lp.out (([]:List Qk),(i:Int)))) else some (Lp.go (y596,false,wrap64 ((i:Int)+1)))
     else bif decide ((mostC y598.Ak:Int)<(y598.Ap.length:Int)) then some (Lp.out (Lp.out (([]:List Qk),(i:Int)))) else some (Lp.go (y596,false,wrap64 ((i:Int)+1)))) =
    some (toLpp (τ0:=List Qk) (λ(b:List Qk×Bool) i=>(b.1,b.2,(i:Int))) i (if kindC c.toNat=0 then .inr ([],(i:Int)) else .inl (out++[⟨kindC c.toNat,[c],i⟩],false))):=by
    rw[Vw (by simp;omega) (by simp;omega),sbind,Qq3 (by omega),sbind];by_cases h0:kindC c.toNat=0;simp only[h0,if_true,bifT,toLpp];simp only[if_neg h0];rw[decide_eq_false (by have:=(Qu3 (kindC c.toNat)).1;simp;omega),hw1];rfl
   have hinv:∀ b':List Qk×Bool,(if kindC c.toNat=0 then (.inr ([],(i:Int)):(List Qk×Bool) ⊕ (List Qk×Int)) else .inl (out++[⟨kindC c.toNat,[c],i⟩],false))=.inl b' →
    b'.1.length≤i+1∧∀ w∈b'.1,0≤w.At∧w.At+w.Ap.length≤((i+1:Nat):Int):=by
    intro b' h;by_cases h0:kindC c.toNat=0;rw[if_pos h0] at h;cases h;rw[if_neg h0] at h;cases h;refine⟨by simp;omega,λw hw=>?_⟩;rcases List.mem_append.1 hw with h | h;have:=hI2 w h;omega;rw[List.mem_singleton.1 h];simp
   rcases List.eq_nil_or_concat out with rfl | ⟨l,w,rfl⟩;have hr:rstep i c ([],false)=(if kindC c.toNat=0 then .inr ([],(i:Int)) else .inl ([]++[⟨kindC c.toNat,[c],i⟩],false)):=by simp[rstep,h10,h35,hb']
   rw[hr];refine⟨?_,hinv⟩;rw[if_neg (by simp)];exact hnew;rw[List.concat_eq_append] at *;have hw:=hI2 w (by simp);have hll:l.length+1≤i:=by simpa using hI1
   have hlast:getI (l++[w]) (wrap64 (((l++[w]).length:Int) - 1))=some w:=Qq3 (by omega)
   have hr:rstep i c (l++[w],false)=(if w.At+w.Ap.length=i∧goC w.Ak c.toNat=true then
    (if w.Ak=0∨mostC w.Ak<w.Ap.length+1 then .inr ([],(i:Int)) else .inl (l++[⟨w.Ak,w.Ap++[c],w.At⟩],false))
    else if kindC c.toNat=0 then .inr ([],(i:Int)) else .inl (l++[w]++[⟨kindC c.toNat,[c],i⟩],false)):=by simp[rstep,h10,h35,hb']
   rw[hr];rw[if_pos (show 0<((l++[w]).length:Int) by rw[List.length_append,List.length_singleton];omega)];simp only[hlast,sbind];rw[w64 (by omega) (by omega)];by_cases hat:w.At+w.Ap.length=i;rw[if_pos hat];by_cases hgo:goC w.Ak c.toNat=true;rw[if_pos ⟨hat,hgo⟩];simp only[hgo,bifT];rw[Q74 (by simp;omega),sbind,Q5x (by omega),Qq3 (by omega),sbind];by_cases h0:w.Ak=0;simp only[h0,if_true,true_or,toLpp];exact⟨trivial,λb' hb'=>by cases hb'⟩;by_cases hm:mostC w.Ak<w.Ap.length+1;have hd:decide ((mostC w.Ak:Int)<((w.Ap++[c]).length:Int))=true:=decide_eq_true (by simp;omega);simp only[h0,if_false,hd,bifT,false_or,if_pos hm];exact⟨rfl,λb' hb'=>by cases hb'⟩;have hd:decide ((mostC w.Ak:Int)<((w.Ap++[c]).length:Int))=false:=decide_eq_false (by simp;omega);simp only[h0,if_false,hd,bifF,false_or,if_neg hm,hw1];refine⟨rfl,λb' hb'=>?_⟩;cases hb';refine⟨by simp;omega,λv hv=>?_⟩;rcases List.mem_append.1 hv with h | h;have:=hI2 v (by simp[h]);omega;rw[List.mem_singleton.1 h];simp;omega;rw[if_neg (λh=>hgo h.2)];simp only[show goC w.Ak c.toNat=false by simpa using hgo,bifF];exact⟨hnew,hinv⟩;rw[if_neg hat,if_neg (λh=>hat h.1)];exact⟨hnew,hinv⟩
def wsR(out:List Qk):List Qk ⊕ Nat->List Qk×Int
 | .inl ws=>(out++ws,-1)
 | .inr p=>([],(p:Int))
theorem Q8q(out ws):wsR out (.inl ws)=(out++ws,-1):=Eq.symm (Eq.symm rfl)
theorem Q8r(out p):wsR out (.inr p)=([],(p:Int)):=Eq.symm (Eq.symm rfl)
theorem Qy6(i b):rscan [] i b=(b.1,(-1:Int)):=Eq.symm (Eq.symm rfl)
theorem Qiz{c r i b b'}(h:rstep i c b=.inl b'):rscan (c::r) i b=rscan r (i+1) b':=by unfold rscan;simp only[runG,h]
theorem Qy7{c r i b t}(h:rstep i c b=.inr t):rscan (c::r) i b=t:=by unfold rscan;simp only[runG,h]
theorem Q1y{c:Nat}(h:kindC c≠0):blkB c=false∧c≠35:=by
 constructor;cases hb:blkB c with
 | false=>rfl
 | true=>
   exfalso;apply h;simp only[blkB,decide_eq_true_eq] at hb;rcases hb with rfl | rfl | rfl | rfl<;>decide
 rintro rfl;exact h (by decide)
theorem Q8s{k:Int}{c:Nat}(h:goC k c=true):kindC c≠0:=by unfold goC at h;unfold kindC;simp only[Bool.or_eq_true,Bool.and_eq_true] at h;rcases h with ⟨_,h⟩ | ⟨_,h | h⟩;rw[if_pos h];decide;rw[if_pos h];split<;>decide;rw[if_pos h];decide
theorem blk10:blkB 10=true:=by decide
theorem Q1z:∀(s:List UInt8) (i:Nat) (out),rscan s i (out,true)=rscan (s.dropWhile (λb=>b.toNat≠10)) (i+(s.takeWhile (λb=>b.toNat≠10)).length) (out,true)
 | [],i,out=>rfl
 | c::s,i,out=>by
   rw[List.dropWhile_cons,List.takeWhile_cons];by_cases h:c.toNat=10;simp[h];simp only[ne_eq,h,not_false_eq_true,decide_true,if_true,List.length_cons];have hr:rstep i c (out,true)=.inl (out,true):=by unfold rstep;simp only[h,if_false];split<;>simp
   rw[Qiz hr,Q1z s (i+1) out];rw[show i+((s.takeWhile (λb=>decide (b.toNat≠10))).length+1)=i+1+(s.takeWhile (λb=>decide (b.toNat≠10))).length by omega]
theorem Qy8(l:List Qk)(w):(l++[w]).getLast?=some w:=by simp
theorem Q4i{i:Nat}{c:UInt8}{l}{k:Int}{t:List UInt8}{a:Nat}(hgo:goC k c.toNat=true)(ha:a+t.length=i)(hk:k≠0):
 rstep i c (l++[⟨k,t,a⟩],false)=if mostC k<t.length+1 then .inr ([],(i:Int)) else .inl (l++[⟨k,t++[c],a⟩],false):=by
 obtain⟨g1,g2⟩:=Q1y (Q8s hgo);have g3:c.toNat≠10:=λh=>by rw[h,blk10] at g1;cases g1
 unfold rstep;simp only[if_neg g2,if_neg g3,g1,Bool.or_self,Bool.false_eq_true,if_false,Qy8];rw[if_pos ⟨by omega,hgo⟩];simp only[hk,false_or,List.dropLast_concat]
theorem Q10:∀(p s:List UInt8) (i:Nat) (l:List Qk) (k:Int) (t:List UInt8) (a:Nat),(∀ b∈p,goC k b.toNat=true)->a+t.length=i->k≠0->t.length≤mostC k →
 rscan (p++s) i (l++[⟨k,t,a⟩],false)=if mostC k<t.length+p.length then ([],((a+mostC k:Nat):Int)) else rscan s (i+p.length) (l++[⟨k,t++p,a⟩],false)
 | [],s,i,l,k,t,a,_,_,_,hl=>by rw[if_neg (by simp;omega)];simp
 | c::p,s,i,l,k,t,a,hp,ha,hk,hl=>by have hs:=Q4i (l:=l) (hp c (.head _)) ha hk;rw[List.cons_append];by_cases hm:mostC k<t.length+1;rw[if_pos hm] at hs;rw[Qy7 hs,if_pos (by simp;omega)];rw[show i=a+mostC k by omega];rw[if_neg hm] at hs;rw[Qiz hs,Q10 p s (i+1) l k (t++[c]) a (λb hb=>hp b (.tail _ hb)) (by simp;omega) hk (by simp;omega)];simp only[List.length_append,List.length_cons,List.append_assoc,List.singleton_append,List.length_nil];rw[show t.length+(0+1)+p.length=t.length+(p.length+1) by omega,show i+1+p.length=i+(p.length+1) by omega]
def fresh(out:List Qk)(i:Nat)(s:List UInt8):Prop:=∀ w,out.getLast?=some w->w.At+w.Ap.length≤i∧∀ c r,s=c::r->w.At+w.Ap.length=(i:Int)->goC w.Ak c.toNat=false
theorem Qy9{out:List Qk}{i j:Nat}{s s'}(h:fresh out i s)(hj:i<j):fresh out j s':=λw hw=>by obtain⟨h1,_⟩:=h w hw;exact⟨by omega,λc r _ h3=>by omega⟩
theorem Q2m{i:Nat}{c:UInt8}{r out}(hf:fresh out i (c::r))(h1:blkB c.toNat=false)(h2:c.toNat≠35):
 rstep i c (out,false)=if kindC c.toNat=0 then .inr ([],(i:Int)) else .inl (out++[⟨kindC c.toNat,[c],i⟩],false):=by
 have g3:c.toNat≠10:=λh=>by rw[h,blk10] at h1;cases h1
 unfold rstep;simp only[if_neg h2,if_neg g3,h1,Bool.or_self,Bool.false_eq_true,if_false];cases ho:out.getLast? with
 | none=>rfl
 | some w=>
   obtain⟨k1,k2⟩:=hf w ho;simp only[];rw[if_neg (λh=>by have:=k2 c r rfl h.1;rw[h.2] at this;cases this)]
theorem Q6d(out w x):wsR out (wcons w x)=wsR (out++[w]) x:=by cases x<;>simp[wsR,wcons]
theorem Qth:∀(m:Nat) (s:List UInt8) (i:Nat) (out),s.length≤m->fresh out i s->rscan s i (out,false)=wsR out (scanS s i)
 | _,[],i,out,_,_=>by rw[Qy6,Qlh];simp[wsR]
 | 0,_::_,_,_,h,_=>by simp at h
 | m+1,c::r,i,out,hm,hf=>by
   rw[Qj7];have hrm:r.length≤m:=by simp at hm;omega
   by_cases hb:blkB c.toNat=true
   . rw[if_pos hb]
     have h35:c.toNat≠35:=λh=>by rw[h] at hb;exact absurd hb (by decide)
     have hs:rstep i c (out,false)=.inl (out,false):=by unfold rstep;simp only[if_neg h35,hb,Bool.or_true,if_true];split<;>rfl
     rw[Qiz hs];exact Qth m r (i+1) out hrm (Qy9 hf (by omega))
   . rw[if_neg hb]
     have hb':blkB c.toNat=false:=by simpa using hb
     by_cases h35:c.toNat=35
     . rw[if_pos h35]
       have hs:rstep i c (out,false)=.inl (out,true):=by unfold rstep;simp only[if_pos h35,Bool.true_or,if_true]
       rw[Qiz hs,Q1z];have hd:=Qg2 (λb:UInt8=>decide (b.toNat≠10)) r;generalize hj:i+1+(r.takeWhile (λb=>decide (b.toNat≠10))).length=j;have hij:i<j:=by omega
       cases hq:r.dropWhile (λb=>decide (b.toNat≠10)) with
       | nil=>rw[Qy6,Qlh];simp[wsR]
       | cons d q=>
         have hd10:d.toNat=10:=by have:=List.head?_dropWhile_not (λb:UInt8=>decide (b.toNat≠10)) r;rw[hq] at this;simpa using this
         have hs2:rstep j d (out,true)=.inl (out,false):=by unfold rstep;simp[hd10,blkB]
         rw[Qiz hs2,Qj7,if_pos (by rw[hd10];decide)];rw[hq] at hd;exact Qth m q (j+1) out (by simp at hd;omega) (Qy9 hf (by omega))
     . rw[if_neg h35]
       have hs:=Q2m hf hb' h35;by_cases h0:kindC c.toNat=0
       . rw[if_pos h0] at hs ⊢
         rw[Qy7 hs];rfl
       . rw[if_neg h0] at hs ⊢
         rw[Qiz hs];generalize hk:kindC c.toNat=k at *
         have hall:∀ b∈tailK k r,goC k b.toNat=true:=λb hb=>by have:=List.all_takeWhile (p:=λb:UInt8=>goC k b.toNat) (l:=r);exact(List.all_eq_true.1 this) b hb
         have hsplit:r=tailK k r++r.drop (tailK k r).length:=by
          have h1:=Qp7 (λb:UInt8=>goC k b.toNat) r;have h2:tailK k r=r.take (tailK k r).length:=h1
          conv=>lhs;rw[←List.take_append_drop (tailK k r).length r]
          rw[←h2]
         have hrun:=Q10 (tailK k r) (r.drop (tailK k r).length) (i+1) out k [c] i hall (by simp) h0 (Qu3 k).1;rw[←hsplit] at hrun;rw[hrun];simp only[List.length_singleton,List.singleton_append];by_cases hm2:mostC k<1+(tailK k r).length
         . rw[if_pos hm2,if_pos hm2];rfl
         . rw[if_neg hm2,if_neg hm2,Q6d]
           refine Qth m _ _ _ (by rw[List.length_drop];omega) ?_;intro w hw;rw[Qy8] at hw;cases hw;refine⟨by simp;omega,λd q hq _=>?_⟩;have:r[(tailK k r).length]?=some d:=by
            have:=congrArg (λl=>l[0]?) hq
            simpa using this
           exact Qlz (p:=λb:UInt8=>goC k b.toNat) this
theorem Qtx{n:Nat}{s:List UInt8}(hn:big≤n):Yk n s=some (if 4000<s.length then ([],4000) else wsR [] (scanS s 0)):=by rw[Qww hn,Qth s.length s 0 [] (Nat.le_refl _) (λw h=>by cases h)]
theorem Qli:∀(m:Nat) (s:List UInt8) (i:Nat) (ws),s.length≤m->scanS s i=.inl ws->∀ w∈ws,w.Ap.length≤s.length
 | _,[],i,ws,_,h=>by rw[Qlh] at h;cases h;simp
 | 0,_::_,_,_,h,_=>by simp at h
 | m+1,c::r,i,ws,hm,h=>by
   have hrm:r.length≤m:=by simp at hm;omega
   rw[Qj7] at h;intro w hw;rw[List.length_cons];by_cases hb:blkB c.toNat=true;rw[if_pos hb] at h;have:=Qli m r _ ws hrm h w hw;omega;rw[if_neg hb] at h;by_cases h35:c.toNat=35;rw[if_pos h35] at h;have hd:=Qg2 (λb:UInt8=>decide (b.toNat≠10)) r;have:=Qli m _ _ ws (by omega) h w hw;omega;rw[if_neg h35] at h;by_cases h0:kindC c.toNat=0;rw[if_pos h0] at h;cases h;rw[if_neg h0] at h;by_cases hm2:mostC (kindC c.toNat)<1+(tailK (kindC c.toNat) r).length;rw[if_pos hm2] at h;cases h;rw[if_neg hm2] at h;cases hq:scanS (r.drop (tailK (kindC c.toNat) r).length) (i+1+(tailK (kindC c.toNat) r).length) with
   | inr p=>rw[hq] at h;cases h
   | inl l=>
     rw[hq] at h;cases h;rcases List.mem_cons.1 hw with rfl | h';simp only[List.length_cons];have:(tailK (kindC c.toNat) r).length≤r.length:=Qnf _ _;omega;have:=Qli m _ _ l (by rw[List.length_drop];omega) hq w h';rw[List.length_drop] at this;omega
theorem Qu4(k:Int)(c:UInt8)(r:List UInt8):wdB k (c::r)=true↔k≠0∧kindC c.toNat=k∧r.all (λb=>goC k b.toNat)=true∧r.length+1≤mostC k:=by simp[wdB]
theorem Q6e{k:Int}{r:List UInt8}(h:r.all (λb=>goC k b.toNat)=true):tailK k r=r:=by have h1:=Qig.2 h;have h2:=Qp7 (λb:UInt8=>goC k b.toNat) r;unfold tailK;rw[h2,h1,List.take_length]
theorem Q7f{k:Int}{t:List UInt8}(h:wdB k t=true)(i:Nat):scanS t i=.inl [⟨k,t,i⟩]:=by
 cases t with
 | nil=>cases h
 | cons c r=>
   obtain⟨h1,h2,h3,h4⟩:=(Qu4 k c r).1 h;obtain⟨g1,g2⟩:=Q1y (c:=c.toNat) (by rw[h2];exact h1);rw[Qj7,if_neg (by rw[g1];decide),if_neg g2,h2,if_neg h1,Q6e h3,if_neg (by omega),List.drop_length,Qlh];rfl
theorem Qu5{n:Nat}{w:Qk}(hn:big≤n):Zm n w=some (wdB w.Ak w.Ap):=by
 unfold Zm;rw[Qtx hn,sbind];by_cases hl:4000<w.Ap.length;rw[if_pos hl];have:wdB w.Ak w.Ap=false:=by
  cases hw:w.Ap with
  | nil=>rfl
  | cons c r=>
    rw[hw] at hl;cases hb:wdB w.Ak (c::r) with
    | false=>rfl
    | true=>have:=((Qu4 _ c r).1 hb).2.2.2;have:=(Qu3 w.Ak).2;simp at hl;omega
 rw[this];rfl;rw[if_neg hl];cases hb:wdB w.Ak w.Ap with
 | true=>rw[Q7f hb];simp[wsR,jn_eq,getI]
 | false=>
   cases hs:scanS w.Ap 0 with
   | inr p=>rw[Q8r];simp only[jn_eq,bifd];rw[if_neg (by omega)]
   | inl ws=>
     rw[Q8q,List.nil_append];simp only[jn_eq,bifd];rw[if_pos (by decide)]
     match ws,hs with
     | [],_=>rfl
     | [v],hs=>
       simp only[show(([v].length:Nat):Int)=1 by rfl,if_true,show getI [v] (0:Int)=some v by rfl,sbind];by_cases hk:v.Ak=w.Ak;rw[if_pos hk];by_cases ht:v.Ap=w.Ap;exfalso;cases hw:w.Ap with
       | nil=>rw[hw,Qlh] at hs;cases hs
       | cons c r=>
         rw[hw] at hs hb ht;rw[Qj7] at hs;by_cases g1:blkB c.toNat=true;rw[if_pos g1] at hs;have:=Qli r.length r _ _ (Nat.le_refl _) hs v (by simp);rw[ht] at this;simp at this;omega;rw[if_neg g1] at hs;by_cases h35:c.toNat=35;rw[if_pos h35] at hs;have hd:=Qg2 (λb:UInt8=>decide (b.toNat≠10)) r;have:=Qli _ _ _ _ (Nat.le_refl _) hs v (by simp);rw[ht] at this;simp at this;simp at hd;omega;rw[if_neg h35] at hs;by_cases h0:kindC c.toNat=0;rw[if_pos h0] at hs;cases hs;rw[if_neg h0] at hs;by_cases hm2:mostC (kindC c.toNat)<1+(tailK (kindC c.toNat) r).length;rw[if_pos hm2] at hs;cases hs;rw[if_neg hm2] at hs;cases hq:scanS (r.drop (tailK (kindC c.toNat) r).length) (0+1+(tailK (kindC c.toNat) r).length) with
         | inr p=>rw[hq] at hs;cases hs
         | inl l=>
           rw[hq] at hs;simp only[wcons,Sum.inl.injEq,List.cons.injEq] at hs;obtain⟨rfl,_⟩:=hs;simp only at ht hk;have ht':tailK (kindC c.toNat) r=r:=(List.cons.inj ht).2;have:wdB w.Ak (c::r)=true:=by rw[Qu4,←hk];refine⟨h0,rfl,?_,by rw[ht'] at hm2;omega⟩;exact Qig.1 (by have:=congrArg List.length ht';exact this)
           rw[this] at hb;cases hb
       simp[ht];rw[if_neg hk]
     | v::u::l,_=>rw[if_neg (by simp;omega)]
end Go.Proofs.YtlfphifbmoccgaaGreatDoor
