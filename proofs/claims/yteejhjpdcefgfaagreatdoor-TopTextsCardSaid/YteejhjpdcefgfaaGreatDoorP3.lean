import Derived.Test.YteejhjpdcefgfaaGreatDoorP2
namespace Go.Proofs.YteejhjpdcefgfaaGreatDoor
open Go Go.RowKit
set_option maxRecDepth 100000
def fracsR(r:Jb):Prop:=∀ x∈[r.Tol,r.A4,r.Low,r.A3,r.A0],numR x
structure RulR(r:Jb):Prop where
 f:fracsR r
 tol:0<=(fv r.Tol).num.sign
 safe:0<(fv r.A4).num.sign
 safe1:(fv r.A4 - 1).num.sign<=0
 low:0<(fv r.Low).num.sign
 low1:(fv r.Low - 1).num.sign<0
 high:0<=(fv r.A3 - 1).num.sign
 least:0<(fv r.A0).num.sign
 fine:1<=r.Fine/\r.Fine<=1024
 most:1<=r.A1/\r.A1<=200
def RulW(k:Nat)(r:Jb):Prop:=FR k [r.Tol,r.A4,r.Low,r.A3,r.A0]
theorem RulW.all{k:Nat}{r:Jb}(h:RulW k r):Fk k r.Tol/\Fk k r.A4/\Fk k r.Low/\Fk k r.A3/\Fk k r.A0:=
 ⟨h _ oc,h _ oc,h _ oc,h _ oc,h _ oc⟩
theorem Qwk{n k:Nat}{l:List Qa}(hn:big<=n)(hk:k<1048576)(q:FR k l):Qex n l=some (dP (∀ x∈l,numR x)):=by
 unfold Qex;rw[Qdw (λ_ (x:Qa)=>numR x) (r:=false),Qox];by_cases h:∀ x∈l,numR x;rw[oj h,dP_t h];rw[oi h,dP_f h];intro i x t;simp only[jn_eq];have e:=Q9p hn hk (q x (Q3 t));have p:∀(K:Bool->Option (Lp Unit Bool)),((Wb n x).bind λa=>bif !a then K true else (Wg n x).bind λg=>K (decide ((190:Int)<g)))=(((Wb n x).bind λj=>bif !j then some true else (Wg n x).bind λm=>some (decide ((190:Int)<m))).bind K):=by
  intro K;cases Wb n x with
  | none=>rfl
  | some v=>
    cases v;rfl;rw[ym,ym];cases Wg n x<;>rfl
 refine⟨λh=>?_,λh=>?_⟩;refine(p λs=>bif s then some (Lp.out false) else some (Lp.go ())).trans ?_;rw[e,dP_t h];rfl;refine(p λs=>bif s then some (Lp.out false) else some (Lp.go ())).trans ?_;rw[e,dP_f h];rfl
theorem Qlo{n k:Nat}{f:Qa}(hn:big<=n)(a:1<=k)(hk:k<1099511627776)(hf:Fk k f):Qcs n f=some (decide (0<(fv f).num.sign)):=by unfold Qcs;rw[Qfg hn a hk hf,sbind]
theorem Qzw{n k:Nat}{r:Jb}(hn:big<=n)(e:1<=k)(hk:k<1048576)(hr:RulW k r):Qhp n r=some (dP (RulR r)):=by
 obtain⟨w1,t,u,v,w⟩:=hr.all;have k1:Fk k (toF 1):=Vg (by rw[Jc9];exact e);have a:k<1099511627776:=om
 unfold Qhp Qkx;simp only[jn_eq];rw[Qnd hn,sbind,Qwk hn hk hr,sbind,bifnP];by_cases c1:∀ x∈[r.Tol,r.A4,r.Low,r.A3,r.A0],numR x
 case neg=>rw[oi c1,sbind,dP_f λh=>c1 h.f];rfl
 rw[oj c1,Qfg hn e a w1,sbind];by_cases c2:(fv r.Tol).num.sign<0
 . rw[oq c2,bifT,sbind,dP_f λh=>by have:=h.tol;omega];rfl
 rw[ol c2,bifF,Qlo hn e a t,sbind];by_cases c3:0<(fv r.A4).num.sign
 case neg=>rw[ol c3,xo,bifT,bifT,sbind,dP_f λh=>c3 h.safe];rfl
 rw[oq c3,ow,bifF,X2 (k:=k) hn e a t k1,sbind,Kg];by_cases c4:0<(fv r.A4 - 1).num.sign
 . rw[oq c4,bifT,sbind,dP_f λh=>by have:=h.safe1;omega];rfl
 rw[ol c4,bifF,Qlo hn e a u,sbind];by_cases c5:0<(fv r.Low).num.sign
 case neg=>rw[ol c5,xo,bifT,bifT,sbind,dP_f λh=>c5 h.low];rfl
 rw[oq c5,ow,bifF,X2 (k:=k) hn e a u k1,sbind,Kg];by_cases p:0<=(fv r.Low - 1).num.sign
 . rw[oq p,bifT,sbind,dP_f λh=>by have:=h.low1;omega];rfl
 rw[ol p,bifF,X2 (k:=k) hn e a v k1,sbind,Kg];by_cases q:(fv r.A3 - 1).num.sign<0
 . rw[oq q,bifT,sbind,dP_f λh=>by have:=h.high;omega];rfl
 rw[ol q,bifF,Qlo hn e a w,sbind];by_cases m:0<(fv r.A0).num.sign
 case neg=>rw[ol m,xo,bifT,sbind,dP_f λh=>m h.least];rfl
 rw[oq m,ow,bifF];by_cases c9:r.Fine<1
 . rw[oq c9,bifT,bifT,sbind,dP_f λh=>by have:=h.fine;omega];rfl
 rw[ol c9,bifF];by_cases g:1024<r.Fine
 . rw[oq g,bifT,sbind,dP_f λh=>by have:=h.fine;omega];rfl
 rw[ol g,bifF];by_cases j:r.A1<1
 . rw[oq j,bifT,bifT,sbind,dP_f λh=>by have:=h.most;omega];rfl
 rw[ol j,bifF];by_cases l:200<r.A1
 . rw[oq l,bifT,sbind,dP_f λh=>by have:=h.most;omega];rfl
 rw[ol l,bifF,sbind,dP_t ⟨c1,om,c3,om,c5,om,om,m,om,om⟩];rfl
def accQ(r:Jb)(e:Rat):Prop:=(e - fv r.Tol).num.sign<=0
def underQ(r:Jb)(w:Rat):Prop:=(w - fv r.A0).num.sign<0
def cutQ(T E W:Rat):Rat:=if 0<(W - (E - T)).num.sign then E - T else W
def downQ(x:Rat)(fine:Int):Rat:=mkRat (floorQ (x*(fine:Rat))) fine.toNat
def factorQ(r:Jb)(e:Rat):Rat:=
 if e=0 then fv r.A3 else
 if (downQ (fv r.A4*fv r.Tol / e) r.Fine - fv r.Low).num.sign<0 then fv r.Low else
 if 0<(downQ (fv r.A4*fv r.Tol / e) r.Fine - fv r.A3).num.sign then fv r.A3 else downQ (fv r.A4*fv r.Tol / e) r.Fine
theorem Qwl{n k:Nat}{r:Jb}{e:Rat}(hn:big<=n)(a:1<=k)(hk:k<1099511627776)(hr:Fk k r.Tol)(g:qw e<=k):Qe0 n r (toF e)=some (dP (accQ r e)):=by unfold Qe0;rw[X2 hn a hk (Vg g) hr,sbind,Kg,decP];rfl
theorem Qp5{n k:Nat}{r:Jb}{e:Rat}(hn:big<=n)(a:1<=k)(hk:k<1099511627776)(hr:Fk k r.A0)(g:qw e<=k):Qhq n r (toF e)=some (dP (underQ r e)):=by unfold Qhq;rw[X2 hn a hk (Vg g) hr,sbind,Kg,decP];rfl
theorem Qt2{n k:Nat}{e:Qa}{T W:Rat}(hn:big<=n)(a:1<=k)(hk:k<100000000)(j:qw T<=k)(g:Fk k e)(hW:qw W<=k):Qky n (toF T) e (toF W)=some (toF (cutQ T (fv e) W)):=by unfold Qky cutQ;have l:=Q6k (qw_fv g a) j;rw[Qtu (k:=k) hn a om g (Vg j),sbind,Kg,X2 (k:=k+k+1) hn om om (Vg om) (Vg l),sbind,Kg,Kg];by_cases h:0<(W - (fv e - T)).num.sign;rw[oq h,oj h];rfl;rw[ol h,oi h,bifF,Vf hn (Fk_Fw (Vg hW) om),sbind,Kg]
theorem Q91{z:Int}{k:Nat}(a:1<=k)(h:(toL z.natAbs).length<=k):qw (z:Rat)<=k:=by unfold qw;rw[show((z:Rat)).num=z from rfl,show((z:Rat)).den=1 from rfl,toL1];omega
theorem Qs9{fine:Int}(h:1<=fine/\fine<=1024):(toL fine.natAbs).length<=1:=Xy (n:=fine.natAbs) (k:=1) (by rw[V9,Y9];omega)
theorem Q2z(q:Rat):(floorQ q).natAbs<=q.num.natAbs:=by unfold floorQ;exact Int.natAbs_ediv_le_natAbs _ _
theorem Q1s{n k:Nat}{x:Rat}{fine:Int}(hn:big<=n)(j:1<=k)(hk:k<100000000)(g:qw x<=k)(hf:1<=fine/\fine<=1024):Qje n (toF x) fine=some (toF (downQ x fine)):=by
 unfold Qje downQ;have m:qw (fine:Rat)<=1:=Q91 om (Qs9 hf);have a:=Qff g m;rw[Qln hn om om,sbind,Qbt (k:=k) hn j om (Vg g) (Vg om),sbind,Kg,Kg,Qzl (k:=k+1) hn om om (Vg a),sbind,Kg,Qnc hn om om,sbind];have l:(toL (floorQ (x*(fine:Rat))).natAbs).length<=k+1:=xn (Wo (Q2z _)) (xn (Qmz _) a);have e:val (toW fine).A2=fine.toNat:=by
  show val (toL fine.natAbs)=_;rw[Q5];omega
 rw[Qj0 hn (w:=toW (floorQ (x*(fine:Rat)))) (d:=(toW fine).A2) ⟨Qan _,by show(toL (floorQ (x*(fine:Rat))).natAbs).length<_;omega⟩ (Qan _) (by show(toL fine.natAbs).length<_;have:=Qs9 hf;omega) (by rw[e];omega),sbind,Yf,e]
theorem Jhk{x:Rat}{fine:Int}{k:Nat}(g:qw x<=k)(hf:1<=fine/\fine<=1024):qw (downQ x fine)<=k+1:=by unfold downQ;have e:qw (fine:Rat)<=1:=Q91 om (Qs9 hf);have a:=Qff g e;refine Qsu om (xn (Wo (Q2z _)) (xn (Qmz _) a)) ?_;have:=Qs9 hf;rw[show fine.toNat=fine.natAbs by omega];omega
theorem Qxv{n k:Nat}{r:Jb}{e:Rat}(hn:big<=n)(j:1<=k)(hk:k<1000000)(hr:RulW k r)(hf:1<=r.Fine/\r.Fine<=1024)(t:qw e<=k):Qga n r (toF e)=some (toF (factorQ r e)):=by obtain⟨w1,p,q,l,u⟩:=hr.all;have m:=Qff (qw_fv p j) (qw_fv w1 j);have hd:=Jcu m t;have a:=Jhk hd hf;unfold Qga factorQ;rw[Qbt (k:=k) hn j om p w1,sbind,Qtv (k:=k+k) hn om om (Vg m) (Vg om),sbind,Kg,Kg];by_cases h0:e=0;rw[oj h0,oj h0];simp only[];rw[xo,bifT,Vf hn (Fk_Fw l om),sbind];rw[oi h0,oi h0];simp only[];rw[ow,bifF,Q1s (k:=k+k+k) hn om om hd hf,sbind,X2 (k:=k+k+k+1) hn om om (Vg a) (Wk q om),sbind,Kg];generalize downQ (fv r.A4*fv r.Tol / e) r.Fine=x at *;by_cases g1:(x - fv r.Low).num.sign<0;rw[oq g1,oj g1,bifT,Vf hn (Fk_Fw q om),sbind];rw[ol g1,oi g1,bifF,X2 (k:=k+k+k+1) hn om om (Vg a) (Wk l om),sbind,Kg];by_cases g:0<(x - fv r.A3).num.sign;rw[oq g,oj g,bifT,Vf hn (Fk_Fw l om),sbind];rw[ol g,oi g,bifF]
set_option maxRecDepth 100000
theorem sg_lt{a b:Rat}:(a - b).num.sign<0↔a<b:=by rw[Int.sign_neg_iff,<-Int.not_le,Rat.num_nonneg,<-Rat.le_iff_sub_nonneg,Rat.not_le]
theorem sg_gt{a b:Rat}:0<(a - b).num.sign↔b<a:=by
 have e:(a - b).num=-(b - a).num:=by rw[<-Q06,Rat.neg_sub]
 rw[Int.sign_pos_iff,e,<-sg_lt,Int.sign_neg_iff];omega
theorem sg_ge{a b:Rat}:0<=(a - b).num.sign↔b<=a:=by rw[<-Int.not_lt,sg_lt,Rat.not_lt]
theorem Qzx{a:Rat}:0<a.num.sign↔0<a:=by have:=@sg_gt a 0;rwa [show a - 0=a by grind] at this
theorem Jfq{x h:Rat}{fine:Int}{j:Nat}(hf:1<=fine/\fine<=1024)(h0:0<downQ x fine)(m:downQ x fine<=h)(p:qw h<=j):qw (downQ x fine)<=j+1:=by
 have l:(downQ x fine).den<=1024:=by unfold downQ;rw[(Qdc (z:=floorQ (x*(fine:Rat))) (d:=fine.toNat) om).2];exact xn (wd _ _) om
 generalize downQ x fine=y at *;have hn:0<y.num:=by have:=Qzx.2 h0;exact Int.sign_pos_iff.1 this
 rw[Rat.le_iff] at m;have e:(1:Int)<=(h.den:Int):=by have:=h.den_nz;omega
 have a1:y.num<=y.num*(h.den:Int):=by have:=Int.mul_le_mul_of_nonneg_left e (Int.le_of_lt hn);rwa [Int.mul_one] at this
 have a:0<=h.num:=by rcases Int.lt_or_le h.num 0 with g | g;have:=Int.mul_neg_of_neg_of_pos g (show(0:Int)<(y.den:Int) by have:=y.den_nz;omega);omega;exact g
 have a2:h.num*(y.den:Int)<=h.num*1024:=Int.mul_le_mul_of_nonneg_left om a;have a3:y.num.natAbs<=h.num.natAbs*1024:=om
 have q:(toL y.num.natAbs).length<=j+1:=by refine xn (Wo a3) (xn Qco ?_);have:=xn (Qmz h) p;have:(toL 1024).length<=1:=Xy (n:=1024) (k:=1) (by rw[V9,Y9];omega);omega
 have r:(toL y.den).length<=1:=Xy (n:=y.den) (k:=1) (by rw[V9,Y9];omega);unfold qw;omega
theorem Qzy{r:Jb}(hr:RulR r){j:Nat}(l:qw (fv r.Low)<=j)(g:qw (fv r.A3)<=j)(e:Rat):qw (factorQ r e)<=j+1:=by have k:=Qzx.1 hr.low;unfold factorQ;split;omega;split;omega;rename_i g1;split;omega;rename_i a;have g3:=Rat.not_lt.1 (λh=>g1 (sg_lt.2 h));exact Jfq hr.fine (by grind) (Rat.not_lt.1 λh=>a (sg_gt.2 h)) g
structure TryA where
 T:Rat
 Want:Rat
 H:Rat
 Err:Rat
 Y:List Rat
 Ok:Bool
def toTryA(t:TryA):Q7:=⟨toF t.T,toF t.Want,toF t.H,toF t.Err,toR t.Y,t.Ok⟩
noncomputable def tryA(r:Jb)(E T:Rat)(Y:List Rat)(W:Rat)(z:MadeQ):TryA:=⟨T,W,cutQ T E W,normQ z.err,Y,dP (accQ r (normQ z.err))⟩
noncomputable def adaptQ(p:Qq)(r:Jb)(E:Rat):Nat->List TryA->Rat->List Rat->Rat->(List TryA×Rat×List Rat)×Qc
 | 0,tr,T,Y,_=>if T=E then ((tr,T,Y),⟨0,0,0,0⟩) else ((tr,T,Y),⟨5,(tr.length:Int)+1,0,0⟩)
 | m+1,tr,T,Y,W=>if T=E then ((tr,T,Y),⟨0,0,0,0⟩) else
   bif dP (underQ r W) then ((tr,T,Y),⟨4,(tr.length:Int)+1,0,0⟩) else
   match stepQ p T (cutQ T E W) Y with
   | .inl f=>((tr,T,Y),⟨f.Aw,(tr.length:Int)+1,f.A5,f.At⟩)
   | .inr z=>adaptQ p r E m (tr++[tryA r E T Y W z]) (bif dP (accQ r (normQ z.err)) then T+cutQ T E W else T) (bif dP (accQ r (normQ z.err)) then z.next else Y) (cutQ T E W*factorQ r (normQ z.err))
def gA:Nat->Nat×Nat
 | 0=>(2,2)
 | n+1=>((gA n).1+(gA n).2+1,max ((gA n).1+3) (gA n).2+3)
theorem gA_le:∀ n,n<=12->(gA n).1<=3000/\(gA n).2<=3000:=oy
theorem Q7m:∀ n,2<=(gA n).1/\2<=(gA n).2
 | 0=>⟨ou _,ou _⟩
 | n+1=>by obtain⟨a,b⟩:=Q7m n;exact⟨by show 2<=(gA n).1+(gA n).2+1;omega,by show 2<=max ((gA n).1+3) (gA n).2+3;omega⟩
theorem Q92{T E W:Rat}{a b:Nat}(e:qw T<=a)(g:qw E<=2)(hW:qw W<=b):qw (cutQ T E W)<=max (a+3) b/\qw (T+cutQ T E W)<=max 2 (a+b+1):=by unfold cutQ;split;have:=Q6k g e;refine⟨om,?_⟩;rw[show T+(E - T)=E by grind];omega;have:=Qow e hW;exact⟨om,om⟩
set_option maxRecDepth 100000
abbrev AdS:=Jc×(List Q7)×Qa×(List Qa)×Qa×Qc
def adBody(n:Nat)(a:AdS):Option (Lp AdS AdS):=
 (X4 n a.1 a.2.1 a.2.2.1 a.2.2.2.1 a.2.2.2.2.1).bind λm=>
 bif !m then (
  jn (λ(k:(Jc×(List Q7)×Qa×(List Qa)×Qa×Qc×Bool)->Option _)=>
   (Wq n a.1 a.2.1 a.2.2.1 a.2.2.2.1 a.2.2.2.2.1).bind λp=>
   (X5 p a.2.2.2.2.2).bind λj=>
   bif j.1 then (
    k (a.1,a.2.1,a.2.2.1,a.2.2.2.1,a.2.2.2.2.1,j.2,true))
   else (
    (Xc n a.1 a.2.1 a.2.2.1 a.2.2.2.1 a.2.2.2.2.1).bind λg=>
    (X5 g.1 j.2).bind λl=>
    k (g.2.1,g.2.2.2.2.2,g.2.2.1,g.2.2.2.1,g.2.2.2.2.1,l.2,l.1))) (λ(e:Jc×(List Q7)×Qa×(List Qa)×Qa×Qc×Bool)=>
   bif e.2.2.2.2.2.2 then (
    some (Lp.out (e.1,e.2.1,e.2.2.1,e.2.2.2.1,e.2.2.2.2.1,e.2.2.2.2.2.1)))
   else (
    some (Lp.go (e.1,e.2.1,e.2.2.1,e.2.2.2.1,e.2.2.2.2.1,e.2.2.2.2.2.1)))))
 else (
  some (Lp.out (a.1,a.2.1,a.2.2.1,a.2.2.2.1,a.2.2.2.2.1,a.2.2.2.2.2)))
theorem Jdq(n:Nat)(x0:Jc):Qct n x0=(Qc7 n x0).bind λe=>
 bif !e then (
  some ((⟨[],(⟨(⟨false,[]⟩:Qe),[]⟩:Qa),[]⟩:Jf),(⟨(2:Int),0,0,0⟩:Qc)))
 else (
  (Ki n x0.Ax).bind λg=>
  (Kb n (1:Int)).bind λj=>
  (Xn n j x0.Y).bind λk=>
  (Ki n x0.Ay).bind λl=>
  (loopM (adBody n) n (x0,([]:List Q7),g,k,l,(⟨0,0,0,0⟩:Qc))).bind λ(a:AdS)=>
  some ((⟨a.2.1,a.2.2.1,a.2.2.2.1⟩:Jf),a.2.2.2.2.2)):=yw (yw rfl)
structure TskW(k:Jc):Prop where
 p:PrbW 4000 k.Ap
 r:RulW 2 k.Au
 s:Fk 2 k.Ax
 e:Fk 2 k.End
 f:Fk 2 k.Ay
 y:FR 2 k.Y
def TskR(k:Jc):Prop:=prbR k.Ap/\RulR k.Au/\(k.Y.length:Int)=k.Ap.Tape.Dim/\fv k.Ax<=fv k.End/\0<fv k.Ay
theorem Qxw{n:Nat}{k:Jc}(hn:big<=n)(a:TskW k):Qc7 n k=some (dP (TskR k)):=by
 unfold Qc7 TskR;simp only[jn_eq];rw[Qzk hn oy oy a.p,sbind,bifP];by_cases c1:prbR k.Ap
 case neg=>rw[oi c1,dP_f λh=>c1 h.1]
 rw[oj c1,Qzw hn oy oy a.r,sbind,bifP];by_cases c2:RulR k.Au
 case neg=>rw[oi c2,dP_f λh=>c2 h.2.1]
 rw[oj c2];by_cases c3:(k.Y.length:Int)=k.Ap.Tape.Dim
 case neg=>rw[ol c3,bifF,dP_f λh=>c3 h.2.2.1]
 rw[oq c3,bifT,X2 (k:=2) hn oy oy a.e a.s,sbind];by_cases c4:0<=(fv k.End - fv k.Ax).num.sign
 case neg=>rw[ol c4,bifF,dP_f λh=>c4 (sg_ge.2 h.2.2.2.1)]
 rw[oq c4,bifT,Qfg (k:=2) hn oy oy a.f,sbind];by_cases c5:0<(fv k.Ay).num.sign
 . rw[oq c5,dP_t ⟨c1,c2,c3,sg_ge.1 c4,Qzx.1 c5⟩]
 . rw[ol c5,dP_f λh=>c5 (Qzx.2 h.2.2.2.2)]
theorem Jdr{f:Qc}(h:f.Aw≠0):Qr f ⟨0,0,0,0⟩=false:=by obtain⟨a,b,c,d⟩:=f;exact Qci h
theorem Jhl{n:Nat}{k:Jc}(hn:big<=n)(A:TskW k)(_:prbR k.Ap)(hr:RulR k.Au):∀(m:Nat) (tr:List TryA) (T:Rat) (Y:List Rat) (W:Rat) (u:Nat),
 ((tr.length+m:Nat):Int)=k.Au.A1->tr.length+m<=12->m<u->qw T<=(gA tr.length).1->qw W<=(gA tr.length).2->QR 129 Y->(Y.length:Int)=k.Ap.Tape.Dim ->
 ∃ w,loopM (adBody n) u (k,tr.map toTryA,toF T,toR Y,toF W,⟨0,0,0,0⟩) =
   some (k,(adaptQ k.Ap k.Au (fv k.End) m tr T Y W).1.1.map toTryA,toF (adaptQ k.Ap k.Au (fv k.End) m tr T Y W).1.2.1,toR (adaptQ k.Ap k.Au (fv k.End) m tr T Y W).1.2.2,w,(adaptQ k.Ap k.Au (fv k.End) m tr T Y W).2):=by
 obtain⟨v1,v2,v3,v4,v5⟩:=A.r.all;have Q:qw (fv k.End)<=2:=qw_fv A.e oy
 have over:∀ {tr:List TryA}{T:Rat}{Y:List Rat}{W:Rat},qw T<=3000->X4 n k (tr.map toTryA) (toF T) (toR Y) (toF W)=some (decide (T=fv k.End)):=λF=>by unfold X4;rw[Qfh (k:=3000) hn oy oy (Vg F) (Wk A.e oy),sbind,Kg]
 intro m
 induction m with
 | zero=>
   intro tr T Y W u R H L F hW I v;obtain⟨N,O⟩:=gA_le tr.length om;refine⟨toF W,Kv ?_ om⟩;unfold adBody;simp only[jn_eq];rw[over om,sbind];unfold adaptQ;by_cases a:T=fv k.End
   . rw[oq a,oj a];rfl
   rw[ol a,oi a,xo,bifT];unfold Wq X5;rw[xa,oq om,bifT,sbind,sbind,w1 om];rw[Qci oy];rfl
 | succ m Z=>
   intro tr T Y W u R H L F hW I v;obtain⟨N,O⟩:=gA_le tr.length om;by_cases a:T=fv k.End
   . refine⟨toF W,Kv ?_ om⟩
     unfold adBody adaptQ;rw[over om,sbind,oq a,oj a];rfl
   by_cases C:underQ k.Au W
   . refine⟨toF W,Kv ?_ om⟩
     unfold adBody adaptQ;simp only[jn_eq];rw[over om,sbind,ol a,oi a,xo,bifT,dP_t C,bifT];unfold Wq X5;rw[xa,ol om,bifF,Qp5 (k:=3000) hn oy oy (Wk v5 oy) om,sbind,dP_t C,bifT,sbind,sbind,w1 om,Qci oy];rfl
   obtain⟨c1,c2⟩:=Q92 (E:=fv k.End) F Q hW;have V:=Q7m tr.length;have g:qw (cutQ T (fv k.End) W)<=3900:=om
   obtain⟨G,M⟩:=Q6z (k:=4000) (p:=k.Ap) (t:=toF T) (h:=toF (cutQ T (fv k.End) W)) (y:=toR Y) hn oy oy A.p (Vg om) (Vg om) (Qgp (Za I oy));rw[Kg,Kg,Qm0] at G M;have r:Wq n k (tr.map toTryA) (toF T) (toR Y) (toF W)=some ⟨0,0,0,0⟩:=by unfold Wq;rw[xa,ol om,bifF,Qp5 (k:=3000) hn oy oy (Wk v5 oy) om,sbind,dP_f C,bifF]
   cases hs:stepQ k.Ap T (cutQ T (fv k.End) W) Y with
   | inl f=>
     have hk:=M f hs;refine⟨toF W,Kv ?_ om⟩;unfold adBody adaptQ;simp only[jn_eq];rw[over om,sbind,ol a,oi a,xo,bifT,r,sbind,dP_f C,bifF];unfold Xc X5;rw[sbind,Qbh,Qt2 (k:=3900) hn oy oy om (Wk A.e oy) om,sbind,G,hs];simp only[jn_eq];rw[sbind,Jdr hk,xa,w1 om];simp only[ow,xo,bifT,bifF,sbind];rw[Qci hk];rfl
   | inr z=>
     obtain⟨_,_,z1,z2,z3⟩:=Q61 hs;have B:=Q2u (k:=129) (l:=z.err) oy z3;have J:=Qzy hr (j:=2) (qw_fv v3 oy) (qw_fv v4 oy) (normQ z.err);have S:=Qff c1 J;obtain⟨u,rfl⟩:∃ q,u=q+1:=⟨u - 1,om⟩
     have e:(tr++[tryA k.Au (fv k.End) T Y W z]).length=tr.length+1:=oc
     have K:adBody n (k,tr.map toTryA,toF T,toR Y,toF W,⟨0,0,0,0⟩)=some (Lp.go (k,(tr++[tryA k.Au (fv k.End) T Y W z]).map toTryA,toF (bif dP (accQ k.Au (normQ z.err)) then T+cutQ T (fv k.End) W else T),toR (bif dP (accQ k.Au (normQ z.err)) then z.next else Y),toF (cutQ T (fv k.End) W*factorQ k.Au (normQ z.err)),⟨0,0,0,0⟩)):=by
      unfold adBody;simp only[jn_eq];rw[over om,sbind,ol a,xo,bifT,r,sbind];unfold Xc X5;rw[sbind,Qbh,Qt2 (k:=3900) hn oy oy om (Wk A.e oy) om,sbind,G,hs];simp only[jn_eq];rw[sbind,Qbh];simp only[ow,bifF];rw[show(toM z).Err=toR z.err from rfl,show(toM z).Next=toR z.next from rfl,Q31 (k:=129) hn oy oy (Qgp z3),sbind,Qm0,Qwl (k:=129) hn oy oy (Wk v1 oy) B,sbind,Jk oh oh,sbind];unfold Qmc;have P:tr.map toTryA++[(⟨toF T,toF W,toF (cutQ T (fv k.End) W),toF (normQ z.err),toR Y,dP (accQ k.Au (normQ z.err))⟩:Q7)]=(tr++[tryA k.Au (fv k.End) T Y W z]).map toTryA:=by rw[xu];rfl
      rw[P,Qde (k:=3900) hn oy oy (Vg om) (Vg g),Qxv (k:=129) hn oy oy (λx X=>Wk (A.r x X) oy) hr.fine B,sbind,sbind,Qbt (k:=3900) hn oy oy (Vg g) (Vg om),Kg,Kg,Kg];cases dP (accQ k.Au (normQ z.err))
      . rfl
      . rfl
     rw[Qaw K];have U:adaptQ k.Ap k.Au (fv k.End) (m+1) tr T Y W=adaptQ k.Ap k.Au (fv k.End) m (tr++[tryA k.Au (fv k.End) T Y W z]) (bif dP (accQ k.Au (normQ z.err)) then T+cutQ T (fv k.End) W else T) (bif dP (accQ k.Au (normQ z.err)) then z.next else Y) (cutQ T (fv k.End) W*factorQ k.Au (normQ z.err)):=by
      conv=>lhs;unfold adaptQ
      rw[oi a,dP_f C,bifF,hs]
     rw[U];refine Z _ _ _ _ u (by rw[e];omega) (by rw[e];omega) om ?_ ?_ ?_ ?_
     . rw[e]
       show qw _<=(gA tr.length).1+(gA tr.length).2+1;cases dP (accQ k.Au (normQ z.err))
       . rw[bifF];omega
       . rw[bifT];omega
     . rw[e]
       show qw _<=max ((gA tr.length).1+3) (gA tr.length).2+3;omega
     . cases dP (accQ k.Au (normQ z.err))
       . exact I
       . exact z1
     . cases dP (accQ k.Au (normQ z.err))
       . exact v
       . rw[bifT,z2];exact v
theorem Qzz{n:Nat}{k:Jc}(hn:big<=n)(a:TskW k)(j:RulR k.Au->k.Au.A1<=12)(l:k.Y.length<=1000):
 Qct n k=some (@ite _ (TskR k) (Classical.propDecidable _) (⟨(adaptQ k.Ap k.Au (fv k.End) k.Au.A1.toNat [] (fv k.Ax) (rv k.Y) (fv k.Ay)).1.1.map toTryA,toF (adaptQ k.Ap k.Au (fv k.End) k.Au.A1.toNat [] (fv k.Ax) (rv k.Y) (fv k.Ay)).1.2.1,toR (adaptQ k.Ap k.Au (fv k.End) k.Au.A1.toNat [] (fv k.Ax) (rv k.Y) (fv k.Ay)).1.2.2⟩,(adaptQ k.Ap k.Au (fv k.End) k.Au.A1.toNat [] (fv k.Ax) (rv k.Y) (fv k.Ay)).2) (noH,⟨2,0,0,0⟩)):=by
 rw[Jdq,Qxw hn a,sbind,bifnP];by_cases hr:TskR k
 case neg=>rw[oi hr,oi hr];rfl
 have g:=j hr.2.1;have m:=hr.2.1.most;rw[oj hr,oj hr,Vf hn (Fk_Fw a.s oy),sbind,Qnd hn,sbind,Ql3 (k:=2) hn oy oy (Vg (by rw[Jc9];decide)) a.y om,sbind,Kg,Jg6,Vf hn (Fk_Fw a.f oy),sbind];obtain⟨w,e⟩:=Jhl hn a hr.1 hr.2.1 k.Au.A1.toNat [] (fv k.Ax) (rv k.Y) (fv k.Ay) n oh oh (by unfold big at hn;omega) (qw_fv a.s oy) (qw_fv a.f oy) (Za (QR_rv a.y oy) oy) (by rw[Xe];exact hr.2.2.1);rw[gy] at e;rw[e,sbind]
set_option maxRecDepth 100000
structure TA(K d:Nat)(x:TryA):Prop where
 t:qw x.T<=K
 w:qw x.Want<=K
 h:qw x.H<=K
 e:qw x.Err<=K
 y:QR K x.Y
 l:x.Y.length=d
theorem Q7n{p:Qq}{r:Jb}{E:Rat}{d:Nat}(hr:RulR r)(B:qw (fv r.Low)<=2)(A:qw (fv r.A3)<=2)(x:qw E<=2):∀(m:Nat) (tr:List TryA) (T:Rat) (Y:List Rat) (W:Rat),
 tr.length+m<=12->qw T<=(gA tr.length).1->qw W<=(gA tr.length).2->QR 129 Y->Y.length=d->(∀ t∈tr,TA 4000 d t) ->
 (∀ t∈(adaptQ p r E m tr T Y W).1.1,TA 4000 d t)/\qw (adaptQ p r E m tr T Y W).1.2.1<=4000/\QR 129 (adaptQ p r E m tr T Y W).1.2.2/\(adaptQ p r E m tr T Y W).1.2.2.length=d/\(adaptQ p r E m tr T Y W).1.1.length<=tr.length+m
 | 0,tr,T,Y,W,v,y,hW,q,e,g=>by obtain⟨F,G⟩:=gA_le tr.length om;unfold adaptQ;split<;>exact⟨g,by show qw T<=4000;omega,q,e,ou _⟩
 | m+1,tr,T,Y,W,v,y,hW,q,e,g=>by
   obtain⟨F,G⟩:=gA_le tr.length om;have J:=Q7m tr.length;have stay:(∀ t∈tr,TA 4000 d t)/\qw T<=4000/\QR 129 Y/\Y.length=d/\tr.length<=tr.length+(m+1):=⟨g,om,q,e,om⟩
   by_cases h:T=E
   . simp only[adaptQ,oj h];exact h ▸ stay
   simp only[adaptQ,oi h];cases dP (underQ r W)
   case true=>exact stay
   rw[bifF];obtain⟨c1,c2⟩:=Q92 (E:=E) y x hW;cases hs:stepQ p T (cutQ T E W) Y with
   | inl f=>exact stay
   | inr z=>
     obtain⟨_,_,L,z2,z3⟩:=Q61 hs;have I:=Q2u (k:=129) (l:=z.err) oy z3;have w:=Qzy hr (j:=2) B A (normQ z.err);have H:=Qff c1 w;have a:(tr++[tryA r E T Y W z]).length=tr.length+1:=oc
     have C:=Q7n (p:=p) (E:=E) (d:=d) hr B A x m (tr++[tryA r E T Y W z]) (bif dP (accQ r (normQ z.err)) then T+cutQ T E W else T) (bif dP (accQ r (normQ z.err)) then z.next else Y) (cutQ T E W*factorQ r (normQ z.err)) (by rw[a];omega) (by
      rw[a];show qw _<=(gA tr.length).1+(gA tr.length).2+1;cases dP (accQ r (normQ z.err))
      . rw[bifF];omega
      . rw[bifT];omega) (by
      rw[a];show qw _<=max ((gA tr.length).1+3) (gA tr.length).2+3;omega) (by
      cases dP (accQ r (normQ z.err))
      . exact q
      . exact L) (by
      cases dP (accQ r (normQ z.err))
      . exact e
      . rw[bifT,z2];exact e) (λt u=>by
      rcases xk.1 u with u | u
      . exact g t u
      . rw[xq.1 u]
        exact⟨by show qw T<=_;omega,by show qw W<=_;omega,by show qw (cutQ T E W)<=_;omega,by show qw (normQ z.err)<=_;omega,show QR 4000 Y from Za q oy,e⟩)
     rw[a] at C;obtain⟨K,i2,i3,i4,i5⟩:=C;exact⟨K,i2,i3,i4,xn i5 om⟩
def mA(tr:List TryA)(T:Rat)(Y:List Rat):Jf:=⟨tr.map toTryA,toF T,toR Y⟩
theorem Q80(t:TryA):Xw (toTryA t)=some (toR [t.T,t.Want,t.H,t.Err]):=rfl
theorem Jfr{k m:Nat}{t:TryA}(h:TA k m t):QR k [t.T,t.Want,t.H,t.Err]:=λq a=>by rcases xc.1 a with rfl | a;exact h.t;rcases xc.1 a with rfl | a;exact h.w;rcases xc.1 a with rfl | a;exact h.h;rw[xq.1 a];exact h.e
theorem getTA{tr:List TryA}{i:Nat}{x:Q7}(h:(tr.map toTryA)[i]?=some x):∃ t,tr[i]?=some t/\x=toTryA t:=by
 rw[uo] at h;cases a:tr[i]? with
 | none=>rw[a] at h;cases h
 | some t=>rw[a] at h;cases h;exact⟨t,rfl,rfl⟩
theorem Q1t{n K m:Nat}{tr:List TryA}{T:Rat}{Y:List Rat}(hn:big<=n)(w:K<274877906944)(e:1<=K)(r:∀ t∈tr,TA K m t)(g:qw T<=K)(p:QR K Y):Qgz n (mA tr T Y) (mA tr T Y)=some true:=by
 unfold Qgz Qme;simp only[jn_eq]
 have rowS:∀ {l:List Rat},QR K l->Qa0 n (toR l) (toR l)=some true:=λh=>by rw[Q30 (k:=K) hn e om (Qgp h) (Qgp h)];simp
 rw[oq trivial,ow,bifF];show((Xm n (toF T) (toF T)).bind λv=>bif !v then _ else (Qa0 n (toR Y) (toR Y)).bind λu=>_)=_;rw[Qfh (k:=K) hn e om (Vg g) (Vg g),oq rfl,sbind,ow,bifF,rowS p,sbind,ow,bifF];rw[Jda];intro i x j;obtain⟨t,q,rfl⟩:=getTA j;have a:=r t (Q3 q);rw[Wc j,sbind,beq_self_eq_true,bifT,Q80,sbind,sbind,rowS (Jfr a),sbind,bifT,show(toTryA t).Y=toR t.Y from rfl,rowS a.y];rfl
def tR(r:Vs):Jb:=⟨tF r.Tol,tF r.A4,tF r.Low,tF r.A3,tF r.A0,r.Fine,r.A1⟩
def tK(k:Kd):Jc:=⟨tP k.Ap,tR k.Au,tF k.Ax,tF k.End,tF k.Ay,k.Y.map tF⟩
def F2(f:Qp):Prop:=f.N.length<=2/\f.D.length<=2
structure TskL(k:Kd):Prop where
 p:(k.Ap.Tape.Code.length<=10/\k.Ap.Tape.Ar.length<=10/\∀ c∈k.Ap.Tape.Code,c.N.N.length<=2/\c.N.D.length<=2)/\(k.Ap.Ao.As.length<=50/\k.Ap.Ao.A.length<=4/\FL 4 4 k.Ap.Ao.B/\FL 4 4 k.Ap.Ao.C/\FL 4 4 k.Ap.Ao.E/\∀ r∈k.Ap.Ao.A,FL 4 4 r)/\FL 6 2 k.Ap.P
 r:F2 k.Au.Tol/\F2 k.Au.A4/\F2 k.Au.Low/\F2 k.Au.A3/\F2 k.Au.A0
 m:k.Au.A1<=12\/200<k.Au.A1
 s:F2 k.Ax
 e:F2 k.End
 f:F2 k.Ay
 y:FL 4 2 k.Y
theorem Qz0{r:Vs}:∃ v,Zg r 2=some v/\(v=false->F2 r.Tol/\F2 r.A4/\F2 r.Low/\F2 r.A3/\F2 r.A0):=by
 unfold Zg;simp only[jn_eq];have e:∀ g:Qp,Jd g 2=some (!decide (g.N.length<=2/\g.D.length<=2)):=λg=>Qhc g 2;simp only[e,sbind];by_cases a:r.Tol.N.length<=2/\r.Tol.D.length<=2
 case neg=>rw[ol a];exact⟨true,rfl,λh=>by cases h⟩
 by_cases j:r.A4.N.length<=2/\r.A4.D.length<=2
 case neg=>rw[oq a,ol j];exact⟨true,rfl,λh=>by cases h⟩
 by_cases k:r.Low.N.length<=2/\r.Low.D.length<=2
 case neg=>rw[oq a,oq j,ol k];exact⟨true,rfl,λh=>by cases h⟩
 by_cases l:r.A3.N.length<=2/\r.A3.D.length<=2
 case neg=>rw[oq a,oq j,oq k,ol l];exact⟨true,rfl,λh=>by cases h⟩
 by_cases m:r.A0.N.length<=2/\r.A0.D.length<=2
 case neg=>rw[oq a,oq j,oq k,oq l,ol m];exact⟨true,rfl,λh=>by cases h⟩
 rw[oq a,oq j,oq k,oq l,oq m];exact⟨false,rfl,λ_=>⟨a,j,k,l,m⟩⟩
theorem Qz1{n:Nat}{k:Kd}(hn:big<=n):∃ v,Zh n k=some v/\(v=false->TskL k):=by
 unfold Zh;simp only[jn_eq];have e:∀ g:Qp,Jd g 2=some (!decide (g.N.length<=2/\g.D.length<=2)):=λg=>Qhc g 2;obtain⟨v,t,y⟩:=Qzb (p:=k.Ap) (a:=10) (b:=4) (k:=2) hn oy oy;rw[show((10:Nat):Int)=10 from rfl,show((4:Nat):Int)=4 from rfl,show((2:Nat):Int)=2 from rfl] at t;obtain⟨w,A,B⟩:=Qz0 (r:=k.Au);obtain⟨u,x,C⟩:=Qbn (l:=k.Y) (many:=4) (k:=2) hn oy;rw[show((4:Nat):Int)=4 from rfl,show((2:Nat):Int)=2 from rfl] at x;simp only[t,A,x,e,sbind];cases v
 case true=>exact⟨true,rfl,λh=>by cases h⟩
 rw[bifF];by_cases c1:(300:Int)<k.Ap.Az
 . rw[oq c1];exact⟨true,rfl,λh=>by cases h⟩
 rw[ol c1,bifF];cases w
 case true=>exact⟨true,rfl,λh=>by cases h⟩
 rw[bifF]
 have fin:(k.Au.A1<=12\/200<k.Au.A1)->∃ v,(bif !decide (k.Ax.N.length<=2/\k.Ax.D.length<=2) then some true else bif !decide (k.End.N.length<=2/\k.End.D.length<=2) then some true else bif !decide (k.Ay.N.length<=2/\k.Ay.D.length<=2) then some true else some u)=some v/\(v=false->TskL k):=λF=>by
  by_cases j:k.Ax.N.length<=2/\k.Ax.D.length<=2
  case neg=>rw[ol j];exact⟨true,rfl,λh=>by cases h⟩
  by_cases m:k.End.N.length<=2/\k.End.D.length<=2
  case neg=>rw[oq j,ol m];exact⟨true,rfl,λh=>by cases h⟩
  by_cases q:k.Ay.N.length<=2/\k.Ay.D.length<=2
  case neg=>rw[oq j,oq m,ol q];exact⟨true,rfl,λh=>by cases h⟩
  rw[oq j,oq m,oq q];exact⟨u,rfl,λh=>⟨y rfl,B rfl,F,j,m,q,C h⟩⟩
 by_cases c2:(12:Int)<k.Au.A1
 . rw[oq c2,bifT]
   by_cases c3:k.Au.A1<=200
   . rw[oq c3];exact⟨true,rfl,λh=>by cases h⟩
   rw[ol c3,bifF];exact fin (.inr om)
 . rw[ol c2,bifF]
   exact fin (.inl om)
theorem Jhm{k:Kd}(q:Qd1 k)(h:TskL k):TskW (tK k):=by obtain⟨e,g,j,l,m,p,_⟩:=q;obtain⟨y,A,B,C,F,_⟩:=g;obtain⟨r,t,u,v,w⟩:=h.r;refine⟨(Jg7 (bits:=k.Ap.Az) e oy h.p).mono oy,λx a=>?_,Fk_tF j h.s,Fk_tF l h.e,Fk_tF m h.f,FR_tF p h.y⟩;rcases xc.1 a with rfl | a;exact Fk_tF y r;rcases xc.1 a with rfl | a;exact Fk_tF A t;rcases xc.1 a with rfl | a;exact Fk_tF B u;rcases xc.1 a with rfl | a;exact Fk_tF C v;rw[xq.1 a];exact Fk_tF F w
theorem Q39{n:Nat}{k:Kd}(hn:big<=n)(h:TskL k):Qaa n k=some (tK k):=by obtain⟨⟨p,t2,t3⟩,⟨s1,m,e,g,j,l⟩,a⟩:=h.p;have q:=h.y.1;unfold Qaa Qb4 J6;rw[Q34 hn om om om (by have:=e.1;omega) (by have:=g.1;omega) (by have:=j.1;omega) (λr hr=>by have:=(l r hr).1;omega) (by have:=a.1;omega),sbind];simp only[sbind];rw[Qdf hn om,sbind];rfl
theorem Qmk{p:Kf}{k:Int}(h:p.text.length<=1000000000):Ky p k=some (inB p.text p.rank k):=by unfold Ky inB;rw[bifd];by_cases hk:p.rank<k;rw[oj hk,oj hk,W3 oh,sbind,W3 oh,sbind];rw[oi hk,oi hk]
theorem Q1u{n:Nat}{x:Qd}{Nm:List (List UInt8)}(hn:big<=n)(h0:ar x.Op=0)(h:nodeOk x 6 6 (Nm.length:Int)=true)(j:NB x):Qgx n x Nm=some (lfS Nm x):=by
 unfold Qgx lfS;simp only[bifd];rcases lf_ok h0 h with ⟨e,_,_,h⟩ | ⟨e,_⟩ | ⟨e,a,g,_⟩ | ⟨e,a,g,_⟩ | ⟨e,a,g,_⟩;rw[oj e,oj e,Qc0 hn (by have:=j.1;omega) j.2,sbind];simp only[e];rfl;have:=Qb9 (x:=x.I) om om;rw[oi om,oj e,oi om,oj e];unfold Zy;rw[sbind,W3 oh,sbind,W3 oh,sbind];have:=Qb9 (x:=x.I) om om;rw[oi om,oi om,oj e,oi om,oi om,oj e];unfold Zy;rw[sbind,W3 oh,sbind,W3 oh,sbind];rw[oi om,oi om,oi om,oj e,oi om,oi om,oi om,oj e];have k:x.I.toNat<Nm.length:=om
 rw[show x.I=(x.I.toNat:Int) by omega,Qav k,sbind,ue,yz,ot k];rfl
theorem Q1v{op:Int}:Qgy op=some ([32]++sgS op++[32]):=by
 unfold Qgy sgS;simp only[bifd]
 (repeat' split)<;>rfl
def pcE(Nm:List (List UInt8))(e:Ex):Kf:=⟨wrS Nm e,rkI (rtE e).Op⟩
def shB(n:Nat)(Nm:List (List UInt8))(_:Nat)(x168:Qd)(s166:List Kf):Option (Lp (List Kf) (List UInt8)):=
    (Qgw x168.Op).bind λr170=>
    jn (λ(j206:(Int×(List UInt8))->Option _)=>
     (X1 x168.Op).bind λr209=>
     bif decide (r209=(0:Int)) then (
      (Qgx n x168 Nm).bind λr211=>
      j206 ((s166.length:Int),r211))
     else (
      bif decide (r209=(1:Int)) then (
       bif decide (x168.Op=(6:Int)) then (
        (getI s166 (wrap64 ((s166.length:Int) - (1:Int)))).bind λy213=>
        (Ky y213 (3:Int)).bind λr215=>
        (catS ([45]:List UInt8) r215).bind λy217=>
        j206 (wrap64 ((s166.length:Int) - (1:Int)),y217))
       else (
        (getI s166 (wrap64 ((s166.length:Int) - (1:Int)))).bind λy219=>
        (Ky y219 (5:Int)).bind λr221=>
        (catS r221 ([94]:List UInt8)).bind λy223=>
        (Zy x168.I).bind λr225=>
        (catS y223 r225).bind λy227=>
        j206 (wrap64 ((s166.length:Int) - (1:Int)),y227)))
      else (
       (getI s166 (wrap64 ((s166.length:Int) - (2:Int)))).bind λy229=>
       (Ky y229 r170).bind λr231=>
       (Qgy x168.Op).bind λr233=>
       (catS r231 r233).bind λy235=>
       (getI s166 (wrap64 ((wrap64 ((s166.length:Int) - (2:Int)))+(1:Int)))).bind λy237=>
       (Ky y237 (wrap64 (r170+(1:Int)))).bind λr239=>
       (catS y235 r239).bind λy241=>
       j206 (wrap64 ((s166.length:Int) - (2:Int)),y241)))) (λ(s208:Int×(List UInt8))=>
     (sub s166 (0:Int) s208.1).bind λy243=>
     (appM 24 y243 ([(⟨s208.2,r170⟩:Kf)]:List Kf)).bind λy245=>
     some (Lp.go y245))
section
variable {n:Nat}{Nm:List (List UInt8)}(hn:big<=n) (hN:∀ s∈Nm,s.length<=100)
theorem Jhn{S:List Kf}{a:Kf}:getI (S++[a]) (S.length:Int)=some a:=Wc oc
include hn
theorem Jfs{i:Nat}{x:Qd}{S:List Kf}(hS:S.length<=1000000)(h0:ar x.Op=0)(h:nodeOk x 6 6 (Nm.length:Int)=true)(a:NB x):
 shB n Nm i x S=some (Lp.go (S++[pcE Nm (.lf x)])):=by
 unfold shB;rw[Ql7,sbind,jn_eq,Y6,sbind,h0,oq rfl,bifT,Q1u hn h0 h a,sbind];simp only[];rw[Qfx (ou _),sbind,yn,Jk oh oh,sbind];rfl
omit hn in
theorem Jj8{i:Nat}{x:Qd}{S:List Kf}{a:Ex}(hS:S.length<=1000000)(h:okE (Nm.length:Int) (.un x a))(q:(wrS Nm a).length<=1000000):
 shB n Nm i x (S++[pcE Nm a])=some (Lp.go (S++[pcE Nm (.un x a)])):=by
 obtain⟨j,p,m,_⟩:=Qo3 h;unfold shB;have g:(((S++[pcE Nm a]).length:Nat):Int)=(S.length:Int)+1:=oc
 have i3:=Qdh (wrS Nm a) (rkI (rtE a).Op) 3;have i5:=Qdh (wrS Nm a) (rkI (rtE a).Op) 5;rw[Ql7,sbind,jn_eq,Y6,sbind,j,ol oy,bifF,oq rfl,bifT,g,show(S.length:Int)+1 - 1=(S.length:Int) by omega,w64 om om,Jhn,bifd];rcases un_ok j m with ⟨e,_⟩ | ⟨e,k,l,_⟩;rw[oj e,sbind,Qmk (by show(wrS Nm a).length<=_;omega),sbind,W3 (by simp[pcE];omega),sbind];simp only[];rw[Qfx oc,sbind,List.take_left,Jk oh oh,sbind];unfold pcE;simp only[wrS,rtE,oj e];have:=Qb9 k l;rw[oi om,sbind,Qmk (by show(wrS Nm a).length<=_;omega),sbind,W3 (by simp[pcE];omega),sbind];unfold Zy;rw[sbind,W3 (by simp[pcE];omega),sbind];simp only[];rw[Qfx oc,sbind,List.take_left,Jk oh oh,sbind];unfold pcE;simp only[wrS,rtE,oi (show ¬ x.Op=6 by omega)]
omit hn in
theorem Jj9{i:Nat}{x:Qd}{S:List Kf}{a b:Ex}(hS:S.length<=1000000)(h:okE (Nm.length:Int) (.bi x a b))(p:(wrS Nm a).length<=1000000)(hr:(wrS Nm b).length<=1000000):
 shB n Nm i x (S++[pcE Nm a]++[pcE Nm b])=some (Lp.go (S++[pcE Nm (.bi x a b)])):=by
 obtain⟨j,l,m,_⟩:=Qo4 h;unfold shB;have e:(((S++[pcE Nm a]++[pcE Nm b]).length:Nat):Int)=(S.length:Int)+2:=oc
 have i3:=Qdh (wrS Nm a) (rkI (rtE a).Op) (rkI x.Op);have i5:=Qdh (wrS Nm b) (rkI (rtE b).Op) (rkI x.Op+1);have hs:=Q1m x.Op;have k:=Q7d x.Op;have g1:getI (S++[pcE Nm a]++[pcE Nm b]) (S.length:Int)=some (pcE Nm a):=Wc oc;have g:getI (S++[pcE Nm a]++[pcE Nm b]) ((S.length:Int)+1)=some (pcE Nm b):=by rw[show(S.length:Int)+1=((S.length+1:Nat):Int) by omega];exact Wc oc
 rw[Ql7,sbind,jn_eq,Y6,sbind,j,ol oy,bifF,ol oy,bifF,e,show(S.length:Int)+2 - 2=(S.length:Int) by omega,w64 (x:=(S.length:Int)) om om,g1,sbind,
  Qmk (by show(wrS Nm a).length<=_;omega),sbind,Q1v,sbind,W3 (by simp[pcE];omega),sbind,w64 om om,g,sbind,w64 om om,Qmk (by show(wrS Nm b).length<=_;omega),sbind,W3 (by simp[pcE];omega),sbind]
 simp only[];rw[Qfx oc,sbind,xx,List.take_left,Jk oh oh,sbind];rfl
include hn hN
theorem Qv5:∀(e:Ex),okE (Nm.length:Int) e->(fl e).length<=5000->∀(ys:List Qd) (i:Nat) (S:List Kf),S.length+(fl e).length<=1000000 ->
 ∃ j,rangeL (shB n Nm) (fl e++ys) i S=rangeL (shB n Nm) ys j (S++[pcE Nm e])
 | .lf x,h,_,ys,i,S,hS=>⟨i+1,by
  have q:=h.1;unfold wf at q;obtain⟨l,t⟩:=h.2 x (by simp[fl]);simp only[fl,xd,xf,rangeL]
  rw[Jfs hn om q l t];rfl⟩
 | .un x a,h,p,ys,i,S,hS=>by obtain⟨r,g,l,_⟩:=Qo3 h;simp only[fl,ov,oo,xz] at p hS;obtain⟨j,m⟩:=Qv5 a g om ([x]++ys) i S om;have:=Qkj hN a g;refine⟨j+1,?_⟩;simp only[fl,xx];rw[m];simp only[xd,xf,rangeL];rw[Jj8 om h om];rfl
 | .bi x a b,h,p,ys,i,S,hS=>by obtain⟨r,g,l,_⟩:=Qo4 h;simp only[fl,ov,oo,xz] at p hS;obtain⟨j,m⟩:=Qv5 a g om (fl b++([x]++ys)) i S om;have pa:=Jdm a;obtain⟨k,hk⟩:=Qv5 b l om ([x]++ys) j (S++[pcE Nm a]) oh;have:=Qkj hN a g;have:=Qkj hN b l;refine⟨k+1,?_⟩;simp only[fl,xx];rw[m,hk];simp only[xd,xf,rangeL];rw[Jj9 om h om om];rfl
theorem Qp6{e:Ex}(h:okE (Nm.length:Int) e)(g:(fl e).length<=5000):Qh2 n (fl e) Nm=some (wrS Nm e):=by show(rangeL (shB n Nm) (fl e) 0 ([]:List Kf)).bind (lpK λ(s247:(List Kf))=>(getI s247 (0:Int)).bind λy248=>some y248.text)=_;obtain⟨j,a⟩:=Qv5 hn hN e h g [] 0 [] oh;rw[yv] at a;rw[a];rfl
end
def bigS:Nat:=18446744073709553616
noncomputable def tr(c:List Qd):Ex:=if h:wrongT c<0 then Classical.choose (Q90 h) else .lf ⟨0,0,[]⟩
theorem tr_wf{c:List Qd}(h:wrongT c<0):wf (tr c)/\fl (tr c)=c:=by unfold tr;rw[dif_pos h];exact Classical.choose_spec (Q90 h)
theorem Q20(s:List UInt8):∀(xs:List (List UInt8)) (x:List UInt8),Lib.join (xs++[x]) s=if xs=[] then x else Lib.join xs s++s++x
 | [],x=>by simp[Lib.join,List.intercalate,List.intersperse]
 | [y],x=>by simp[Lib.join,List.intercalate,List.intersperse]
 | y::z::r,x=>by
   have a:=Q20 s (z::r) x;rw[oi oc] at a |-;have e:∀(u v:List UInt8) (q:List (List UInt8)),Lib.join (u::v::q) s=u++s++Lib.join (v::q) s:=λu v q=>by simp[Lib.join,List.intercalate,List.intersperse]
   rw[xd,xd,e,e,<-xd,a];simp
def nmS(L:List Qy)(i:Nat):List (List UInt8):=(L.take i).map (·.As)
noncomputable def lineS(Nm:List (List UInt8))(l:Qy):List UInt8:=[108,101,116,32]++l.As++[32,61,32]++wrS Nm (tr l.Code)++[59,10]
noncomputable def ltS(L:List Qy):Nat->List UInt8
 | 0=>[]
 | i+1=>ltS L i++(match L[i]? with | some l=>lineS (nmS L i) l | none=>[])
noncomputable def osS(Nm:List (List UInt8))(O:List (List Qd)):List (List UInt8):=O.map λc=>wrS Nm (tr c)
noncomputable def fieldT(f:Qt):List UInt8:=ltS f.Aq f.Aq.length++([91]++Lib.join (osS (f.Aq.map (·.As)) f.Ar) [44,32]++[93])
def Sml(f:Qt):Prop:=f.Aq.length<=12/\f.Ar.length<=12/\(∀ l∈f.Aq,l.As.length<=100)/\∀ c∈codesT f,c.length<=1500/\∀ x∈c,NB x
theorem Q93{L:List Qy}{i:Nat}(h:i<=L.length):(nmS L i).length=i:=by unfold nmS;simp;omega
theorem Qxx{L:List Qy}{i:Nat}{l}(h:L[i]?=some l):nmS L (i+1)=nmS L i++[l.As]:=by
 unfold nmS;have hi:=Jg h;rw[J1 hi];have:L[i]=l:=by rw[ot hi] at h;exact Option.some.inj h
 rw[this];simp
theorem Qv6(L:List Qy):nmS L L.length=L.map (·.As):=by unfold nmS;rw[yn]
theorem Jds{c:List Qd}{k d l:Int}(m:∀ x∈c,NB x)(hd:d<=6)(h:partT c k d 6 l=f0):okE l (tr c)/\fl (tr c)=c/\dep (tr c)<=40:=by rw[Qs5,Qs6] at h;obtain⟨j,e⟩:=tr_wf h.1.1;have a:=Jfm j;rw[e] at a;exact⟨⟨j,λx g=>by rw[e] at g;exact⟨Qqy hd (gr _) (h.1.2 x g),m x g⟩⟩,e,by rw[<-a];exact h.2⟩
section
variable {f:Qt}(hS:Sml f) (hf:checkT f (f.Ar.length:Int) 6=f0)
include hS hf
theorem Qo5{i:Nat}{l:Qy}(g:f.Aq[i]?=some l):okE ((nmS f.Aq i).length:Int) (tr l.Code)/\fl (tr l.Code)=l.Code/\dep (tr l.Code)<=40/\nameOk l.As=true/\twiceT f.Aq i=false/\(fl (tr l.Code)).length<=1500:=by obtain⟨e,m,q⟩:=Qa7.1 hf;obtain⟨g1,k,g3⟩:=m i l g;have p:l.Code∈codesT f:=uy _ (uj (Q3 g));have j:=hS.2.2.2 _ p;unfold wholeT at e;simp only[xv] at e;obtain⟨a,b,c⟩:=Jds j.2 e.2.1 g3;rw[Q93 (Nat.le_of_lt (Jg g))];exact⟨a,b,c,g1,k,by rw[b];exact j.1⟩
theorem Qta{i:Nat}{c:List Qd}(j:f.Ar[i]?=some c):okE ((f.Aq.map (·.As)).length:Int) (tr c)/\fl (tr c)=c/\dep (tr c)<=40/\(fl (tr c)).length<=1500:=by obtain⟨e,m,k⟩:=Qa7.1 hf;have g3:=k i c j;have l:c∈codesT f:=yt _ (Q3 j);have g:=hS.2.2.2 _ l;unfold wholeT at e;simp only[xv] at e;obtain⟨a,b,d⟩:=Jds g.2 e.2.1 g3;rw[xa];exact⟨a,b,d,by rw[b];exact g.1⟩
omit hf in
theorem Qtb{i:Nat}:∀ s∈nmS f.Aq i,s.length<=100:=by intro s hs;obtain⟨l,a,rfl⟩:=xy.1 hs;exact hS.2.2.1 l (xt a)
theorem Q7o{i:Nat}{l:Qy}(e:f.Aq[i]?=some l):(wrS (nmS f.Aq i) (tr l.Code)).length<=200000/\(lineS (nmS f.Aq i) l).length<=201000:=by obtain⟨a,_,_,_,_,b⟩:=Qo5 hS hf e;have:=Qkj (Qtb hS) _ a;have:=hS.2.2.1 l (Q3 e);refine⟨om,?_⟩;unfold lineS;simp;omega
theorem Q1w:∀ i,i<=f.Aq.length->(ltS f.Aq i).length<=201000*i
 | 0,_=>by simp[ltS]
 | i+1,h=>by have e:=Q1w i om;have a:f.Aq[i]?=some f.Aq[i]:=ot om;have:=(Q7o hS hf a).2;unfold ltS;rw[a,ov];simp only[];omega
theorem Jho{i:Nat}{c:List Qd}(e:f.Ar[i]?=some c):(wrS (f.Aq.map (·.As)) (tr c)).length<=200000:=by obtain⟨a,_,_,b⟩:=Qta hS hf e;have:=Qkj (by rw[<-Qv6];exact Qtb hS) _ a;omega
theorem Jdt:∀ i,i<=f.Ar.length->(Lib.join (osS (f.Aq.map (·.As)) (f.Ar.take i)) [44,32]).length<=201000*i
 | 0,_=>by simp[osS,Lib.join,List.intercalate]
 | i+1,h=>by have e:=Jdt i om;have a:f.Ar[i]?=some f.Ar[i]:=ot om;have:=Jho hS hf a;rw[J1 om];unfold osS at e |-;rw[xu,xw,gy,Q20];split;omega;rw[ov,ov,oo,oo,xz];omega
theorem Qp7{n:Nat}(hn:big<=n)(q:FB f):Qbd n f=some (fieldT f,true):=by
 obtain⟨s1,j,e,k⟩:=hS;unfold Qbd;rw[Qj8 hn q (λl g=>by have:=e l g;omega),sbind,hf,show Qr f0 ⟨0,0,0,0⟩=true from(Qit _ _).2 rfl,ow,bifF];have y:=Q1w ⟨s1,j,e,k⟩ hf f.Aq.length (ou _);rw[Y5 (s:=([],[])) (λi=>(ltS f.Aq i,nmS f.Aq i)) f.Aq (λi l g=>?_) rfl,K7];have r:=Jdt ⟨s1,j,e,k⟩ hf f.Ar.length (ou _);rw[yn] at r;simp only[Qv6];rw[Y5 (s:=[]) (λi=>osS (f.Aq.map (·.As)) (f.Ar.take i)) f.Ar (λi c p=>?_) rfl,K7];rw[yn];unfold Yo;rw[oj ⟨by unfold osS;simp;omega,om⟩,sbind,W3 oh,sbind,W3 oh,sbind,Jk oh oh,sbind];rfl;obtain⟨a,b,_,d⟩:=Qta ⟨s1,j,e,k⟩ hf p;have hi:=Jg p;have m:=Qp6 hn (by rw[<-Qv6];exact Qtb ⟨s1,j,e,k⟩) a om;rw[b] at m;rw[m,sbind,Jk (by unfold osS;simp;omega) (by unfold osS;simp;omega),sbind,J1 hi];have:f.Ar[i]=c:=by rw[ot hi] at p;exact Option.some.inj p
 rw[this];unfold osS;rw[xu];rfl;obtain⟨a,b,_,_,_,d⟩:=Qo5 ⟨s1,j,e,k⟩ hf g;have hi:=Jg g;have m:=Qp6 hn (Qtb ⟨s1,j,e,k⟩ (i:=i)) a om;rw[b] at m;have t:=Q1w ⟨s1,j,e,k⟩ hf i om;obtain⟨u,v⟩:=Q7o ⟨s1,j,e,k⟩ hf g;have w:=e l (Q3 g);have x:(nmS f.Aq i).length=i:=Q93 om;simp only[];rw[W3 oh,sbind,W3 oh,sbind,m,sbind,W3 oh,sbind,W3 oh,sbind,Jk oh oh,sbind,Jk oh oh,sbind];simp only[ltS,g,Qxx g];rfl
end
def skN:List UInt8->Nat
 | []=>0
 | c::r=>if blkB c.toNat then 1+skN r else if c.toNat=35 then 1+(r.takeWhile (λb=>b.toNat≠10)).length+skN (r.dropWhile (λb=>b.toNat≠10)) else 0
termination_by s=>s.length
decreasing_by
 all_goals simp only[oo]
 . omega
 . have:=Qfj (λb:UInt8=>decide (b.toNat≠10)) r;omega
theorem Qtc(c:UInt8)(r:List UInt8):skN (c::r)=if blkB c.toNat then 1+skN r else if c.toNat=35 then 1+(r.takeWhile (λb=>b.toNat≠10)).length+skN (r.dropWhile (λb=>b.toNat≠10)) else 0:=by rw[skN]
theorem Qrw:skN []=0:=by rw[skN]
theorem Qv7{α:Type}(p:α->Bool):∀(l:List α),l.drop (l.takeWhile p).length=l.dropWhile p
 | []=>rfl
 | x::l=>by
   rw[yf,ww];cases p x with
   | true=>simp[Qv7 p l]
   | false=>rfl
theorem Q21{α:Type}(p:α->Bool)(l:List α):(l.takeWhile p).length+(l.dropWhile p).length=l.length:=by rw[<-ov,List.takeWhile_append_dropWhile]
theorem Q7p:∀(m:Nat) (s:List UInt8),s.length<=m->skN s<=s.length
 | _,[],_=>by rw[Qrw];exact xl _
 | 0,_::_,h=>by simp at h
 | m+1,c::r,h=>by rw[Qtc];simp only[oo] at h |-;split;have:=Q7p m r om;omega;split;have a:=Q21 (λb:UInt8=>decide (b.toNat≠10)) r;have:=Q7p m (r.dropWhile (λb=>b.toNat≠10)) om;omega;omega
theorem Q1x:∀(m:Nat) (s:List UInt8),s.length<=m->∀ c r,s.drop (skN s)=c::r->blkB c.toNat=false/\c.toNat≠35
 | _,[],_=>by intro c r h;simp at h
 | 0,_::_,h=>by simp at h
 | m+1,x::s,h=>by intro c r hd;rw[Qtc] at hd;simp only[oo] at h;by_cases a:blkB x.toNat=true;rw[oj a,Nat.add_comm,uv] at hd;exact Q1x m s om c r hd;rw[oi a] at hd;by_cases e:x.toNat=35;rw[oj e,show 1+(s.takeWhile (λb=>decide (b.toNat≠10))).length+skN (s.dropWhile (λb=>decide (b.toNat≠10)))=((s.takeWhile (λb=>decide (b.toNat≠10))).length+skN (s.dropWhile (λb=>decide (b.toNat≠10))))+1 by omega,uv,<-vt,Qv7] at hd;exact Q1x m _ (by have:=Qfj (λb:UInt8=>decide (b.toNat≠10)) s;omega) c r hd;rw[oi e] at hd;simp only[vv] at hd;cases hd;exact⟨by simpa using a,e⟩
theorem Qtd:∀(m:Nat) (s:List UInt8) (i:Nat),s.length<=m->scanS s i=scanS (s.drop (skN s)) (i+skN s)
 | _,[],i,_=>by rw[Qrw];rfl
 | 0,_::_,_,h=>by simp at h
 | m+1,c::s,i,h=>by simp only[oo] at h;rw[Qtc];by_cases a:blkB c.toNat=true;rw[oj a,Qis,oj a,Qtd m s (i+1) om,show 1+skN s=skN s+1 by omega,uv];congr 1;omega;rw[oi a];by_cases e:c.toNat=35;rw[oj e,Qis,oi a,oj e,Qtd m _ _ (by have:=Qfj (λb:UInt8=>decide (b.toNat≠10)) s;omega)];rw[show 1+(s.takeWhile (λb=>decide (b.toNat≠10))).length+skN (s.dropWhile (λb=>decide (b.toNat≠10)))=((s.takeWhile (λb=>decide (b.toNat≠10))).length+skN (s.dropWhile (λb=>decide (b.toNat≠10))))+1 by omega,uv,<-vt,Qv7];congr 1;omega;rw[oi e];rfl
theorem Qt3{n:Nat}{s:List UInt8}(hn:big<=n)(hs:s.length<=4000){i:Nat}(hi:i<=s.length):Qb5 n s (i:Int)=some ((i+skN (s.drop i):Nat):Int):=by
 unfold Qb5;unfold big at hn
 have key:∀(m i k:Nat),(s.drop i).length<=m->i<=s.length->m<k->(loopM (λ(g:Int)=>
  bif decide (g<(s.length:Int)) then (
   (getS s g).bind λa=>
   jn (λ(l:(Bool)->Option (Lp Int (Lp Int Int)))=>
    bif decide (a=32) then (
     l (decide (a=32)))
    else (
     bif decide (a=9) then (
      l (decide (a=9)))
     else (
      bif decide (a=10) then (
       l (decide (a=10)))
      else (
       l (decide (a=13)))))) (λ(A:Bool)=>
    bif A then (
     some (Lp.go (wrap64 (g+(1:Int)))))
    else (
     bif decide (a=35) then (
      (sub s g (s.length:Int)).bind λB=>
      (Ym B ([10]:List UInt8)).bind λy=>
      some (Lp.go (wrap64 (g+(y.1.length:Int)))))
     else (
      some (Lp.out (Lp.out (g)))))))
  else (
   some (Lp.out (Lp.go g)))) k (i:Int)).bind (lpK λ(t21:Int)=>some t21)=some ((i+skN (s.drop i):Nat):Int):=by
  intro m
  induction m with
  | zero=>
    intro i k w hi hk;have p:i=s.length:=by simp at w;omega
    subst p;rw[Kv (t:=Lp.go (s.length:Int)) (by simp only[bifd];rw[oi om]) hk,sbind,K7];simp[Qrw]
  | succ m C=>
    intro i k w hi hk;obtain⟨k,rfl⟩:∃ I,k=I+1:=⟨k - 1,om⟩
    by_cases v:i<s.length;have hd:s.drop i=s[i]::s.drop (i+1):=xi v;rw[hd,Qtc];have x:(s.drop (i+1)).length<=m:=by simp at w |-;omega
    by_cases u:blkB (s[i]).toNat=true;rw[oj u,Qaw (s':=((i+1:Nat):Int)),C (i+1) k x om om];congr 2;omega;simp only[bifd,jn_eq];rw[oj om,Qfw v,sbind];have F:(s[i]).toNat=32\/(s[i]).toNat=9\/(s[i]).toNat=10\/(s[i]).toNat=13:=by simpa [blkB] using u
    rw[w1 om];grind;rw[oi u];have F:¬((s[i]).toNat=32\/(s[i]).toNat=9\/(s[i]).toNat=10\/(s[i]).toNat=13):=by simpa [blkB] using u
    by_cases q:(s[i]).toNat=35;rw[oj q];have r:Ym (s.drop i) [10]=some (cutC 10 (s.drop i)):=by show(if (s.drop i).length<4294967281 then some (cutC (UInt8.toNat 10) (s.drop i)) else none)=_;rw[oj oh];rfl
    have j:(cutC 10 (s.drop i)).1.length=1+((s.drop (i+1)).takeWhile (λb=>decide (b.toNat≠10))).length:=by rw[hd];unfold cutC ntc;simp only[yf,q];simp;omega
    have H:=Q21 (λb:UInt8=>decide (b.toNat≠10)) (s.drop (i+1));have G:(s.drop (i+1)).length=s.length - (i+1):=oc
    rw[Qaw (s':=((i+(cutC 10 (s.drop i)).1.length:Nat):Int)),C _ k (by rw[ua,j];omega) (by rw[j];omega) om];have e:s.drop (i+(cutC 10 (s.drop i)).1.length)=(s.drop (i+1)).dropWhile (λb=>decide (b.toNat≠10)):=by rw[j,<-Qv7,vt];congr 1;omega
    rw[e,j];congr 2;omega;simp only[bifd,jn_eq];rw[oj om,Qfw v,sbind,oi om,oi om,oi om];rw[oi om,oj q,Qns om (ou _),yn,sbind,r,sbind,w64 om (by rw[j];omega)];congr 2;rw[oi q,Kv (t:=Lp.out (i:Int)) _ om,sbind,Qio];rfl;simp only[bifd,jn_eq];rw[oj om,Qfw v,sbind,oi om,oi om,oi om];rw[oi om,oi q];have p:i=s.length:=om
    subst p;rw[Kv (t:=Lp.go (s.length:Int)) (by simp only[bifd];rw[oi om]) om,sbind,K7];simp[Qrw]
 exact key s.length i n oc hi om
def toX(w:Vl):Qg:=⟨w.Aw,w.Av,w.At⟩
def flt(p:Int):Qc:=⟨1,0,0,p⟩
def lexR(out:List Qg):List Vl ⊕ Nat->List Qg×Qc
 | .inl a=>(out++a.map toX,⟨0,0,0,0⟩)
 | .inr p=>([],flt p)
theorem Jbg(out w x):lexR out (wcons w x)=lexR (out++[toX w]) x:=by cases x<;>simp[lexR,wcons]
theorem Q4a{n:Nat}{s:List UInt8}(hn:big<=n)(Y:s.length<=9223372036854775807):Qk7 n s=some (if 4000<s.length then ([],flt 4000) else lexR [] (scanS s 0)):=by
 unfold Qk7;simp only[bifd];by_cases hs:4000<s.length;rw[oj om,oj hs];rfl;rw[oi om,oi hs];have G:=hn;unfold big at G;have r:s.length<=4000:=om
 have h0:=Qt3 hn r (i:=0) (xl _);rw[vv,xr] at h0;have w:Qb5 n s (0:Int)=some ((skN s:Nat):Int):=h0;rw[w,sbind]
 have key:∀(m i k:Nat) (out:List Qg),(s.drop i).length<=m->i<=s.length->out.length<=i->m<k->(loopM (λ(a:(List Qg)×Int)=>
  if a.2<(s.length:Int) then (
   (getS s a.2).bind λN=>
   (Qfn n N).bind λl=>
   if l=(0:Int) then (
    some (Lp.out (Lp.out ((([]:List Qg),(⟨(1:Int),0,0,a.2⟩:Qc))))))
   else (
    (sub s a.2 (s.length:Int)).bind λO=>
    (Qcc n O l).bind λq=>
    (Qbx l).bind λJ=>
    if J<q then (
     (Qbx l).bind λK=>
     some (Lp.out (Lp.out ((([]:List Qg),(⟨(1:Int),0,0,wrap64 (a.2+K)⟩:Qc))))))
    else (
     (sub s a.2 (wrap64 (a.2+q))).bind λP=>
     (appM 32 a.1 ([(⟨l,P,a.2⟩:Qg)]:List Qg)).bind λQ=>
     (Qb5 n s (wrap64 (a.2+q))).bind λL=>
     some (Lp.go (Q,L)))))
  else (
   some (Lp.out (Lp.go a.1)))) k (out,((i+skN (s.drop i):Nat):Int))).bind (lpK λ(M:(List Qg))=>
  some (M,(⟨0,0,0,0⟩:Qc)))=some (lexR out (scanS (s.drop i) i)):=by
  intro m
  induction m with
  | zero=>
    intro i k out F hi _ hk;have y:i=s.length:=by simp at F;omega
    subst y;have v:s.drop s.length=[]:=oc
    rw[v,Qrw,Kv (t:=Lp.go out) (by rw[oi oc]) hk,sbind,K7,Qp1];simp[lexR]
  | succ m Z=>
    intro i k out F hi ho hk;obtain⟨k,rfl⟩:∃ k',k=k'+1:=⟨k - 1,om⟩
    rw[Qtd _ (s.drop i) i (ou _),vt];have C:=Q7p _ (s.drop i) (ou _);have e:=Q1x _ (s.drop i) (ou _);rw[vt] at e;rw[ua] at C;generalize hj:i+skN (s.drop i)=j at e |-;have X:i<=j:=om
    have B:j<=s.length:=om
    by_cases u:j<s.length;have hd:s.drop j=s[j]::s.drop (j+1):=xi u;obtain⟨U,x⟩:=e _ _ hd;rw[hd,Qis,oi (by simp[U]),oi x];by_cases g:kindC (s[j]).toNat=0;rw[oj g,Kv (t:=Lp.out (([]:List Qg),(⟨(1:Int),0,0,(j:Int)⟩:Qc))) _ om,sbind,Qio];rfl;simp only[];rw[oj om,Qfw u,sbind,Qjz hn,sbind,oj g];rw[oi g];have V:(s.drop j).length=s.length - j:=oc
    have hf:Qcc n (s.drop j) (kindC (s[j]).toNat)=some (((1+(tailK (kindC (s[j]).toNat) (s.drop (j+1))).length:Nat)):Int):=by rw[Qrr hn om,hd];rfl
    have I:(tailK (kindC (s[j]).toNat) (s.drop (j+1))).length<=s.length - (j+1):=by have:=Qoz (λb=>goC (kindC (s[j]).toNat) b.toNat) (s.drop (j+1));unfold tailK;simp only[ua] at this;exact this
    have p:sub s (j:Int) (s.length:Int)=some (s.drop j):=by rw[Qns B (ou _),yn]
    generalize S:(tailK (kindC (s[j]).toNat) (s.drop (j+1))).length=T at hf I;by_cases hmost:mostC (kindC (s[j]).toNat)<1+T;rw[oj hmost,Kv (t:=Lp.out (([]:List Qg),(⟨(1:Int),0,0,((j+mostC (kindC (s[j]).toNat):Nat):Int)⟩:Qc))) _ om,sbind,Qio];rfl;simp only[];have:=Q60 (kindC (s[j]).toNat);rw[oj om,Qfw u,sbind,Qjz hn,sbind,oi g,p,sbind,hf,sbind,Qne,sbind,oj om,sbind,w64 om om];congr 5;rw[oi hmost];have H:((j:Int)+((1+T:Nat):Int))=((j+1+T:Nat):Int):=om
    have htext:(s.take (j+1+T)).drop j=s[j]::tailK (kindC (s[j]).toNat) (s.drop (j+1)):=by
     have R:tailK (kindC (s[j]).toNat) (s.drop (j+1))=(s.drop (j+1)).take T:=by rw[<-S];exact Q1e _ _
     rw[R,List.drop_take,hd,show j+1+T - j=T+1 by omega];rfl
    have hstep:Qb5 n s ((j+1+T:Nat):Int)=some ((j+1+T+skN (s.drop (j+1+T)):Nat):Int):=Qt3 hn r om;rw[Qaw (s':=(out++[toX ⟨kindC (s[j]).toNat,s[j]::tailK (kindC (s[j]).toNat) (s.drop (j+1)),(j:Int)⟩],((j+1+T+skN (s.drop (j+1+T)):Nat):Int)))];rw[Z (j+1+T) k _ (by simp at F |-;omega) om oh om,Jbg,vt];simp only[];rw[oj om,Qfw u,sbind,Qjz hn,sbind,oi g,p,sbind,hf,sbind,Qne,sbind,oi om,H,w64 om om,Qns om om,sbind,htext];rw[Jk oh oh,sbind,hstep,sbind];rfl;have A:j=s.length:=om
    subst A;have v:s.drop s.length=[]:=oc
    rw[v,Qp1,Kv (t:=Lp.go out) (by rw[oi oc]) om,sbind,K7];simp[lexR]
 have hk:=key s.length 0 n [] oc (xl _) (ou _) om;rw[vv,xr] at hk;exact hk
def nxW(W:List Qg)(i:Nat):Qg:=(W[i]?).getD ⟨0,[],0⟩
def nxA(W:List Qg)(E:Int)(i:Nat):Int:=(W[i]?.map (·.At)).getD E
def WOk(W:List Qg):Prop:=W.length<=4000/\∀ w∈W,wdB w.Aw w.Av=true
theorem Q1y{W:List Qg}{i:Nat}(h:i<W.length):nxW W i∈W:=by unfold nxW;rw[ot h];exact yu h
theorem Q1z{W:List Qg}{i:Nat}(h:W.length<=i):nxW W i=⟨0,[],0⟩:=by unfold nxW;rw[xe h];rfl
theorem Jhp{W:List Qg}{i:Nat}(h:i<W.length):getI W (i:Int)=some (nxW W i):=by rw[Qav h];unfold nxW;rw[ot h];rfl
theorem nx_lt{W:List Qg}{i:Nat}{t:List UInt8}(e:t≠[])(h:(nxW W i).Av=t):i<W.length:=by rcases xh i W.length with a | a;exact a;rw[Q1z a] at h;exact absurd h.symm e
theorem Qz2{W:List Qg}{i:Nat}(h:(nxW W i).Aw≠0):i<W.length:=by rcases xh i W.length with a | a;exact a;rw[Q1z a] at h;exact absurd rfl h
theorem w1n{i:Nat}(h:i<=100000):wrap64 ((i:Int)+1)=((i+1:Nat):Int):=w1 om
section
variable {W:List Qg}{E d:Int}{Nm:List (List UInt8)}{i:Nat}
theorem Qp8(_:i<=100000):Wh W (i:Int) E d Nm=some (nxW W i):=by unfold Wh;simp only[bifd];by_cases h:i<W.length;rw[oj om,Jhp h,sbind];rw[oi om,Q1z om]
theorem Xz(hi:i<=100000)(t:List UInt8):Q8 W (i:Int) E d Nm t=some (decide ((nxW W i).Av=t),W,(if (nxW W i).Av=t then ((i+1:Nat):Int) else (i:Int)),E,d):=by unfold Q8;rw[Qp8 hi,sbind,bifnd];by_cases h:(nxW W i).Av=t;rw[oj h,oj h,w1n hi,oq h];rw[oi h,oi h,ol h]
theorem Qh9:V1 W (i:Int) E d Nm=some (.error (flt (nxA W E i))):=by unfold V1;simp only[jn_eq,bifd];by_cases h:i<W.length;rw[oj om,Qav h,sbind];unfold nxA flt;rw[ot h];rfl;rw[oi om];unfold nxA flt;rw[xe om];rfl
end
theorem Xl{ε α R:Type}(a:ε->Option R)(k:α->Option R)(x:α):(some (Except.ok x)).bind (exK a k)=k x:=yw (yw rfl)
theorem Vj{ε α R:Type}(a:ε->Option R)(k:α->Option R)(e:ε):(some (Except.error e)).bind (exK a k)=a e:=yw (yw rfl)
theorem Q7q{ε α R:Type}(a:ε->Option R)(k:α->Option R)(x:α):exK a k (Except.ok x)=k x:=yw (yw rfl)
theorem Q10{ε α R:Type}(a:ε->Option R)(k:α->Option R)(e:ε):exK a k (Except.error e)=a e:=yw (yw rfl)
def cvP{α β:Type}(f:α->β):Except Int α->Option (Except Qc β)
 | .ok x=>some (.ok (f x))
 | .error p=>some (.error (flt p))
theorem Kn{α β:Type}(f:α->β)(x):cvP f (.ok x)=some (.ok (f x)):=yw (yw rfl)
theorem Ji{α β:Type}(f:α->β)(p):cvP f (.error p)=some (.error (flt p)):=yw (yw rfl)
def ebd{α β:Type}(x:Except Int α)(k:α->Except Int β):Except Int β:=match x with
 | .ok x=>k x
 | .error p=>.error p
theorem J8{α β:Type}(x:α)(k:α->Except Int β):ebd (.ok x) k=k x:=yw (yw rfl)
theorem Wt{α β:Type}(p:Int)(k:α->Except Int β):ebd (.error p) k=.error p:=yw (yw rfl)
def needS(W:List Qg)(E:Int)(t:List UInt8)(i:Nat):Except Int Nat:=if (nxW W i).Av=t then .ok (i+1) else .error (nxA W E i)
def smallS(W:List Qg)(E:Int)(i:Nat):Except Int (Int×Nat):=if (nxW W i).Aw≠1\/3<((nxW W i).Av).length then .error (nxA W E i) else .ok ((numD ((nxW W i).Av) 0:Nat),i+1)
def compS(W:List Qg)(E:Int)(op:Int)(i:Nat):Except Int (List Qd×Nat):=
 ebd (needS W E [91] (i+1)) λj=>ebd (smallS W E j) λv=>ebd (needS W E [93] v.2) λj=>.ok ([⟨op,v.1,[]⟩],j)
def resB(s:List UInt8):Bool:=decide (s=[116]\/s=[121]\/s=[112]\/s=[108,101,116])
def nameS(W:List Qg)(E:Int)(i:Nat):Except Int (List UInt8×Nat):=if (nxW W i).Aw≠2\/resB ((nxW W i).Av)=true then .error (nxA W E i) else .ok ((nxW W i).Av,i+1)
def fndS:List (List UInt8)->List UInt8->Nat->Int
 | [],_,_=>-1
 | x::l,s,i=>if x=s then (i:Int) else fndS l s (i+1)
section
variable {W:List Qg}{E d:Int}{Nm:List (List UInt8)}{i:Nat}
theorem Qia(hi:i<=100000)(t:List UInt8):Jj W (i:Int) E d Nm t=cvP (λj:Nat=>(W,(j:Int),E,d)) (needS W E t i):=by unfold Jj needS;rw[Xz hi,sbind,bifnd];by_cases h:(nxW W i).Av=t;simp only[oj h];rfl;simp only[oi h];rw[Qh9,Vj];rfl
theorem Jft{w:Qg}(h:wdB w.Aw w.Av=true)(hk:w.Aw=1):isD w.Av/\w.Av≠[]/\w.Av.length<=60:=by
 cases l:w.Av with
 | nil=>rw[l] at h;simp[wdB] at h
 | cons c r=>
   rw[l] at h;obtain⟨_,a,g,j⟩:=(Qc1 _ _ _).1 h;rw[hk] at a g j;have hd:∀ c:Nat,digB c=true->48<=c/\c<=57:=λc h=>by simpa [digB] using h
   refine⟨λb e=>?_,oc,?_⟩;rcases xc.1 e with rfl | e;refine hd _ ?_;unfold kindC at a;by_cases k:digB b.toNat=true;exact k;rw[oi k] at a;split at a;omega;split at a<;>omega;have:=ug.1 g b e;exact hd _ (by simpa [goC] using this);have:mostC 1=60:=oy
   rw[this] at j;simp;omega
theorem word1(hW:WOk W)(hk:(nxW W i).Aw=1):isD ((nxW W i).Av)/\(nxW W i).Av≠[]/\((nxW W i).Av).length<=60:=
 Jft (hW.2 _ (Q1y (Qz2 (by rw[hk];decide)))) hk
theorem Jdu:∀ {s:List UInt8}{v:Nat},isD s->v<1000000000->s.length<=3->Lib.parseUint10 v s=.ok (numD s v)
 | [],v,_,_,_=>by unfold Lib.parseUint10 numD;rfl
 | c::r,v,e,g,a=>by
   have ⟨h1,h2⟩:=e c (.head _);unfold Lib.parseUint10 numD;simp only[oo] at a;rw[oj ⟨h1,h2⟩,oi om,oi om];cases r with
   | nil=>unfold Lib.parseUint10 numD;rfl
   | cons c2 r=>
     have ⟨h3,h4⟩:=e c2 (.tail _ (.head _));unfold Lib.parseUint10 numD;simp only[oo] at a;rw[oj ⟨h3,h4⟩,oi om,oi om];cases r with
     | nil=>unfold Lib.parseUint10 numD;rfl
     | cons c3 r=>
       have ⟨h5,h6⟩:=e c3 (.tail _ (.tail _ (.head _)));unfold Lib.parseUint10 numD;simp only[oo] at a;rw[oj ⟨h5,h6⟩,oi om,oi om];cases r with
       | nil=>unfold Lib.parseUint10 numD;rfl
       | cons _ _=>simp only[oo] at a;omega
theorem numD3{s:List UInt8}(a:isD s)(g:s.length<=3):numD s 0<1000:=by
 have h:=Q9o a 0 0 (by rw[Qfi];omega);have:=tp_le (show 0+s.length<=3 by omega);have e:tp 3=1000:=oy
 omega
theorem Jdv{s:List UInt8}(a:isD s)(e:s≠[])(g:s.length<=3):Qep s=some (((numD s 0:Nat):Int),false):=by
 have k:=numD3 a g;have j:Lib.atoiAll s=.ok (numD s 0:Nat):=by
  cases s with
  | nil=>exact absurd rfl e
  | cons c r=>
    have l:=a c (.head _);unfold Lib.atoiAll;simp only[];rw[oi om];unfold Lib.parseMag;rw[oi oc,Jdu a om g];simp only[];rw[oi om,oi om,oi om]
 unfold Qep;rw[oj om,j]
theorem Qz3(hi:i<=100000)(hW:WOk W):Xr W (i:Int) E d Nm=cvP (λv:Int×Nat=>(v.1,W,(v.2:Int),E,d)) (smallS W E i):=by unfold Xr smallS;rw[Qp8 hi,sbind];simp only[jn_eq,bifnd];by_cases hk:(nxW W i).Aw=1;obtain⟨g,a,_⟩:=word1 hW hk;rw[oj hk];by_cases e:3<((nxW W i).Av).length;rw[oj (.inr e),oq (show(3:Int)<(((nxW W i).Av).length:Int) by omega),bifT,Qh9,Vj,Ji];rw[oi (show ¬((nxW W i).Aw≠1\/3<((nxW W i).Av).length) from λh=>h.elim (λh=>h hk) e),ol (show ¬(3:Int)<(((nxW W i).Av).length:Int) by omega),bifF,Jdv g a om,sbind,w1n hi,Kn];rw[oi hk,oj (.inl hk),bifT,Qh9,Vj,Ji]
theorem Qvp{v:Int×Nat}(h:smallS W E i=.ok v):v.2=i+1/\i<W.length:=by unfold smallS at h;split at h;cases h;rename_i a;cases h;exact⟨rfl,Qz2 om⟩
theorem Qf1{t:List UInt8}{j:Nat}(e:t≠[])(h:needS W E t i=.ok j):j=i+1/\i<W.length:=by unfold needS at h;split at h;rename_i a;cases h;exact⟨rfl,nx_lt e a⟩;cases h
theorem Q22(hi:i<=90000)(hW:WOk W)(op:Int):Ws W (i:Int) E d Nm op=cvP (λv:List Qd×Nat=>(v.1,W,(v.2:Int),E,d)) (compS W E op i):=by
 have g:=hW.1;unfold Ws compS;rw[w1n om,Qia om];cases a:needS W E [91] (i+1) with
 | error p=>rw[Ji,Vj,Wt,Ji]
 | ok j=>
   obtain⟨rfl,_⟩:=Qf1 oc a;rw[Kn,Xl,J8];simp only[];rw[Qz3 om hW];cases e:smallS W E (i+1+1) with
   | error p=>rw[Ji,Vj,Wt,Ji]
   | ok v=>
     obtain⟨k,_⟩:=Qvp e;rw[Kn,Xl,J8];simp only[];rw[Qia om];cases l:needS W E [93] v.2 with
     | error p=>rw[Ji,Vj,Wt,Ji]
     | ok j=>rw[Kn,Xl,J8,Kn]
theorem Q7r{op:Int}{v:List Qd×Nat}(h:compS W E op i=.ok v)(hi:i<W.length):i<v.2/\v.2<=W.length/\v.1.length=1:=by
 unfold compS at h;cases a:needS W E [91] (i+1) with
 | error p=>rw[a,Wt] at h;cases h
 | ok j=>
   rw[a,J8] at h;obtain⟨rfl,_⟩:=Qf1 oc a;cases e:smallS W E (i+1+1) with
   | error p=>rw[e,Wt] at h;cases h
   | ok w=>
     rw[e,J8] at h;obtain⟨k,_⟩:=Qvp e;cases g:needS W E [93] w.2 with
     | error p=>rw[g,Wt] at h;cases h
     | ok j=>
       rw[g,J8] at h;obtain⟨rfl,_⟩:=Qf1 oc g;cases h;exact⟨by simp only[];omega,by simp only[];omega,rfl⟩
theorem Q4b(s:List UInt8):Qcv s=some (resB s):=by unfold Qcv resB;simp only[jn_eq,bifd];grind
theorem Q23(hi:i<=100000):Wi W (i:Int) E d Nm=cvP (λv:List UInt8×Nat=>(v.1,W,(v.2:Int),E,d)) (nameS W E i):=by unfold Wi nameS;rw[Qp8 hi,sbind];simp only[jn_eq,bifnd,Q4b,sbind];by_cases hk:(nxW W i).Aw=2;rw[oj hk];by_cases hr:resB ((nxW W i).Av)=true;rw[oj (.inr hr),hr,bifT,Qh9,Vj,Ji];rw[oi (by simp[hk,hr]),show resB ((nxW W i).Av)=false by simpa using hr,bifF,w1n hi,Kn];rw[oi hk,oj (.inl hk),bifT,Qh9,Vj,Ji]
theorem Qxy{v:List UInt8×Nat}(h:nameS W E i=.ok v):v.2=i+1/\i<W.length/\v.1=(nxW W i).Av:=by unfold nameS at h;split at h;cases h;rename_i a;cases h;exact⟨rfl,Qz2 om,rfl⟩
theorem Jbh{x a b c:_}(s:List UInt8):Yz x a b c Nm s=some (fndS Nm s 0):=by
 unfold Yz
 have key:∀(l:List (List UInt8)) (k:Nat),(rangeL (λ(e:Nat) (j:(List UInt8)) (_:Unit)=>
  bif decide (j=s) then (some (Lp.out ((e:Int)))) else (some (Lp.go ()))) l k ()).bind (lpK λ(_:Unit)=>some (-1:Int))=some (fndS l s k):=by
  intro l
  induction l with
  | nil=>intro k;rfl
  | cons x l g=>
    intro k;simp only[rangeL,bifd,fndS];by_cases h:x=s;rw[oj h,oj h,sbind];simp only[];rw[sbind,Qio];rw[oi h,oi h,sbind];simp only[];have:=g (k+1);simp only[bifd] at this;exact this
 exact key Nm 0
theorem Qvq{r:Nat}(hi:1<=i)(a:i<=100000)(hr:r<=40):X6 W (i:Int) E ((40 - r:Nat):Int) Nm=cvP (λ_:Unit=>(W,(i:Int),E,((40 - r:Nat):Int)+1)) (if r=0 then .error (nxA W E (i - 1)) else .ok ()):=by unfold X6;simp only[jn_eq,bifd];by_cases h:r=0;subst h;rw[oj om,oj rfl,w64 om om,show(i:Int) - 1=((i - 1:Nat):Int) by omega,Qh9,Vj,Ji];rw[oi om,oi h,w64 om om,Kn]
end
abbrev Prs:=Except Int (List Qd×Nat)
def atomS(W:List Qg)(E:Int)(Nm:List (List UInt8))(r:Nat)(ex:Nat->Prs)(i:Nat):Prs:=
 if (nxW W i).Aw=1 then .ok ([⟨1,0,toL (numD ((nxW W i).Av) 0)⟩],i+1)
 else if (nxW W i).Av=[116] then .ok ([⟨2,0,[]⟩],i+1)
 else if (nxW W i).Av=[121] then compS W E 3 i
 else if (nxW W i).Av=[112] then compS W E 4 i
 else if (nxW W i).Av=[40] then (if r=0 then .error (nxA W E i) else ebd (ex (i+1)) λv=>ebd (needS W E [41] v.2) λj=>.ok (v.1,j))
 else ebd (nameS W E i) λv=>.ok ([⟨5,fndS Nm v.1 0,[]⟩],v.2)
def powS(W:List Qg)(E:Int)(at_:Nat->Prs)(i:Nat):Prs:=
 ebd (at_ i) λv=>if (nxW W v.2).Av=[94] then ebd (smallS W E (if (nxW W (v.2+1)).Av=[45] then v.2+1+1 else v.2+1)) λe=>.ok (v.1++[⟨11,if (nxW W (v.2+1)).Av=[45] then -e.1 else e.1,[]⟩],e.2) else .ok v
def chainL(W:List Qg)(p:Nat->Prs)(a b:List UInt8)(e ob:Int):Nat->List Qd->Nat->Prs
 | 0,c,j=>.ok (c,j)
 | k+1,c,j=>if (nxW W j).Av=a then ebd (p (j+1)) λv=>chainL W p a b e ob k (c++v.1++[⟨e,0,[]⟩]) v.2
   else if (nxW W j).Av=b then ebd (p (j+1)) λv=>chainL W p a b e ob k (c++v.1++[⟨ob,0,[]⟩]) v.2 else .ok (c,j)
def chainS(W:List Qg)(p:Nat->Prs)(a b:List UInt8)(e ob:Int)(i:Nat):Prs:=ebd (p i) λv=>chainL W p a b e ob W.length v.1 v.2
def termS(W:List Qg)(f:Nat->Prs)(i:Nat):Prs:=chainS W f [42] [47] 9 10 i
def exS(W:List Qg)(f:Nat->Prs)(i:Nat):Prs:=chainS W (termS W f) [43] [45] 7 8 i
def factS(W:List Qg)(E:Int)(Nm:List (List UInt8)):Nat->Nat->Prs
 | 0,i=>if (nxW W i).Av=[45] then .error (nxA W E i) else powS W E (atomS W E Nm 0 (λ_=>.error 0)) i
 | r+1,i=>if (nxW W i).Av=[45] then ebd (factS W E Nm r (i+1)) λv=>.ok (v.1++[⟨6,0,[]⟩],v.2) else powS W E (atomS W E Nm (r+1) (exS W (factS W E Nm r))) i
def PO(W:List Qg)(p:Nat->Prs):Prop:=∀ i v,p i=.ok v->i<v.2/\v.2<=W.length/\v.1.length+i<=v.2/\1<=v.1.length
section
variable {W:List Qg}{E:Int}{Nm:List (List UInt8)}
theorem Qdy{α β:Type}{x:Except Int α}{k:α->Except Int β}{y:β}(h:ebd x k=.ok y):∃ v,x=.ok v/\k v=.ok y:=by
 cases x with
 | ok v=>exact⟨v,rfl,h⟩
 | error p=>cases h
theorem Qte{r:Nat}{ex:Nat->Prs}(x:r≠0->PO W ex):PO W (atomS W E Nm r ex):=by
 intro i v h;unfold atomS at h;by_cases a:(nxW W i).Aw=1;rw[oj a] at h;have:=Qz2 (W:=W) (i:=i) (by rw[a];decide);cases h;exact⟨oc,by simp only[];omega,by simp only[oo,xz];omega,oc⟩;rw[oi a] at h;by_cases e:(nxW W i).Av=[116]
 rw[oj e] at h;have:=nx_lt oc e;cases h;exact⟨oc,by simp only[];omega,by simp only[oo,xz];omega,oc⟩;rw[oi e] at h;by_cases k:(nxW W i).Av=[121]
 rw[oj k] at h;have:=Q7r h (nx_lt oc k);omega;rw[oi k] at h;by_cases l:(nxW W i).Av=[112]
 rw[oj l] at h;have:=Q7r h (nx_lt oc l);omega;rw[oi l] at h;by_cases q:(nxW W i).Av=[40]
 rw[oj q] at h;by_cases m:r=0;rw[oj m] at h;cases h;rw[oi m] at h;obtain⟨u,p,h⟩:=Qdy h;obtain⟨j,w,h⟩:=Qdy h;have g:=x m _ _ p;obtain⟨rfl,t⟩:=Qf1 oc w;cases h;refine⟨by simp only[];omega,by simp only[];omega,by simp only[];omega,g.2.2.2⟩;rw[oi q] at h;obtain⟨u,p,h⟩:=Qdy h;obtain⟨g1,t,g3⟩:=Qxy p;cases h;exact⟨by simp only[];omega,by simp only[];omega,by simp only[oo,xz];omega,oc⟩
theorem Q94{p:Nat->Prs}(k:PO W p):PO W (powS W E p):=by
 intro i v h;unfold powS at h;obtain⟨u,l,h⟩:=Qdy h;have g:=k _ _ l;by_cases a:(nxW W u.2).Av=[94]
 rw[oj a] at h;obtain⟨e,j,h⟩:=Qdy h;obtain⟨g1,m⟩:=Qvp j;cases h;have:u.2<(if (nxW W (u.2+1)).Av=[45] then u.2+1+1 else u.2+1):=by split<;>omega
 refine⟨by simp only[];omega,by simp only[];omega,by simp only[ov,oo,xz];omega,oc⟩;rw[oi a] at h;cases h;exact g
theorem Qvr{p:Nat->Prs}(e:PO W p){a b:List UInt8}{w ob:Int}:∀(k:Nat) (c:List Qd) (j i:Nat) (v),i<j->j<=W.length->c.length+i<=j->1<=c.length->chainL W p a b w ob k c j=.ok v->i<v.2/\v.2<=W.length/\v.1.length+i<=v.2/\1<=v.1.length
 | 0,c,j,i,v,l,m,q,r,h=>by unfold chainL at h;cases h;exact⟨l,m,q,r⟩
 | k+1,c,j,i,v,l,m,q,r,h=>by unfold chainL at h;split at h;obtain⟨u,t,h⟩:=Qdy h;have g:=e _ _ t;exact Qvr e k _ _ i v om g.2.1 (by simp only[ov,oo,xz];omega) oh h;split at h;obtain⟨u,t,h⟩:=Qdy h;have g:=e _ _ t;exact Qvr e k _ _ i v om g.2.1 (by simp only[ov,oo,xz];omega) oh h;cases h;exact⟨l,m,q,r⟩
theorem Qvs{p:Nat->Prs}(e:PO W p){a b:List UInt8}{k ob:Int}:PO W (chainS W p a b k ob):=by intro i v h;unfold chainS at h;obtain⟨u,j,h⟩:=Qdy h;have g:=e _ _ j;exact Qvr e _ _ _ i v g.1 g.2.1 g.2.2.1 g.2.2.2 h
theorem Qz4{f:Nat->Prs}(hf:PO W f):PO W (exS W f):=Qvs (Qvs hf)
theorem Qib:∀(r:Nat),PO W (factS W E Nm r)
 | 0=>λi v h=>by unfold factS at h;split at h;cases h;exact Q94 (Qte λh=>absurd rfl h) i v h
 | r+1=>λi v h=>by unfold factS at h;split at h;rename_i e;obtain⟨u,a,h⟩:=Qdy h;have g:=Qib r _ _ a;cases h;exact⟨by simp only[];omega,g.2.1,by simp only[ov,oo,xz];omega,oc⟩;exact Q94 (Qte λ_=>Qz4 (Qib r)) i v h
end
abbrev PrM:=List Qg->Int->Int->Int->List (List UInt8)->Option (Except Qc (List Qd×List Qg×Int×Int×Int×List (List UInt8)))
def outP(W:List Qg)(E d:Int)(Nm:List (List UInt8))(v:List Qd×Nat):List Qd×List Qg×Int×Int×Int×List (List UInt8):=(v.1,W,(v.2:Int),E,d,Nm)
def Rd(W:List Qg)(E d:Int)(Nm:List (List UInt8))(m:PrM)(p:Nat->Prs):Prop:=∀ i:Nat,i<=W.length->m W (i:Int) E d Nm=cvP (outP W E d Nm) (p i)
section
variable {W:List Qg}{E:Int}{Nm:List (List UInt8)}
theorem Jbi(v:Nat):trimZ (toL v)=toL v:=by simp[Q2g]
theorem Q24{me:PrM}{n r:Nat}{ex:Nat->Prs}(hn:big<=n)(hW:WOk W)(hr:r<=40)(B:r≠0->Rd W E ((40 - r:Nat)+1:Int) Nm me ex)(A:r≠0->PO W ex):
 Rd W E ((40 - r:Nat):Int) Nm (X7 me n) (atomS W E Nm r ex):=by
 intro i hi;have y:=hW.1;unfold X7 atomS;rw[Qp8 om,sbind];simp only[bifd];by_cases e:(nxW W i).Aw=1;obtain⟨w,t,F⟩:=word1 hW e;rw[oj e,oj e,Qj6 hn (by unfold maxLen;omega)];have u:wrongI (nxW W i).Av=-1:=by rw[Qze w t,oi om]
 rw[oi (by rw[u];decide)];rw[sbind];simp only[];rw[Vp hn (by have:=Qxj w;omega),sbind,Jbi,w1n om,Kn];rfl;rw[oi e,oi e];by_cases l:(nxW W i).Av=[116]
 rw[oj l,oj l,w1n om,Kn];rfl;rw[oi l,oi l];by_cases m:(nxW W i).Av=[121]
 rw[oj m,oj m,Q22 om hW];cases compS W E 3 i with
 | error p=>rw[Ji,Vj,Ji]
 | ok v=>rw[Kn,Xl,Kn];rfl
 rw[oi m,oi m];by_cases q:(nxW W i).Av=[112]
 rw[oj q,oj q,Q22 om hW];cases compS W E 4 i with
 | error p=>rw[Ji,Vj,Ji]
 | ok v=>rw[Kn,Xl,Kn];rfl
 rw[oi q,oi q,Xz om,sbind];by_cases k:(nxW W i).Av=[40]
 simp only[oj k,oq k,bifT];rw[Qvq om om hr];by_cases a:r=0;rw[oj a,oj a,Ji,Vj,Ji];rfl;rw[oi a,oi a,Kn,Xl];simp only[];rw[B a (i+1) (nx_lt oc k)];cases x:ex (i+1) with
 | error p=>rw[Ji,Vj,Wt,Ji]
 | ok v=>
   have g:=A a _ _ x;rw[Kn,Xl,J8];simp only[outP];rw[Qia om];cases C:needS W E [41] v.2 with
   | error p=>rw[Ji,Vj,Wt,Ji]
   | ok j=>rw[Kn,Xl,J8,Kn];simp only[outP];rw[w64 om om,Int.add_sub_cancel]
 simp only[oi k,ol k,bifF];rw[Q23 om];cases x:nameS W E i with
 | error p=>rw[Ji,Vj,Wt,Ji]
 | ok v=>rw[Kn,Xl,J8];simp only[];rw[Jbh,sbind,Kn];rfl
theorem Jbj(hW:WOk W){i:Nat}{e:Int×Nat}(a:smallS W E i=.ok e):0<=e.1/\e.1<1000:=by
 unfold smallS at a;by_cases g:(nxW W i).Aw≠1\/3<(nxW W i).Av.length;rw[oj g] at a;cases a;rw[oi g] at a;cases a;have hk:(nxW W i).Aw=1:=Decidable.byContradiction λh=>g (.inl h);have j:(nxW W i).Av.length<=3:=by rcases xh 3 (nxW W i).Av.length with h | h;exact absurd (.inr h) g;exact h
 have:=numD3 (word1 hW hk).1 j;exact⟨we _,by simp only[];omega⟩
theorem Qz5{me:PrM}{n:Nat}{d:Int}{p:Nat->Prs}(hW:WOk W)(h:Rd W E d Nm (X7 me n) p)(m:PO W p):Rd W E d Nm (Y0 me n) (powS W E p):=by
 intro i hi;have k:=hW.1;unfold Y0 powS;rw[h i hi];cases r:p i with
 | error p=>rw[Ji,Vj,Wt,Ji]
 | ok v=>
   have g:=m _ _ r;rw[Kn,Xl,J8];simp only[outP];rw[Xz om,sbind,bifnd];by_cases a:(nxW W v.2).Av=[94]
   simp only[oj a];rw[Xz om,sbind];simp only[jn_eq,bifd];have e:(if (nxW W (v.2+1)).Av=[45] then ((v.2+1+1:Nat):Int) else ((v.2+1:Nat):Int))=(((if (nxW W (v.2+1)).Av=[45] then v.2+1+1 else v.2+1):Nat):Int):=by split<;>rfl
   rw[e,Qz3 (by split<;>omega) hW];cases l:smallS W E (if (nxW W (v.2+1)).Av=[45] then v.2+1+1 else v.2+1) with
   | error p=>rw[Ji,Vj,Wt,Ji]
   | ok e=>
     have q:=Jbj hW l;rw[Kn,Xl,J8];simp only[];by_cases j:(nxW W (v.2+1)).Av=[45]
     simp only[oj j];rw[w64 om om,Jk oh oh,sbind,Kn];rfl;simp only[oi j];rw[Jk oh oh,sbind,Kn];rfl
   simp only[oi a];rw[Kn];rfl
theorem Q81{me:PrM}(hW:WOk W){R:Nat}(q:R<=40)(l:∀ r,r<R->Rd W E ((40 - r:Nat):Int) Nm me (exS W (factS W E Nm r))):
 ∀(r n:Nat),r<=R->big+r+1<=n->Rd W E ((40 - r:Nat):Int) Nm (Ko me n) (factS W E Nm r):=by
 have e:=hW.1;intro r
 induction r with
 | zero=>
   intro n hr hn i hi;obtain⟨n,rfl⟩:∃ k,n=k+1:=⟨n - 1,om⟩
   unfold Ko factS;rw[Xz om,sbind,bifnd];by_cases a:(nxW W i).Av=[45]
   simp only[oj a];rw[Qvq (r:=0) om om om,oj rfl,Ji,Vj,Ji];rfl;simp only[oi a];rw[Qz5 hW (Q24 (r:=0) (ex:=λ_=>.error 0) om hW om (λh=>absurd rfl h) (λh=>absurd rfl h)) (Qte λh=>absurd rfl h) i hi];cases powS W E (atomS W E Nm 0 (λ_=>.error 0)) i with
   | error p=>rw[Ji,Vj]
   | ok v=>rw[Kn,Xl]
 | succ r m=>
   intro n hr hn i hi;obtain⟨n,rfl⟩:∃ k,n=k+1:=⟨n - 1,om⟩
   have hd:((40 - (r+1):Nat):Int)+1=((40 - r:Nat):Int):=om
   unfold Ko factS;rw[Xz om,sbind,bifnd];by_cases a:(nxW W i).Av=[45]
   simp only[oj a];rw[Qvq (r:=r+1) om om om,oi om,Kn,Xl];simp only[];rw[hd,m n om om (i+1) (nx_lt oc a)];cases j:factS W E Nm r (i+1) with
   | error p=>rw[Ji,Vj,Wt,Ji]
   | ok v=>
     have g:=Qib r _ _ j;rw[Kn,Xl,J8];simp only[outP];rw[Jk oh oh,sbind,Kn,w64 om om,show((40 - r:Nat):Int) - 1=((40 - (r+1):Nat):Int) by omega];rfl
   simp only[oi a];rw[Qz5 hW (Q24 (r:=r+1) om hW om (λ_=>by rw[hd];exact l r om) (λ_=>Qz4 (Qib r))) (Qte λ_=>Qz4 (Qib r)) i hi];cases powS W E (atomS W E Nm (r+1) (exS W (factS W E Nm r))) i with
   | error p=>rw[Ji,Vj]
   | ok v=>rw[Kn,Xl]
def mCh(p:PrM)(n:Nat)(x0_words:(List Qg))(x0_at_:Int)(x0_end_:Int)(x0_deep:Int)(x0_names:(List (List UInt8)))(x2:(List UInt8))(u:(List UInt8))(x4:Int)(v:Int):Option (Except Qc ((List Qd)×(List Qg)×Int×Int×Int×(List (List UInt8)))):=
 (p x0_words x0_at_ x0_end_ x0_deep x0_names).bind (exK (λe=>
  some (Except.error e)) λm=>
 loopM (λ(a:(List Qg)×Int×Int×Int×(List (List UInt8))×(List Qd))=>
  jn (λ(q:((List Qg)×Int×Int×Int×Int)->Option _)=>
   (Q8 a.1 a.2.1 a.2.2.1 a.2.2.2.1 a.2.2.2.2.1 x2).bind λg=>
   bif g.1 then (
    q (g.2.1,g.2.2.1,g.2.2.2.1,g.2.2.2.2,x4))
   else (
    (Q8 g.2.1 g.2.2.1 g.2.2.2.1 g.2.2.2.2 a.2.2.2.2.1 u).bind λj=>
    bif j.1 then (
     q (j.2.1,j.2.2.1,j.2.2.2.1,j.2.2.2.2,v))
    else (
     some (Lp.out (Except.ok (a.2.2.2.2.2,j.2.1,j.2.2.1,j.2.2.2.1,j.2.2.2.2,a.2.2.2.2.1)))))) (λ(l:(List Qg)×Int×Int×Int×Int)=>
   (p l.1 l.2.1 l.2.2.1 l.2.2.2.1 a.2.2.2.2.1).bind (exK (λe=>
    some (Lp.out (Except.error e))) λk=>
   (appM 40 a.2.2.2.2.2 k.1).bind λr=>
   (appM 40 r ([(⟨l.2.2.2.2,0,[]⟩:Qd)]:List Qd)).bind λt=>
   some (Lp.go (k.2.1,k.2.2.1,k.2.2.2.1,k.2.2.2.2.1,k.2.2.2.2.2,t))))) n (m.2.1,m.2.2.1,m.2.2.2.1,m.2.2.2.2.1,m.2.2.2.2.2,m.1))
theorem Q11(me:PrM)(n:Nat):Km me n=mCh (Ko me n) n:=by unfold Km mCh;rfl
theorem Q7s(me:PrM)(n:Nat):Kt me n=mCh (W9 me n) n:=by unfold Kt mCh;rfl
theorem Jdw{m:PrM}{n:Nat}{d:Int}{p:Nat->Prs}{a b:List UInt8}{G ob:Int}(hn:10000<=n)(hW:WOk W)(h:Rd W E d Nm m p)(I:PO W p)(J:a≠[])(K:b≠[]):
 ∀ i:Nat,i<=W.length->mCh m n W (i:Int) E d Nm a b G ob=cvP (outP W E d Nm) (chainS W p a b G ob i):=by
 intro i hi;have M:=hW.1;unfold mCh chainS;rw[h i hi];cases Q:p i with
 | error q=>rw[Ji,Vj,Wt,Ji]
 | ok v=>
   have g:=I _ _ Q;rw[Kn,Xl,J8];simp only[outP,jn_eq]
   have key:∀(k n j:Nat) (c:List Qd),j<=W.length->c.length<=j->W.length - j<=k->W.length - j<n ->
    loopM (λ(r:(List Qg)×Int×Int×Int×(List (List UInt8))×(List Qd))=>
     (Q8 r.1 r.2.1 r.2.2.1 r.2.2.2.1 r.2.2.2.2.1 a).bind λt=>
     bif t.1 then (
      (m t.2.1 t.2.2.1 t.2.2.2.1 t.2.2.2.2 r.2.2.2.2.1).bind (exK (λe=>
       some (Lp.out (Except.error e))) λl=>
      (appM 40 r.2.2.2.2.2 l.1).bind λC=>
      (appM 40 C ([(⟨G,0,[]⟩:Qd)]:List Qd)).bind λF=>
      some (Lp.go (l.2.1,l.2.2.1,l.2.2.2.1,l.2.2.2.2.1,l.2.2.2.2.2,F))))
     else (
      (Q8 t.2.1 t.2.2.1 t.2.2.2.1 t.2.2.2.2 r.2.2.2.2.1 b).bind λw=>
      bif w.1 then (
       (m w.2.1 w.2.2.1 w.2.2.2.1 w.2.2.2.2 r.2.2.2.2.1).bind (exK (λe=>
        some (Lp.out (Except.error e))) λl=>
       (appM 40 r.2.2.2.2.2 l.1).bind λC=>
       (appM 40 C ([(⟨ob,0,[]⟩:Qd)]:List Qd)).bind λF=>
       some (Lp.go (l.2.1,l.2.2.1,l.2.2.2.1,l.2.2.2.2.1,l.2.2.2.2.2,F))))
      else (
       some (Lp.out (Except.ok (r.2.2.2.2.2,w.2.1,w.2.2.1,w.2.2.2.1,w.2.2.2.2,r.2.2.2.2.1)))))) n (W,(j:Int),E,d,Nm,c)=cvP (outP W E d Nm) (chainL W p a b G ob k c j):=by
    intro k
    induction k with
    | zero=>
      intro n j c O N hk hn;have P:j=W.length:=om
      have x:(nxW W j).Av≠a:=λe=>by have:=nx_lt J e;omega
      have y:(nxW W j).Av≠b:=λe=>by have:=nx_lt K e;omega
      unfold chainL;rw[Kn];exact Kv (by simp only[Xz (show j<=100000 by omega),sbind,ol x,ol y,bifF,oi x,oi y];rfl) om
    | succ k L=>
      intro n j c O N hk hn;obtain⟨n,rfl⟩:∃ q,n=q+1:=⟨n - 1,om⟩
      unfold chainL;by_cases x:(nxW W j).Av=a;have H:=nx_lt J x;rw[oj x];have A:=h (j+1) om;cases B:p (j+1) with
      | error q=>
        rw[B,Ji] at A;rw[Wt,Ji];exact Kv (by simp only[Xz (show j<=100000 by omega),sbind,oq x,bifT,oj x,A,Q10]) om
      | ok u=>
        have g:=I _ _ B;rw[B,Kn] at A;rw[J8,Qaw (s':=(W,(u.2:Int),E,d,Nm,c++u.1++[(⟨G,0,[]⟩:Qd)]))];exact L n u.2 _ g.2.1 (by simp only[ov,oo,xz];omega) om om;simp only[Xz (show j<=100000 by omega),sbind,oq x,bifT,oj x,A,Q7q,outP];rw[Jk om om,sbind,Jk (by simp only[ov,oo,xz];omega) (by simp only[ov,oo,xz];omega),sbind]
      rw[oi x];by_cases y:(nxW W j).Av=b;have H:=nx_lt K y;rw[oj y];have A:=h (j+1) om;cases B:p (j+1) with
      | error q=>
        rw[B,Ji] at A;rw[Wt,Ji];exact Kv (by simp only[Xz (show j<=100000 by omega),sbind,ol x,bifF,oi x,oq y,bifT,oj y,A,Q10]) om
      | ok u=>
        have g:=I _ _ B;rw[B,Kn] at A;rw[J8,Qaw (s':=(W,(u.2:Int),E,d,Nm,c++u.1++[(⟨ob,0,[]⟩:Qd)]))];exact L n u.2 _ g.2.1 (by simp only[ov,oo,xz];omega) om om;simp only[Xz (show j<=100000 by omega),sbind,ol x,bifF,oi x,oq y,bifT,oj y,A,Q7q,outP];rw[Jk om om,sbind,Jk (by simp only[ov,oo,xz];omega) (by simp only[ov,oo,xz];omega),sbind]
      rw[oi y,Kn];exact Kv (by simp only[Xz (show j<=100000 by omega),sbind,ol x,ol y,bifF,oi x,oi y];rfl) om
   exact key W.length n v.2 v.1 g.2.1 om om om
theorem Jdx{me:PrM}{n:Nat}{d:Int}{f:Nat->Prs}(hn:10000<=n)(hW:WOk W)(h:Rd W E d Nm (Ko me n) f)(a:PO W f):Rd W E d Nm (W9 me n) (termS W f):=by
 intro i hi;unfold W9 termS;rw[Q11,Jdw hn hW h a oc oc i hi];cases chainS W f [42] [47] 9 10 i with
 | error q=>rw[Ji,Vj]
 | ok v=>rw[Kn,Xl]
theorem Jdy(hW:WOk W):∀(r n:Nat),r<=40->big+r+2<=n->Rd W E ((40 - r:Nat):Int) Nm (Jz n) (exS W (factS W E Nm r)):=by
 intro r
 induction r using Nat.strongRecOn with
 | _ r j=>
   intro n hr hn i hi;obtain⟨n,rfl⟩:∃ k,n=k+1:=⟨n - 1,om⟩
   have a:10000<=n:=by unfold big at hn;omega
   have hf:=Q81 (E:=E) (Nm:=Nm) (me:=Jz n) hW hr (λq e=>j q e n om om) r n (ou _) om;have g:=Jdx a hW hf (Qib r);unfold Jz exS;rw[Q7s,Jdw a hW g (Qvs (Qib r)) oc oc i hi];cases chainS W (termS W (factS W E Nm r)) [43] [45] 7 8 i with
   | error q=>rw[Ji,Vj]
   | ok v=>rw[Kn,Xl]
end
def VOk(V:List Vl)(E:Int):Prop:=WOk (V.map toX)/\0<=E/\∀ w∈V,0<=w.At
theorem Q95{V:List Vl}:(V.map toX).length=V.length:=xa _
def ex0(W:List Qg)(E:Int)(Nm:List (List UInt8))(i:Nat):Prs:=exS W (factS W E Nm 40) i
theorem Qvt{W E Nm}:PO W (ex0 W E Nm):=Qz4 (Qib 40)
def letsL(W:List Qg)(E:Int):Nat->List (List UInt8)->List Qy->Nat->Except Int ((List Qy×List (List UInt8))×Nat)
 | 0,Nm,L,i=>.ok ((L,Nm),i)
 | k+1,Nm,L,i=>if (nxW W i).Av=[108,101,116] then ebd (nameS W E (i+1)) λv=>ebd (needS W E [61] v.2) λj=>ebd (ex0 W E Nm j) λc=>ebd (needS W E [59] c.2) λj=>letsL W E k (Nm++[v.1]) (L++[⟨v.1,c.1⟩]) j
   else .ok ((L,Nm),i)
def outsL(W:List Qg)(E:Int)(Nm:List (List UInt8)):Nat->List (List Qd)->Nat->Except Int (List (List Qd)×Nat)
 | 0,O,i=>.ok (O,i)
 | k+1,O,i=>if (nxW W i).Av=[44] then ebd (ex0 W E Nm (i+1)) λc=>outsL W E Nm k (O++[c.1]) c.2 else .ok (O,i)
def fieldS(W:List Qg)(E:Int):Except Int ((Qt×List (List UInt8))×Nat):=
 ebd (letsL W E W.length [] [] 0) λa=>ebd (needS W E [91] a.2) λj=>ebd (ex0 W E a.1.2 j) λc=>ebd (outsL W E a.1.2 W.length [c.1] c.2) λb=>ebd (needS W E [93] b.2) λj=>.ok ((⟨a.1.1,b.1⟩,a.1.2),j)
section
variable {W:List Qg}{E:Int}
theorem Q7t:∀(k:Nat) (Nm:List (List UInt8)) (L:List Qy) (i:Nat) (v),i<=W.length->Nm.length<=i->L.length<=i->letsL W E k Nm L i=.ok v->i<=v.2/\v.2<=W.length/\v.1.2.length<=v.2/\v.1.1.length<=v.2
 | 0,Nm,L,i,v,e,l,m,h=>by unfold letsL at h;cases h;exact⟨ou _,e,l,m⟩
 | k+1,Nm,L,i,v,e,l,m,h=>by unfold letsL at h;split at h;obtain⟨a,q,h⟩:=Qdy h;obtain⟨j,t,h⟩:=Qdy h;obtain⟨c,r,h⟩:=Qdy h;obtain⟨w,p,h⟩:=Qdy h;obtain⟨a1,a2,_⟩:=Qxy q;obtain⟨rfl,u⟩:=Qf1 oc t;have g:=Qvt _ _ r;obtain⟨rfl,c2⟩:=Qf1 oc p;have:=Q7t k _ _ _ v om oh oh h;omega;cases h;exact⟨ou _,e,l,m⟩
theorem Q7u{Nm}:∀(k:Nat) (O:List (List Qd)) (i:Nat) (v),i<=W.length->O.length<=i->outsL W E Nm k O i=.ok v->i<=v.2/\v.2<=W.length/\v.1.length<=v.2
 | 0,O,i,v,a,e,h=>by unfold outsL at h;cases h;exact⟨ou _,a,e⟩
 | k+1,O,i,v,a,e,h=>by unfold outsL at h;split at h;obtain⟨c,j,h⟩:=Qdy h;have g:=Qvt _ _ j;have:=Q7u k _ _ v om oh h;omega;cases h;exact⟨ou _,a,e⟩
theorem Q12{Nm:List (List UInt8)}{n:Nat}(hW:WOk W)(hn:big+100<=n)(i:Nat)(hi:i<=W.length):Jz n W (i:Int) E 0 Nm=cvP (outP W E 0 Nm) (ex0 W E Nm i):=Jdy hW 40 n om om i hi
def outF(W:List Qg)(E:Int)(v:(Qt×List (List UInt8))×Nat):Qt×List Qg×Int×Int×Int×List (List UInt8):=(v.1.1,W,(v.2:Int),E,0,v.1.2)
abbrev PLt:=(List Qg)×Int×Int×Int×(List (List UInt8))×(List Qy)
abbrev POt:=(List Qg)×Int×Int×Int×(List (List UInt8))×(List (List Qd))
abbrev PFR:=Except Qc (Qt×List Qg×Int×Int×Int×List (List UInt8))
def pLtF(n:Nat):PLt->Option (Lp PLt (Lp PLt PFR)):=λ(a:(List Qg)×Int×Int×Int×(List (List UInt8))×(List Qy))=>
    (Q8 a.1 a.2.1 a.2.2.1 a.2.2.2.1 a.2.2.2.2.1 ([108,101,116]:List UInt8)).bind λg=>
    bif g.1 then (
     (Wi g.2.1 g.2.2.1 g.2.2.2.1 g.2.2.2.2 a.2.2.2.2.1).bind (exK (λe=>
      some (Lp.out (Lp.out (Except.error e)))) λk=>
     (Jj k.2.1 k.2.2.1 k.2.2.2.1 k.2.2.2.2 a.2.2.2.2.1 ([61]:List UInt8)).bind (exK (λe=>
      some (Lp.out (Lp.out (Except.error e)))) λl=>
     (Jz n l.1 l.2.1 l.2.2.1 l.2.2.2 a.2.2.2.2.1).bind (exK (λe=>
      some (Lp.out (Lp.out (Except.error e)))) λj=>
     (appM 40 a.2.2.2.2.2 ([(⟨k.1,j.1⟩:Qy)]:List Qy)).bind λp=>
     (Jj j.2.1 j.2.2.1 j.2.2.2.1 j.2.2.2.2.1 j.2.2.2.2.2 ([59]:List UInt8)).bind (exK (λe=>
      some (Lp.out (Lp.out (Except.error e)))) λm=>
     (appM 16 j.2.2.2.2.2 ([k.1]:List (List UInt8))).bind λq=>
     some (Lp.go (m.1,m.2.1,m.2.2.1,m.2.2.2,q,p)))))))
    else (
     some (Lp.out (Lp.go (g.2.1,g.2.2.1,g.2.2.2.1,g.2.2.2.2,a.2.2.2.2.1,a.2.2.2.2.2))))
def pOtF(n:Nat):POt->Option (Lp POt (Lp POt PFR)):=λ(g:(List Qg)×Int×Int×Int×(List (List UInt8))×(List (List Qd)))=>
    (Q8 g.1 g.2.1 g.2.2.1 g.2.2.2.1 g.2.2.2.2.1 ([44]:List UInt8)).bind λa=>
    bif a.1 then (
     (Jz n a.2.1 a.2.2.1 a.2.2.2.1 a.2.2.2.2 g.2.2.2.2.1).bind (exK (λe=>
      some (Lp.out (Lp.out (Except.error e)))) λj=>
     (appM 24 g.2.2.2.2.2 ([j.1]:List (List Qd))).bind λk=>
     some (Lp.go (j.2.1,j.2.2.1,j.2.2.2.1,j.2.2.2.2.1,j.2.2.2.2.2,k))))
    else (
     some (Lp.out (Lp.go (a.2.1,a.2.2.1,a.2.2.2.1,a.2.2.2.2,g.2.2.2.2.1,g.2.2.2.2.2))))
def pTl(n:Nat)(a:PLt):Option PFR:=
 (Jj a.1 a.2.1 a.2.2.1 a.2.2.2.1 a.2.2.2.2.1 ([91]:List UInt8)).bind (exK (λe=>
  some (Except.error e)) λk=>
 (Jz n k.1 k.2.1 k.2.2.1 k.2.2.2 a.2.2.2.2.1).bind (exK (λe=>
  some (Except.error e)) λj=>
 (appM 24 ([]:List (List Qd)) ([j.1]:List (List Qd))).bind λm=>
 (loopM (pOtF n) n (j.2.1,j.2.2.1,j.2.2.2.1,j.2.2.2.2.1,j.2.2.2.2.2,m)).bind (lpK λ(g:(List Qg)×Int×Int×Int×(List (List UInt8))×(List (List Qd)))=>
 (Jj g.1 g.2.1 g.2.2.1 g.2.2.2.1 g.2.2.2.2.1 ([93]:List UInt8)).bind (exK (λe=>
  some (Except.error e)) λl=>
 some (Except.ok ((⟨a.2.2.2.2.2,g.2.2.2.2.2⟩:Qt),l.1,l.2.1,l.2.2.1,l.2.2.2,g.2.2.2.2.1))))))
theorem Jbk(n:Nat)(W I E d Nm):Xs n W I E d Nm=(loopM (pLtF n) n (W,I,E,d,Nm,([]:List Qy))).bind (lpK (pTl n)):=by unfold Xs pLtF pTl pOtF;rfl
def lpP{α σ τ:Type}(f:α->σ):Except Int α->Option (Lp σ (Except Qc τ))
 | .ok v=>some (.go (f v))
 | .error q=>some (.out (.error (flt q)))
theorem Jka(hW:WOk W){n:Nat}(hn:big+100<=n):∀(k m i:Nat) (Nm:List (List UInt8)) (L:List Qy),i<=W.length->Nm.length<=i->L.length<=i->W.length - i<=k->W.length - i<m ->
 loopM (pLtF n) m (W,(i:Int),E,0,Nm,L)=lpP (λv:(List Qy×List (List UInt8))×Nat=>(W,(v.2:Int),E,0,v.1.2,v.1.1)) (letsL W E k Nm L i):=by
 have C:=hW.1;intro k
 induction k with
 | zero=>
   intro m i Nm L hi hN B hk G;have l:(nxW W i).Av≠[108,101,116]:=λe=>by have:=nx_lt oc e;omega
   unfold letsL lpP;exact Kv (by unfold pLtF;simp only[Xz (show i<=100000 by omega),sbind,ol l,bifF,oi l]) om
 | succ k H=>
   intro m i Nm L hi hN B hk G;obtain⟨m,rfl⟩:∃ q,m=q+1:=⟨m - 1,om⟩
   unfold letsL;by_cases l:(nxW W i).Av=[108,101,116]
   have F:=nx_lt oc l;rw[oj l]
   have hstep:pLtF n (W,(i:Int),E,0,Nm,L)=(Wi W ((i+1:Nat):Int) E 0 Nm).bind (exK (λe=>
    some (Lp.out (Lp.out (Except.error e)))) λg=>
   (Jj g.2.1 g.2.2.1 g.2.2.2.1 g.2.2.2.2 Nm ([61]:List UInt8)).bind (exK (λe=>
    some (Lp.out (Lp.out (Except.error e)))) λp=>
   (Jz n p.1 p.2.1 p.2.2.1 p.2.2.2 Nm).bind (exK (λe=>
    some (Lp.out (Lp.out (Except.error e)))) λa=>
   (appM 40 L ([(⟨g.1,a.1⟩:Qy)]:List Qy)).bind λy=>
   (Jj a.2.1 a.2.2.1 a.2.2.2.1 a.2.2.2.2.1 a.2.2.2.2.2 ([59]:List UInt8)).bind (exK (λe=>
    some (Lp.out (Lp.out (Except.error e)))) λr=>
   (appM 16 a.2.2.2.2.2 ([g.1]:List (List UInt8))).bind λA=>
   some (Lp.go (r.1,r.2.1,r.2.2.1,r.2.2.2,A,y)))))):=by unfold pLtF;simp only[Xz (show i<=100000 by omega),sbind,oq l,bifT,oj l]
   rw[Q23 om] at hstep;cases t:nameS W E (i+1) with
   | error q=>
     rw[t,Ji,Vj] at hstep;rw[Wt];exact Kv hstep om
   | ok v=>
     obtain⟨g1,I,_⟩:=Qxy t;rw[t,Kn,Xl] at hstep;simp only[] at hstep;rw[Qia om] at hstep;rw[J8];cases u:needS W E [61] v.2 with
     | error q=>
       rw[u,Ji,Vj] at hstep;rw[Wt];exact Kv hstep om
     | ok j=>
       obtain⟨rfl,g3⟩:=Qf1 oc u;rw[u,Kn,Xl] at hstep;simp only[] at hstep;rw[Q12 hW hn _ om] at hstep;rw[J8];cases w:ex0 W E Nm (v.2+1) with
       | error q=>
         rw[w,Ji,Vj] at hstep;rw[Wt];exact Kv hstep om
       | ok c=>
         have g4:=Qvt _ _ w;rw[w,Kn,Xl] at hstep;simp only[outP] at hstep;rw[Jk oh oh,sbind,Qia om] at hstep;rw[J8];cases x:needS W E [59] c.2 with
         | error q=>
           rw[x,Ji,Vj] at hstep;rw[Wt];exact Kv hstep om
         | ok j=>
           obtain⟨rfl,J⟩:=Qf1 oc x;rw[x,Kn,Xl,Jk oh oh,sbind] at hstep;rw[J8,Qaw hstep];exact H m (c.2+1) _ _ om oh oh om om
   rw[oi l];exact Kv (by unfold pLtF;simp only[Xz (show i<=100000 by omega),sbind,ol l,bifF,oi l]) om
theorem Jkb(hW:WOk W){n:Nat}(hn:big+100<=n){Nm:List (List UInt8)}:∀(k m i:Nat) (O:List (List Qd)),i<=W.length->O.length<=i->W.length - i<=k->W.length - i<m ->
 loopM (pOtF n) m (W,(i:Int),E,0,Nm,O)=lpP (λv:List (List Qd)×Nat=>(W,(v.2:Int),E,0,Nm,v.1)) (outsL W E Nm k O i):=by
 have p:=hW.1;intro k
 induction k with
 | zero=>
   intro m i O hi l hk t;have a:(nxW W i).Av≠[44]:=λe=>by have:=nx_lt oc e;omega
   unfold outsL lpP;exact Kv (by unfold pOtF;simp only[Xz (show i<=100000 by omega),sbind,ol a,bifF,oi a]) om
 | succ k u=>
   intro m i O hi l hk t;obtain⟨m,rfl⟩:∃ q,m=q+1:=⟨m - 1,om⟩
   unfold outsL;by_cases a:(nxW W i).Av=[44]
   have r:=nx_lt oc a;rw[oj a];have g:=Q12 (E:=E) (Nm:=Nm) hW hn (i+1) om;cases j:ex0 W E Nm (i+1) with
   | error q=>
     rw[j,Ji] at g;rw[Wt];exact Kv (by unfold pOtF;simp only[Xz (show i<=100000 by omega),sbind,oq a,bifT,oj a,g,Q10]) om
   | ok c=>
     have g4:=Qvt _ _ j;rw[j,Kn] at g;rw[J8,Qaw (s':=(W,(c.2:Int),E,0,Nm,O++[c.1]))];exact u m c.2 _ om oh om om;unfold pOtF;simp only[Xz (show i<=100000 by omega),sbind,oq a,bifT,oj a,g,Q7q,outP];rw[Jk oh oh,sbind]
   rw[oi a];exact Kv (by unfold pOtF;simp only[Xz (show i<=100000 by omega),sbind,ol a,bifF,oi a]) om
theorem Jhq(hW:WOk W){n:Nat}(hn:big+100<=n):Xs n W 0 E 0 []=cvP (outF W E) (fieldS W E):=by
 have m:=hW.1;have e:100000<n:=by unfold big at hn;omega
 rw[Jbk,show((0:Int))=((0:Nat):Int) by rfl,show loopM (pLtF n) n (W,((0:Nat):Int),E,((0:Nat):Int),([]:List (List UInt8)),([]:List Qy))=_ from Jka hW hn W.length n 0 [] [] (xl _) (ou _) (ou _) om om];unfold fieldS;cases h0:letsL W E W.length [] [] 0 with
 | error q=>rw[Wt];rfl
 | ok a=>
   have g0:=Q7t _ _ _ _ _ (xl _) (ou _) (ou _) h0;rw[J8];show(some (Lp.go (W,(a.2:Int),E,(0:Int),a.1.2,a.1.1))).bind (lpK (pTl n))=_;rw[sbind,K7];unfold pTl;simp only[];rw[Qia om];cases g:needS W E [91] a.2 with
   | error q=>rw[Ji,Vj,Wt,Ji]
   | ok j=>
     obtain⟨rfl,g1⟩:=Qf1 oc g;rw[Kn,Xl,J8];simp only[];rw[Q12 hW hn _ om];cases k:ex0 W E a.1.2 (a.2+1) with
     | error q=>rw[Ji,Vj,Wt,Ji]
     | ok c=>
       have p:=Qvt _ _ k;rw[Kn,Xl,J8];simp only[outP];rw[Jk oc oc,sbind,xf,Jkb hW hn W.length n c.2 [c.1] om oh om om];cases l:outsL W E a.1.2 W.length [c.1] c.2 with
       | error q=>rw[Wt,Ji];rfl
       | ok b=>
         have g3:=Q7u _ _ _ _ om oh l;rw[J8];show(some (Lp.go (W,(b.2:Int),E,(0:Int),a.1.2,b.1))).bind (lpK _)=_;rw[sbind,K7];simp only[];rw[Qia om];cases r:needS W E [93] b.2 with
         | error q=>rw[Ji,Vj,Wt,Ji]
         | ok j=>rw[Kn,Xl,J8,Kn];rfl
theorem Jkc{d:Int}{Nm:List (List UInt8)}{i:Nat}:Zl W (i:Int) E d Nm=cvP (λ_:Unit=>()) (if i<W.length then .error (nxA W E i) else .ok ()):=by unfold Zl;rw[bifd];by_cases h:i<W.length;rw[oj om,oj h,Qh9,Vj,Ji];rw[oi om,oi h,Kn]
end
def parseS(s:List UInt8):Except Int Qt:=
 if 4000<s.length then .error 4000 else match scanS s 0 with
 | .inr p=>.error (p:Int)
 | .inl a=>ebd (fieldS (a.map toX) (s.length:Int)) λv=>if v.2<a.length then .error (nxA (a.map toX) (s.length:Int) v.2) else .ok v.1.1
theorem Qv8:∀(m:Nat) (s:List UInt8) (i:Nat) (e),s.length<=m->scanS s i=.inl e->e.length<=s.length/\∀ w∈e,0<=w.At/\wdB w.Aw w.Av=true
 | _,[],i,e,_,h=>by rw[Qp1] at h;cases h;simp
 | 0,_::_,_,_,h,_=>by simp at h
 | m+1,c::r,i,e,t,h=>by
   rw[Qis] at h;simp only[oo] at t |-;split at h;have:=Qv8 m r _ e om h;exact⟨om,this.2⟩;split at h;have y:=Qfj (λb:UInt8=>decide (b.toNat≠10)) r;have:=Qv8 m _ _ e om h;exact⟨om,this.2⟩;split at h;cases h;rename_i j;split at h;cases h;rename_i hmost;cases hr:scanS (r.drop (tailK (kindC c.toNat) r).length) (i+1+(tailK (kindC c.toNat) r).length) with
   | inr p=>rw[hr] at h;cases h
   | inl q=>
     rw[hr] at h;cases h;have:=Qv8 m _ _ q oh hr;refine⟨by simp at this |-;omega,λw k=>?_⟩;rcases xc.1 k with rfl | k;refine⟨we _,(Qc1 _ _ _).2 ⟨j,rfl,?_,by show _<=mostC (kindC c.toNat);omega⟩⟩;refine ug.2 λb a=>?_;have g:b∈r.takeWhile (λb=>goC (kindC c.toNat) b.toNat):=a;have key:∀(l:List UInt8) (p:UInt8->Bool),∀ b∈l.takeWhile p,p b=true:=by
      intro l p
      induction l with
      | nil=>intro b a;simp at a
      | cons x l v=>
        intro b a;rw[yf] at a;split at a;rename_i u;rcases xc.1 a with rfl | a;exact u;exact v b a;simp at a
     exact key _ _ b g;exact this.2 w k
theorem Q7v{s:List UInt8}{e:List Vl}(hs:s.length<=4000)(h:scanS s 0=.inl e):VOk e (s.length:Int):=by have:=Qv8 _ s 0 e (ou _) h;refine⟨⟨by rw[Q95];omega,λw a=>?_⟩,we _,λw a=>(this.2 w a).1⟩;obtain⟨v,g,rfl⟩:=xy.1 a;exact(this.2 v g).2
def okF{α:Type}(z:α):Except Int α->α×Qc
 | .ok f=>(f,⟨0,0,0,0⟩)
 | .error q=>(z,flt q)
theorem Q96(p:Int):Qr (flt p) ⟨0,0,0,0⟩=false:=by unfold Qr flt;simp
theorem Q7w:Qr ⟨0,0,0,0⟩ ⟨0,0,0,0⟩=true:=by unfold Qr;simp
theorem Qxz{n:Nat}{s:List UInt8}(hn:big+100<=n)(e:s.length<=9223372036854775807):Qgh n s=some (okF ⟨[],[]⟩ (parseS s)):=by
 unfold Qgh Qjt parseS;rw[Q4a om e,sbind,Jk oc oc,sbind,sbind];simp only[yv];by_cases hs:4000<s.length;rw[oj hs,oj hs,Q96];rfl;rw[oi hs,oi hs];cases h:scanS s 0 with
 | inr p=>simp only[lexR];rw[Q96];rfl
 | inl g=>
   have j:=Q7v om h;simp only[lexR,xf];rw[Q7w,show(!true)=false by rfl,bifF,Jhq j.1 hn];cases hf:fieldS (g.map toX) (s.length:Int) with
   | error q=>rw[Ji,Vj,Wt];rfl
   | ok v=>
     rw[Kn,Xl,J8];simp only[outF];rw[Jkc,Q95];by_cases a:v.2<g.length;rw[oj a,oj a,Ji,Vj];rfl;rw[oi a,oi a,Kn,Xl];rfl
def nbk(p:List UInt8):Bool:=decide (p≠[32]/\p≠[10])
def sepP:List (List UInt8)->Prop
 | []=>True
 | q::_=>∃ c t,q=c::t/\goC 1 c.toNat=false/\goC 2 c.toNat=false
def okP:List (List UInt8)->Prop
 | []=>True
 | p::r=>okP r/\((p=[32]\/p=[10])\/∃ k,wdB k p=true/\(k=3\/sepP r))
theorem Jhr{k:Int}{r:List (List UInt8)}(h:k=3\/sepP r):(r.flatten).takeWhile (λb=>goC k b.toNat)=[]:=by
 have key:∀ c:UInt8,(goC 1 c.toNat=false/\goC 2 c.toNat=false\/k=3)->goC k c.toNat=false:=by intro c g;unfold goC at g |-;rcases g with ⟨a,e⟩ | rfl;simp at a e |-;by_cases k1:k=1;subst k1;simp[a];by_cases k2:k=2;subst k2;simp[e];simp[k1,k2];simp
 rcases h with h | h;cases hf:r.flatten with
 | nil=>rfl
 | cons c t=>rw[yf,key c (.inr h)];rfl
 cases r with
 | nil=>rfl
 | cons q r=>
   obtain⟨c,t,rfl,a,e⟩:=h;rw[uc,xd,yf,key c (.inl ⟨a,e⟩)];rfl
theorem Jdz{k:Int}{t R:List UInt8}(h:t.all (λb=>goC k b.toNat)=true)(a:R.takeWhile (λb=>goC k b.toNat)=[]):tailK k (t++R)=t:=by unfold tailK;rw[List.takeWhile_append_of_pos (λb e=>ug.1 h b e),a,yv]
theorem Qx0:∀(q:List (List UInt8)) (i:Nat),okP q->∃ g,scanS q.flatten i=.inl g/\g.map (·.Av)=q.filter nbk
 | [],i,_=>⟨[],by rw[List.flatten_nil,Qp1],rfl⟩
 | p::r,i,h=>by
   unfold okP at h;obtain⟨h0,j⟩:=h;rcases j with j | ⟨k,hk,hs⟩;obtain⟨g,l,m⟩:=Qx0 r (i+1) h0;refine⟨g,?_,?_⟩;rcases j with rfl | rfl<;>(rw[uc,xd,xf,Qis,oj oy,l]);rw[m,List.filter_cons];rcases j with rfl | rfl<;>rw[oi oy]
   cases p with
   | nil=>cases hk
   | cons c t=>
     obtain⟨w1,a,y,A⟩:=(Qc1 k c t).1 hk;obtain⟨g1,u⟩:=Jfd (c:=c.toNat) (by rw[a];exact w1);obtain⟨g,l,m⟩:=Qx0 r (i+1+t.length) h0;have v:=Jdz (R:=r.flatten) y (Jhr hs);refine⟨⟨k,c::t,(i:Int)⟩::g,?_,?_⟩;rw[uc,xd,Qis,oi (by rw[g1];decide),oi u,a,oi w1,v,oi om,List.drop_left,l];rfl;rw[xw,m,List.filter_cons,oj];have w:c::t≠[32]:=λe=>by rw[List.cons.injEq] at e;rw[e.1] at a;exact w1 (a.symm.trans oy)
     have x:c::t≠[10]:=λe=>by rw[List.cons.injEq] at e;rw[e.1] at a;exact w1 (a.symm.trans oy)
     unfold nbk;exact oq ⟨w,x⟩
theorem Qic(a b:List (List UInt8)):(a++b).filter nbk=a.filter nbk++b.filter nbk:=List.filter_append ..
theorem Q7x{k:Int}{p:List UInt8}(h:wdB k p=true):nbk p=true:=by
 unfold nbk
 have key:∀ c:UInt8,(0:Int)=kindC c.toNat->p≠[c]:=λc a e=>by subst e;obtain⟨w1,g,_⟩:=(Qc1 k _ _).1 h;exact w1 (g.symm.trans a.symm)
 exact oq ⟨key 32 oy,key 10 oy⟩
def inP(a:List (List UInt8))(r least:Int):List (List UInt8):=if r<least then [40]::(a++[[41]]) else a
def itP(i:Int):List (List UInt8):=if i<0 then [[45],dec i.natAbs] else [dec i.natAbs]
def lfP(Nm:List (List UInt8))(x:Qd):List (List UInt8):=
 if x.Op=1 then [dec (val x.N)] else if x.Op=3 then [[121],[91],dec x.I.natAbs,[93]] else if x.Op=4 then [[112],[91],dec x.I.natAbs,[93]] else if x.Op=5 then [Nm.getD x.I.toNat []] else [[116]]
def pcs(Nm:List (List UInt8)):Ex->List (List UInt8)
 | .lf x=>lfP Nm x
 | .un x a=>if x.Op=6 then [45]::inP (pcs Nm a) (rkI (rtE a).Op) 3 else inP (pcs Nm a) (rkI (rtE a).Op) 5++([94]::itP x.I)
 | .bi x a b=>inP (pcs Nm a) (rkI (rtE a).Op) (rkI x.Op)++([32]::sgS x.Op::[32]::inP (pcs Nm b) (rkI (rtE b).Op) (rkI x.Op+1))
theorem Qqz{x:Int}(h:0<=x):Lib.itoa x=dec x.natAbs:=by
 obtain⟨k,rfl⟩:∃ k:Nat,x=k:=⟨x.toNat,om⟩
 rw[Q63];rfl
theorem Q13(a:List (List UInt8))(r k:Int):(inP a r k).flatten=inB a.flatten r k:=by unfold inP inB;split<;>simp
theorem Jhs(x:Int):(itP x).flatten=Lib.itoa x:=by unfold itP;by_cases h:x<0;rw[oj h,Q2v h];simp;rw[oi h,Qqz om];simp
theorem Qj9{Nm:List (List UInt8)}:∀(e:Ex),okE (Nm.length:Int) e->(pcs Nm e).flatten=wrS Nm e
 | .lf x,h=>by have k:=h.1;unfold wf at k;unfold pcs wrS lfP lfS;rcases lf_ok k (h.2 x (by simp[fl])).1 with ⟨e,_⟩ | ⟨e,_⟩ | ⟨e,j,_⟩ | ⟨e,j,_⟩ | ⟨e,_⟩;rw[oj e,oj e];simp;simp[e];rw[oi om,oj e,oi om,oj e,Qqz j];simp;rw[oi om,oi om,oj e,oi om,oi om,oj e,Qqz j];simp;rw[oi om,oi om,oi om,oj e,oi om,oi om,oi om,oj e];simp
 | .un x a,h=>by obtain⟨_,g,_⟩:=Qo3 h;unfold pcs wrS;split;rw[uc,Q13,Qj9 a g];rw[ut,uc,Q13,Qj9 a g,Jhs,xx]
 | .bi x a b,h=>by obtain⟨_,g,l,_⟩:=Qo4 h;unfold pcs wrS;simp only[ut,uc,Q13,Qj9 a g,Qj9 b l,xx]
def NmOk(Nm:List (List UInt8)):Prop:=∀ s∈Nm,nameOk s=true
theorem Qkk{s:List UInt8}(h:nameOk s=true):wdB 2 s=true:=by unfold nameOk at h;simp only[ya] at h;exact h.1
theorem Jd0{v:Nat}(h:(dec v).length<=60):wdB 1 (dec v)=true:=by
 have a:=Qg1 (n:=v);cases hd:dec v with
 | nil=>
   exfalso;by_cases h0:v=0;subst h0;cases hd;have:=Jc5 (s:=dec v) a;rw[Qrp h0] at hd;have j:=ur List.length hd;rw[List.length_reverse,Qcp h0] at j;simp at j
 | cons c t=>
   rw[hd] at a h;have g:∀ b∈c::t,digB b.toNat=true:=λb e=>oq (a b e);rw[Qc1];refine⟨oy,?_,?_,?_⟩;unfold kindC;rw[oj (g c (.head _))];rw[ug];intro b e;unfold goC;simp[g b (.tail _ e)];have:mostC 1=60:=oy
   rw[this];simpa using h
theorem Qtf{v:Nat}(h:v<10):wdB 1 (dec v)=true:=Jd0 (by rw[Qf0 h];simp)
theorem sep_c{c:UInt8}{t:List UInt8}{r:List (List UInt8)}(a:goC 1 c.toNat=false)(e:goC 2 c.toNat=false):sepP ((c::t)::r):=⟨c,t,rfl,a,e⟩
theorem okP_c{c:UInt8}{r:List (List UInt8)}(h:okP r)(a:wdB 3 [c]=true):okP ([c]::r):=⟨h,.inr ⟨3,a,.inl rfl⟩⟩
theorem okP_b{r:List (List UInt8)}(h:okP r):okP ([32]::r):=⟨h,.inl (.inl rfl)⟩
theorem okP_w{k:Int}{p:List UInt8}{r:List (List UInt8)}(h:okP r)(hk:wdB k p=true)(hs:sepP r):okP (p::r):=⟨h,.inr ⟨k,hk,.inr hs⟩⟩
theorem Qz6{e rest:List (List UInt8)}{r k:Int}(h:okP rest)(hs:sepP rest)(a:∀ rest,okP rest->sepP rest->okP (e++rest)):okP (inP e r k++rest):=by unfold inP;split;rw[xd,xx];exact okP_c (a _ (okP_c h oy) (sep_c oy oy)) oy;exact a rest h hs
theorem Jkd{x:Int}{rest:List (List UInt8)}(a:-8<=x)(e:x<=8)(h:okP rest)(hs:sepP rest):okP (itP x++rest):=by unfold itP;split;exact okP_c (okP_w h (Qtf om) hs) oy;exact okP_w h (Qtf om) hs
theorem Jd1{op:Int}:wdB 3 (sgS op)=true:=by unfold sgS;(repeat' split)<;>decide
theorem Ql8{Nm:List (List UInt8)}(hN:NmOk Nm):∀(e:Ex),okE (Nm.length:Int) e->∀ rest,okP rest->sepP rest->okP (pcs Nm e++rest)
 | .lf x,h,rest,hr,hs=>by
   have p:=h.1;unfold wf at p;unfold pcs lfP;rcases lf_ok p (h.2 x (by simp[fl])).1 with ⟨e,_,_,l⟩ | ⟨e,_⟩ | ⟨e,j,g,_⟩ | ⟨e,j,g,_⟩ | ⟨e,j,g,_⟩;rw[oj e];exact okP_w hr (Jd0 l) hs;rw[oi om,oi om,oi om,oi om];exact okP_w (k:=2) hr oy hs;rw[oi om,oj e];exact okP_w (k:=2) (okP_c (okP_w (okP_c hr oy) (Qtf om) (sep_c oy oy)) oy) oy (sep_c oy oy);rw[oi om,oi om,oj e];exact okP_w (k:=2) (okP_c (okP_w (okP_c hr oy) (Qtf om) (sep_c oy oy)) oy) oy (sep_c oy oy);rw[oi om,oi om,oi om,oj e];have l:x.I.toNat<Nm.length:=om
   rw[yz,ot l];exact okP_w hr (Qkk (hN _ (yu l))) hs
 | .un x a,h,rest,hr,hs=>by obtain⟨j,g,m,_⟩:=Qo3 h;unfold pcs;rcases un_ok j m with ⟨e,_⟩ | ⟨e,q,r,_⟩;rw[oj e,xd];exact okP_c (Qz6 hr hs (Ql8 hN a g)) oy;rw[oi om,xx];exact Qz6 (okP_c (Jkd q r hr hs) oy) (sep_c oy oy) (Ql8 hN a g)
 | .bi x a b,h,rest,hr,hs=>by obtain⟨j,g,m,_⟩:=Qo4 h;unfold pcs;rw[xx,xd,xd,xd];exact Qz6 (okP_b ⟨okP_b (Qz6 hr hs (Ql8 hN b m)),.inr ⟨3,Jd1,.inl rfl⟩⟩) (sep_c oy oy) (Ql8 hN a g)
def tk(Nm:List (List UInt8))(e:Ex):List (List UInt8):=(pcs Nm e).filter nbk
def Pre(W:List Qg)(i:Nat)(T:List (List UInt8)):Prop:=∃ R,(W.drop i).map (·.Av)=T++R
theorem Va{W:List Qg}{i:Nat}{a:List UInt8}{T:List (List UInt8)}(h:Pre W i (a::T)):i<W.length/\(nxW W i).Av=a/\Pre W (i+1) T:=by
 obtain⟨R,e⟩:=h;have hi:i<W.length:=by rcases xh i W.length with h | h;exact h;rw[gn h] at e;cases e
 rw[xi hi,xw,xd,List.cons.injEq] at e;exact⟨hi,by unfold nxW;rw[ot hi];exact e.1,R,e.2⟩
theorem Qiu{W:List Qg}:∀ {A B:List (List UInt8)}{i:Nat},Pre W i (A++B)->Pre W i A/\Pre W (i+A.length) B
 | [],B,i,h=>⟨⟨_,rfl⟩,h⟩
 | a::A,B,i,h=>by obtain⟨hi,e,g⟩:=Va h;obtain⟨j,k⟩:=Qiu g;refine⟨?_,by rw[oo,show i+(A.length+1)=i+1+A.length by omega];exact k⟩;obtain⟨R,l⟩:=j;refine⟨R,?_⟩;rw[xi hi,xw,l,xd];congr 1;unfold nxW at e;rw[ot hi] at e;exact e
theorem Y2{c:List UInt8}{r:List (List UInt8)}(h:nbk c=true):(c::r).filter nbk=c::r.filter nbk:=by rw[List.filter_cons,oj h]
theorem Qrx{r:List (List UInt8)}:([32]::r).filter nbk=r.filter nbk:=by rw[List.filter_cons,oi oy]
theorem Qv9(a:List (List UInt8))(r k:Int):(inP a r k).filter nbk=inP (a.filter nbk) r k:=by unfold inP;split;rw[Y2 oy,Qic];rfl;rfl
theorem Qry(v:Nat):nbk (dec v)=true:=by have a:=Qg1 (n:=v);unfold nbk;refine oq ⟨λe=>?_,λe=>?_⟩;rw[e] at a;have:=a _ (.head _);revert this;decide;rw[e] at a;have:=a _ (.head _);revert this;decide
theorem Jht(x:Int):(itP x).filter nbk=itP x:=by unfold itP;split;rw[Y2 oy,Y2 (Qry _)];rfl;rw[Y2 (Qry _)];rfl
theorem Jke{Nm x a}(h:x.Op=6):tk Nm (.un x a)=[45]::inP (tk Nm a) (rkI (rtE a).Op) 3:=by unfold tk;rw[pcs,oj h,Y2 oy,Qv9]
theorem Jhu{Nm x a}(h:x.Op=11):tk Nm (.un x a)=inP (tk Nm a) (rkI (rtE a).Op) 5++([94]::itP x.I):=by unfold tk;rw[pcs,oi om,Qic,Qv9,Y2 oy,Jht]
theorem tk_bi{Nm x a b}:tk Nm (.bi x a b)=inP (tk Nm a) (rkI (rtE a).Op) (rkI x.Op)++(sgS x.Op::inP (tk Nm b) (rkI (rtE b).Op) (rkI x.Op+1)):=by unfold tk;rw[pcs,Qic,Qv9,Qrx,Y2 (Q7x Jd1),Qrx,Qv9]
def lvW(l r k:Int):Int:=if r<k then 1+l else l
def lv:Ex->Int
 | .lf _=>0
 | .un x a=>if x.Op=6 then 1+lvW (lv a) (rkI (rtE a).Op) 3 else lvW (lv a) (rkI (rtE a).Op) 5
 | .bi x a b=>max (lvW (lv a) (rkI (rtE a).Op) (rkI x.Op)) (lvW (lv b) (rkI (rtE b).Op) (rkI x.Op+1))
theorem Qkl:∀ e,0<=lv e
 | .lf _=>gr _
 | .un x a=>by have:=Qkl a;unfold lv lvW;(repeat' split)<;>omega
 | .bi x a b=>by have:=Qkl a;have:=Qkl b;unfold lv lvW;(repeat' split)<;>omega
theorem rk_bi{x:Qd}(h:ar x.Op=2):(rkI x.Op=1/\(x.Op=7\/x.Op=8))\/(rkI x.Op=2/\(x.Op=9\/x.Op=10)):=by rcases ar2 h with h | h | h | h<;>rw[h]<;>unfold rkI<;>simp
theorem rk_un{x:Qd}(h:ar x.Op=1):(rkI x.Op=3/\x.Op=6)\/(rkI x.Op=4/\x.Op=11):=by rcases ar1 h with h | h<;>rw[h]<;>unfold rkI<;>simp
theorem rk_lf{x:Qd}(h:ar x.Op=0):rkI x.Op=5:=by rcases ar0 h with h | h | h | h | h<;>rw[h]<;>unfold rkI<;>simp
theorem Qz7:∀ e,wf e->lv e<=dep e - 1/\(rkI (rtE e).Op<=2->lv e<=dep e - 2)
 | .lf x,h=>by unfold wf at h;have:=rk_lf h;rw[show rtE (.lf x)=x from rfl];simp only[lv,dep];omega
 | .un x a,h=>by unfold wf at h;obtain⟨g,i2⟩:=Qz7 a h.2;have:=Q1l a;have r:=rk_un h.1;rw[show rtE (.un x a)=x from rfl];simp only[lv,dep,lvW];rcases r with ⟨r,e⟩ | ⟨r,e⟩;rw[oj e,r];refine⟨?_,λh=>om⟩;split<;>omega;rw[oi om,r];refine⟨?_,λh=>om⟩;split<;>omega
 | .bi x a b,h=>by
   unfold wf at h;obtain⟨g,i2⟩:=Qz7 a h.2.1;obtain⟨j,k⟩:=Qz7 b h.2.2;have:=Q1l a;have:=Q1l b;have r:=rk_bi h.1;rw[show rtE (.bi x a b)=x from rfl];simp only[lv,dep,lvW];have:max (if rkI (rtE a).Op<rkI x.Op then 1+lv a else lv a) (if rkI (rtE b).Op<rkI x.Op+1 then 1+lv b else lv b)<=max (max 0 (dep b)) (dep a) - 1:=by split<;>split<;>omega
   omega
section
variable {W:List Qg}{E:Int}{Nm:List (List UInt8)}(hW:WOk W)
include hW
theorem Qkm{i:Nat}{c:UInt8}{t:List UInt8}(hi:i<W.length)(h:(nxW W i).Av=c::t):(nxW W i).Aw=kindC c.toNat:=by have:=hW.2 _ (Q1y hi);rw[h] at this;exact((Qc1 _ _ _).1 this).2.1.symm
theorem Qtg{i v:Nat}(hi:i<W.length)(h:(nxW W i).Av=dec v):(nxW W i).Aw=1:=by
 have a:=Qg1 (n:=v);have e:=hW.2 _ (Q1y hi);cases hd:dec v with
 | nil=>rw[h,hd] at e;simp[wdB] at e
 | cons c t=>
   rw[hd] at h a;rw[Qkm hW hi h];have g:digB c.toNat=true:=oq (a c (.head _));unfold kindC;rw[oj g]
theorem Q25{i:Nat}{s:List UInt8}(hi:i<W.length)(h:(nxW W i).Av=s)(hs:nameOk s=true):(nxW W i).Aw=2:=by
 have a:=Qkk hs;cases s with
 | nil=>cases a
 | cons c t=>rw[Qkm hW hi h];exact((Qc1 _ _ _).1 a).2.1
omit hW in
theorem Q7y{v:Nat}{c:UInt8}(g:¬(48<=c.toNat/\c.toNat<=57)):dec v≠[c]:=λe=>by have a:=Qg1 (n:=v);rw[e] at a;exact g (a c (.head _))
omit hW in
theorem Jd2{s:List UInt8}{c:UInt8}(hs:nameOk s=true)(a:kindC c.toNat≠2):s≠[c]:=λe=>by rw[e] at hs;exact a ((Qc1 _ _ _).1 (Qkk hs)).2.1
def NmU(Nm:List (List UInt8)):Prop:=∀ i,i<Nm.length->fndS Nm (Nm.getD i []) 0=(i:Int)
theorem Q97{op:Int}{i:Nat}{v:Nat}{p:List UInt8}(h:Pre W i [p,[91],dec v,[93]])(m:v<10):compS W E op i=.ok ([⟨op,(v:Int),[]⟩],i+4):=by obtain⟨_,_,j⟩:=Va h;obtain⟨_,e,k⟩:=Va j;obtain⟨q,a,l⟩:=Va k;obtain⟨_,g,_⟩:=Va l;unfold compS needS smallS;rw[oj e,J8,oi (by rw[Qtg hW q a,a,Qf0 m];simp),J8];simp only[];rw[oj g,J8,a,Qfy]
def exR(W:List Qg)(E:Int)(Nm:List (List UInt8)):Nat->Nat->Prs
 | 0=>λ_=>.error 0
 | r+1=>exS W (factS W E Nm r)
omit hW in
theorem Q7z{r i:Nat}(h:(nxW W i).Av≠[45]):factS W E Nm r i=powS W E (atomS W E Nm r (exR W E Nm r)) i:=by
 cases r with
 | zero=>unfold factS;rw[oi h];rfl
 | succ r=>unfold factS;rw[oi h];rfl
theorem Q98{x:Qd}{r i:Nat}{ex:Nat->Prs}(hN:NmOk Nm)(hU:NmU Nm)(h:okE (Nm.length:Int) (.lf x))(j:Pre W i (tk Nm (.lf x))):
 atomS W E Nm r ex i=.ok ([x],i+(tk Nm (.lf x)).length)/\(nxW W i).Av≠[45]:=by
 have u:=h.1;unfold wf at u;obtain⟨w,y⟩:=h.2 x (by simp[fl]);obtain⟨Op,I,N⟩:=x;unfold tk pcs lfP at j |-;rcases lf_ok u w with ⟨e,l,k,t⟩ | ⟨e,l,k⟩ | ⟨e,m,p,k⟩ | ⟨e,m,p,k⟩ | ⟨e,m,p,k⟩;rw[oj e] at j |-;rw[Y2 (Qry _)] at j |-;obtain⟨hi,g,_⟩:=Va j;simp only[] at e l k g;unfold atomS;refine⟨?_,by rw[g];exact Q7y oy⟩;rw[oj (Qtg hW hi g),g,Qfy,Kq y.2,k,e,l];rfl;simp only[] at e l k;subst e l k;obtain⟨hi,g,_⟩:=Va (a:=[116]) (T:=[]) j;unfold atomS;refine⟨?_,by rw[g];decide⟩;rw[oi (by rw[Qkm hW hi g];decide),oj g];rfl;simp only[] at e k m p;subst e k;obtain⟨v,rfl⟩:∃ v:Nat,I=v:=⟨I.toNat,om⟩
 rw[oi oc,oj rfl] at j |-;rw[Y2 oy,Y2 oy,Y2 (Qry _),Y2 oy] at j |-;obtain⟨hi,g,_⟩:=Va j;unfold atomS;refine⟨?_,by rw[g];decide⟩;rw[oi (by rw[Qkm hW hi g];decide),oi (by rw[g];decide),oj g,Q97 (v:=v) hW j om];rfl;simp only[] at e k m p;subst e k;obtain⟨v,rfl⟩:∃ v:Nat,I=v:=⟨I.toNat,om⟩
 rw[oi oc,oi oc,oj rfl] at j |-;rw[Y2 oy,Y2 oy,Y2 (Qry _),Y2 oy] at j |-;obtain⟨hi,g,_⟩:=Va j;unfold atomS;refine⟨?_,by rw[g];decide⟩;rw[oi (by rw[Qkm hW hi g];decide),oi (by rw[g];decide),oi (by rw[g];decide),oj g,Q97 (v:=v) hW j om];rfl;simp only[] at e k m p;subst e k;obtain⟨v,rfl⟩:∃ v:Nat,I=v:=⟨I.toNat,om⟩
 rw[oi oc,oi oc,oi oc,oj rfl] at j |-;have t:v<Nm.length:=om
 have hs:nameOk (Nm.getD v [])=true:=by rw[yz,ot t];exact hN _ (yu t)
 simp only[ue] at j |-;rw[Y2 (Q7x (Qkk hs))] at j |-;obtain⟨hi,g,_⟩:=Va j;have hk:=Q25 hW hi g hs;have q:resB (Nm.getD v [])=false:=by unfold nameOk at hs;simp only[ya,xv] at hs;unfold resB;simp only[decide_eq_false_iff_not];rintro(h | h | h | h);exact hs.2.1 h;exact hs.2.2.1 h;exact hs.2.2.2.1 h;exact hs.2.2.2.2 h
 unfold atomS;refine⟨?_,by rw[g];exact Jd2 hs oy⟩;unfold nameOk at hs;simp only[ya,xv] at hs;rw[oi (by rw[hk];decide),oi (by rw[g];exact hs.2.1),oi (by rw[g];exact hs.2.2.1),oi (by rw[g];exact hs.2.2.2.1),oi (by rw[g];exact λh=>by rw[h] at hs;exact absurd hs.1 oy)];unfold nameS;rw[g,q,oi (by rw[hk];simp),J8];simp only[];rw[hU v t];rfl
end
section
variable {W:List Qg}{E:Int}{Nm:List (List UInt8)}
theorem Qml{p:Nat->Prs}{a b:List UInt8}{l ob:Int}{k:Nat}{c:List Qd}{j:Nat}(e:(nxW W j).Av≠a)(g:(nxW W j).Av≠b):chainL W p a b l ob k c j=.ok (c,j):=by
 cases k with
 | zero=>rfl
 | succ k=>unfold chainL;rw[oi e,oi g]
theorem Q70{p:Nat->Prs}{a b:List UInt8}{e ob:Int}{k:Nat}{c u:List Qd}{j g:Nat}(l:(nxW W j).Av=a)(m:p (j+1)=.ok (u,g)):chainL W p a b e ob (k+1) c j=chainL W p a b e ob k (c++u++[⟨e,0,[]⟩]) g:=by rw[chainL,oj l,m,J8]
theorem Q71{p:Nat->Prs}{a b:List UInt8}{m ob:Int}{k:Nat}{c u:List Qd}{j l:Nat}(e:b≠a)(g:(nxW W j).Av=b)(q:p (j+1)=.ok (u,l)):chainL W p a b m ob (k+1) c j=chainL W p a b m ob k (c++u++[⟨ob,0,[]⟩]) l:=by rw[chainL,oi (by rw[g];exact e),oj g,q,J8]
abbrev nt(W:List Qg)(j:Nat):List UInt8:=(nxW W j).Av
def FAo(W:List Qg)(E:Int)(Nm:List (List UInt8))(T:List (List UInt8))(c:List Qd)(r:Nat):Prop:=∀ i,Pre W i T->nt W (i+T.length)≠[94]->factS W E Nm r i=.ok (c,i+T.length)
def TEo(W:List Qg)(E:Int)(Nm:List (List UInt8))(T:List (List UInt8))(c:List Qd)(r:Nat):Prop:=∀ i,Pre W i T->nt W (i+T.length)≠[94] ->
 ∃ k,W.length<=k+T.length/\termS W (factS W E Nm r) i=chainL W (factS W E Nm r) [42] [47] 9 10 k c (i+T.length)
def EXo(W:List Qg)(E:Int)(Nm:List (List UInt8))(T:List (List UInt8))(c:List Qd)(r:Nat):Prop:=∀ i,Pre W i T->nt W (i+T.length)≠[94]->nt W (i+T.length)≠[42]->nt W (i+T.length)≠[47] ->
 ∃ k,W.length<=k+T.length/\exS W (factS W E Nm r) i=chainL W (termS W (factS W E Nm r)) [43] [45] 7 8 k c (i+T.length)
theorem Qo6{T c r}(h:FAo W E Nm T c r):TEo W E Nm T c r:=λi a hn=>⟨W.length,om,by unfold termS chainS;rw[h i a hn,J8]⟩
theorem Qx1{T c r}(h:TEo W E Nm T c r):EXo W E Nm T c r:=λi l a g j=>by obtain⟨k,_,e⟩:=h i l a;exact⟨W.length,om,by unfold exS;rw[chainS,e,Qml g j,J8]⟩
variable (hW:WOk W)
include hW
theorem Q99{T:List (List UInt8)}{c:List Qd}{r:Nat}(h:EXo W E Nm T c r){i:Nat}(p:Pre W i ([40]::(T++[[41]]))):
 atomS W E Nm (r+1) (exR W E Nm (r+1)) i=.ok (c,i+(T.length+2))/\nt W i=[40]:=by
 obtain⟨hi,g,j⟩:=Va p;obtain⟨l,m⟩:=Qiu j;obtain⟨_,a,_⟩:=Va m;refine⟨?_,g⟩;obtain⟨k,_,e⟩:=h (i+1) l (by unfold nt;rw[a];decide) (by unfold nt;rw[a];decide) (by unfold nt;rw[a];decide);rw[Qml (by rw[a];decide) (by rw[a];decide)] at e;rw[show exR W E Nm (r+1)=exS W (factS W E Nm r) from rfl];unfold atomS;rw[oi (by rw[Qkm hW hi g];decide),oi (by rw[g];decide),oi (by rw[g];decide),oi (by rw[g];decide),oj g,oi om,e,J8];unfold needS;simp only[];rw[oj a,J8,show i+1+T.length+1=i+(T.length+2) by omega]
omit hW in
theorem Q26{r i j:Nat}{c:List Qd}(h:atomS W E Nm r (exR W E Nm r) i=.ok (c,j))(a:nt W i≠[45])(e:nt W j≠[94]):factS W E Nm r i=.ok (c,j):=by rw[Q7z a,powS,h,J8,oi e]
theorem Jkf{r i j:Nat}{c:List Qd}{x:Int}(v:-8<=x)(u:x<=8)(h:atomS W E Nm r (exR W E Nm r) i=.ok (c,j))(k:nt W i≠[45])(t:Pre W j ([94]::itP x)):
 factS W E Nm r i=.ok (c++[⟨11,x,[]⟩],j+(1+(itP x).length)):=by
 obtain⟨_,q,e⟩:=Va t;rw[Q7z k,powS,h,J8];simp only[];rw[oj q];unfold itP at e |-;by_cases hn:x<0;rw[oj hn] at e |-;obtain⟨_,m,p⟩:=Va e;obtain⟨g,a,_⟩:=Va p;simp only[oj m];unfold smallS;rw[oi (by rw[Qtg hW g a,a,Qf0 om];simp),J8,a,Qfy];simp only[oo,xz];rw[show -((x.natAbs:Nat):Int)=x by omega];rw[oi hn] at e |-;obtain⟨g,a,_⟩:=Va e;have l:(nxW W (j+1)).Av≠[45]:=by rw[a];exact Q7y oy
 simp only[oi l];unfold smallS;rw[oi (by rw[Qtg hW g a,a,Qf0 om];simp),J8,a,Qfy];simp only[oo,xz];rw[show((x.natAbs:Nat):Int)=x by omega]
structure RdE(W:List Qg)(E:Int)(Nm:List (List UInt8))(e:Ex):Prop where
 ex:∀ r:Nat,lv e<=r->EXo W E Nm (tk Nm e) (fl e) r
 te:∀ r:Nat,lv e<=r->2<=rkI (rtE e).Op->TEo W E Nm (tk Nm e) (fl e) r
 fa:∀ r:Nat,lv e<=r->3<=rkI (rtE e).Op->FAo W E Nm (tk Nm e) (fl e) r
variable (hN:NmOk Nm) (hU:NmU Nm)
omit hW in
theorem rk5{e:Ex}(h:wf e)(g:5<=rkI (rtE e).Op):∃ x,e=.lf x:=by
 cases e with
 | lf x=>exact⟨x,rfl⟩
 | un x a=>unfold wf at h;have:=rk_un h.1;rw[show rtE (.un x a)=x from rfl] at g;omega
 | bi x a b=>unfold wf at h;have:=rk_bi h.1;rw[show rtE (.bi x a b)=x from rfl] at g;omega
include hN hU
theorem in5{e:Ex}(j:okE (Nm.length:Int) e)(h:RdE W E Nm e){r:Nat}(hr:lvW (lv e) (rkI (rtE e).Op) 5<=r){i:Nat}(a:Pre W i (inP (tk Nm e) (rkI (rtE e).Op) 5)):
 atomS W E Nm r (exR W E Nm r) i=.ok (fl e,i+(inP (tk Nm e) (rkI (rtE e).Op) 5).length)/\nt W i≠[45]:=by
 unfold lvW at hr;unfold inP at a |-;by_cases g:rkI (rtE e).Op<5;rw[oj g] at hr a |-;have:=Qkl e;obtain⟨q,rfl⟩:∃ q,r=q+1:=⟨r - 1,om⟩
 obtain⟨k,l⟩:=Q99 hW (h.ex q om) a;exact⟨by rw[k];simp,by rw[l];decide⟩;rw[oi g] at hr a |-;obtain⟨x,rfl⟩:=rk5 j.1 om;exact Q98 hW hN hU j a
omit hN hU in
theorem inF{e:Ex}(h:RdE W E Nm e){k:Int}(hk:k<=3)(p:rkI (rtE e).Op<k\/3<=rkI (rtE e).Op){r:Nat}(hr:lvW (lv e) (rkI (rtE e).Op) k<=r):FAo W E Nm (inP (tk Nm e) (rkI (rtE e).Op) k) (fl e) r:=by
 unfold lvW at hr;unfold inP;by_cases a:rkI (rtE e).Op<k;rw[oj a] at hr |-;have:=Qkl e;obtain⟨q,rfl⟩:∃ q,r=q+1:=⟨r - 1,om⟩
 intro i m hn;obtain⟨j,l⟩:=Q99 hW (h.ex q om) m;have g:i+([40]::(tk Nm e++[[41]])).length=i+((tk Nm e).length+2):=oc
 rw[g] at hn |-;exact Q26 j (by rw[l];decide) hn;rw[oi a] at hr |-;exact h.fa r hr om
omit hN hU in
theorem inT{e:Ex}(h:RdE W E Nm e){r:Nat}(hr:lvW (lv e) (rkI (rtE e).Op) 2<=r):TEo W E Nm (inP (tk Nm e) (rkI (rtE e).Op) 2) (fl e) r:=by by_cases a:rkI (rtE e).Op<2;exact Qo6 (inF hW h oy (.inl a) hr);unfold lvW at hr;unfold inP;rw[oi a] at hr |-;exact h.te r hr om
theorem Qz8:∀(e:Ex),okE (Nm.length:Int) e->RdE W E Nm e
 | .lf x,K=>by
   have fa:∀ r:Nat,FAo W E Nm (tk Nm (.lf x)) (fl (.lf x)) r:=λr i g hn=>by obtain⟨w,C⟩:=Q98 (r:=r) (ex:=exR W E Nm r) (E:=E) hW hN hU K g;exact Q26 w C hn
   exact⟨λr _=>Qx1 (Qo6 (fa r)),λr _ _=>Qo6 (fa r),λr _ _=>fa r⟩
 | .un x a,K=>by
   obtain⟨w,C,P,_⟩:=Qo3 K;have J:=Qz8 a C
   have fa:∀ r:Nat,lv (.un x a)<=r->FAo W E Nm (tk Nm (.un x a)) (fl (.un x a)) r:=λr hr i g hn=>by
    obtain⟨Op,I,N⟩:=x;rcases un_ok w P with ⟨e,u,j⟩ | ⟨e,u,j,R⟩;simp only[] at e u j;subst e u j;rw[lv,oj rfl] at hr;rw[Jke rfl] at g hn |-;obtain⟨hi,V,g⟩:=Va g;have X:0<=lvW (lv a) (rkI (rtE a).Op) 3:=by have:=Qkl a;unfold lvW;split<;>omega
    obtain⟨q,rfl⟩:∃ q,r=q+1:=⟨r - 1,om⟩
    rw[oo,show ∀ m,i+(m+1)=i+1+m by omega] at hn |-;have:=inF hW J (gr 3) om (r:=q) om (i+1) g hn;unfold factS;rw[oj V,this,J8];rfl;simp only[] at e u j R;subst e R;rw[lv,oi oc] at hr;rw[Jhu rfl] at g hn |-;obtain⟨L,M⟩:=Qiu g;obtain⟨g1,T⟩:=in5 hW hN hU C J hr L;rw[Jkf hW u j g1 T M];simp only[fl,ov,oo];rw[show ∀ m l,i+m+(1+l)=i+(m+(l+1)) by omega]
   have v:=rk_un w;exact⟨λr hr=>Qx1 (Qo6 (fa r hr)),λr hr _=>Qo6 (fa r hr),λr hr _=>fa r hr⟩
 | .bi x a b,K=>by
   obtain⟨w,C,O,P,_⟩:=Qo4 K;have J:=Qz8 a C;have S:=Qz8 b O;obtain⟨hI,H⟩:=bi_ok w P;obtain⟨Op,I,N⟩:=x;simp only[] at hI H;subst hI H;have Y:=Q7d (rtE a).Op;have Z:=Q7d (rtE b).Op;rcases rk_bi w with ⟨v,y⟩ | ⟨v,y⟩;simp only[] at v y
   have ex:∀ r:Nat,lv (.bi ⟨Op,0,[]⟩ a b)<=r->EXo W E Nm (tk Nm (.bi ⟨Op,0,[]⟩ a b)) (fl (.bi ⟨Op,0,[]⟩ a b)) r:=λr hr i g p F G=>by
    rw[lv] at hr;simp only[v] at hr;have A:lv a<=r:=by unfold lvW at hr;rw[oi om] at hr;omega
    have B:lvW (lv b) (rkI (rtE b).Op) 2<=r:=by rw[show(1:Int)+1=2 from rfl] at hr;omega
    rw[tk_bi] at g p F G |-;simp only[v] at g p F G |-;rw[show(1:Int)+1=2 from rfl] at g p F G |-;rw[show inP (tk Nm a) (rkI (rtE a).Op) 1=tk Nm a by unfold inP;rw[oi om]] at g p F G |-;obtain⟨L,M⟩:=Qiu g;obtain⟨U,hs,Q⟩:=Va M;have t:sgS Op≠[94]/\sgS Op≠[42]/\sgS Op≠[47]:=by rcases y with rfl | rfl<;>decide
    obtain⟨k,hk,u⟩:=J.ex r A i L (by unfold nt;rw[hs];exact t.1) (by unfold nt;rw[hs];exact t.2.1) (by unfold nt;rw[hs];exact t.2.2);have el:∀ l m:Nat,i+(l+(m+1))=i+l+1+m:=om
    rw[ov,oo,el] at p F G |-;obtain⟨k2,_,j⟩:=inT hW S B _ Q p;rw[Qml F G] at j;obtain⟨k,rfl⟩:∃ q,k=q+1:=⟨k - 1,om⟩
    refine⟨k,om,?_⟩;rw[u];rcases y with rfl | rfl;rw[Q70 (a:=[43]) hs j];simp only[fl,xx];rw[Q71 (b:=[45]) oy hs j];simp only[fl,xx]
   exact⟨ex,λr _ h=>by rw[show rtE (.bi ⟨Op,0,[]⟩ a b)=⟨Op,0,[]⟩ from rfl] at h;simp only[] at h;omega,λr _ h=>by rw[show rtE (.bi ⟨Op,0,[]⟩ a b)=⟨Op,0,[]⟩ from rfl] at h;simp only[] at h;omega⟩;simp only[] at v y
   have te:∀ r:Nat,lv (.bi ⟨Op,0,[]⟩ a b)<=r->TEo W E Nm (tk Nm (.bi ⟨Op,0,[]⟩ a b)) (fl (.bi ⟨Op,0,[]⟩ a b)) r:=λr hr i g p=>by
    rw[lv] at hr;simp only[v] at hr;have A:lvW (lv a) (rkI (rtE a).Op) 2<=r:=om
    have B:lvW (lv b) (rkI (rtE b).Op) 3<=r:=by rw[show(2:Int)+1=3 from rfl] at hr;omega
    rw[tk_bi] at g p |-;simp only[v] at g p |-;rw[show(2:Int)+1=3 from rfl] at g p |-;obtain⟨L,M⟩:=Qiu g;obtain⟨U,hs,Q⟩:=Va M;have t:sgS Op≠[94]:=by rcases y with rfl | rfl<;>decide
    obtain⟨k,hk,u⟩:=inT hW J A i L (by unfold nt;rw[hs];exact t);have el:∀ l m:Nat,i+(l+(m+1))=i+l+1+m:=om
    rw[ov,oo,el] at p |-;have j:=inF hW S (gr 3) om B _ Q p;obtain⟨k,rfl⟩:∃ q,k=q+1:=⟨k - 1,om⟩
    refine⟨k,om,?_⟩;rw[u];rcases y with rfl | rfl;rw[Q70 (a:=[42]) hs j];simp only[fl,xx];rw[Q71 (b:=[47]) oy hs j];simp only[fl,xx]
   exact⟨λr hr=>Qx1 (te r hr),λr hr _=>te r hr,λr _ h=>by rw[show rtE (.bi ⟨Op,0,[]⟩ a b)=⟨Op,0,[]⟩ from rfl] at h;simp only[] at h;omega⟩
theorem Q72{e:Ex}(a:okE (Nm.length:Int) e)(hd:dep e<=41){i:Nat}(j:Pre W i (tk Nm e))(h:∀ t∈[[94],[42],[47],[43],[45]],nt W (i+(tk Nm e).length)≠t):
 ex0 W E Nm i=.ok (fl e,i+(tk Nm e).length):=by
 have l:=(Qz7 e a.1).1;obtain⟨k,_,g⟩:=(Qz8 hW hN hU (E:=E) e a).ex 40 om i j (h _ oc) (h _ oc) (h _ oc);unfold ex0;rw[g,Qml (h _ oc) (h _ oc)]
end
noncomputable def lineP(Nm:List (List UInt8))(l:Qy):List (List UInt8):=[108,101,116]::[32]::l.As::[32]::[61]::[32]::(pcs Nm (tr l.Code)++[[59],[10]])
noncomputable def letsP:List (List UInt8)->List Qy->List (List UInt8)
 | _,[]=>[]
 | Nm,l::L=>lineP Nm l++letsP (Nm++[l.As]) L
noncomputable def oP(Nm:List (List UInt8)):List (List Qd)->List (List UInt8)
 | []=>[[93]]
 | c::O=>[44]::[32]::(pcs Nm (tr c)++oP Nm O)
noncomputable def osP(Nm:List (List UInt8)):List (List Qd)->List (List UInt8)
 | []=>[]
 | c::O=>[91]::(pcs Nm (tr c)++oP Nm O)
noncomputable def fP(f:Qt):List (List UInt8):=letsP [] f.Aq++osP (f.Aq.map (·.As)) f.Ar
def LOk:List (List UInt8)->List Qy->Prop
 | _,[]=>True
 | Nm,l::L=>(okE (Nm.length:Int) (tr l.Code)/\fl (tr l.Code)=l.Code/\dep (tr l.Code)<=40)/\nameOk l.As=true/\l.As ∉ Nm/\LOk (Nm++[l.As]) L
def OOk(k:Int)(O:List (List Qd)):Prop:=∀ c∈O,okE k (tr c)/\fl (tr c)=c/\dep (tr c)<=40
section
variable {f:Qt}(hS:Sml f) (hf:checkT f (f.Ar.length:Int) 6=f0)
include hS hf
theorem Jd3:∀(d i:Nat),i+d=f.Aq.length->LOk (nmS f.Aq i) (f.Aq.drop i)
 | 0,i,h=>by rw[gn om];trivial
 | d+1,i,h=>by have j:f.Aq[i]?=some f.Aq[i]:=ot om;obtain⟨a,b,c,e,g,_⟩:=Qo5 hS hf j;rw[xi om];refine⟨⟨a,b,c⟩,e,?_,?_⟩;intro k;obtain⟨m,k,l⟩:=xy.1 k;unfold twiceT at g;rw[j,List.any_eq_false] at g;exact g m k (by simp[l]);rw[<-Qxx j];exact Jd3 d (i+1) om
theorem Q27:∀(d i:Nat),i+d=f.Aq.length->ltS f.Aq i++(letsP (nmS f.Aq i) (f.Aq.drop i)).flatten=ltS f.Aq f.Aq.length
 | 0,i,h=>by rw[gn om,show i=f.Aq.length by omega];simp[letsP]
 | d+1,i,h=>by have e:f.Aq[i]?=some f.Aq[i]:=ot om;obtain⟨a,_⟩:=Qo5 hS hf e;rw[xi om,<-Q27 d (i+1) om,letsP,<-Qxx e];simp only[ltS,e,ut,<-xx];congr 2;unfold lineP lineS;simp only[uc,ut,Qj9 _ a,List.flatten_nil,yv,xx,xd,xf]
theorem Jd4:OOk ((f.Aq.map (·.As)).length:Int) f.Ar:=λc e=>by obtain⟨i,hi⟩:=ud e;obtain⟨a,b,d,_⟩:=Qta hS hf hi;exact⟨a,b,d⟩
end
theorem Jaa{Nm:List (List UInt8)}:∀(O:List (List Qd)),OOk (Nm.length:Int) O->(oP Nm O).flatten=Lib.joinTail [44,32] (osS Nm O)++[93]
 | [],_=>by simp[oP,osS,Lib.joinTail]
 | c::O,h=>by have e:=Jaa O λx a=>h x (.tail _ a);unfold oP;rw[uc,uc,ut,Qj9 _ (h c (.head _)).1,e];unfold osS Lib.joinTail;simp
theorem Jhv{f:Qt}(hS:Sml f)(hf:checkT f (f.Ar.length:Int) 6=f0):(fP f).flatten=fieldT f:=by
 have g:=Jd4 hS hf;obtain⟨e,_⟩:=Qa7.1 hf;unfold wholeT at e;simp only[xv] at e;have j:=Q27 hS hf f.Aq.length 0 om;rw[show nmS f.Aq 0=[] by simp[nmS],vv,show ltS f.Aq 0=[] from rfl,xf] at j;unfold fP fieldT;rw[ut,j];cases a:f.Ar with
 | nil=>rw[a] at e;simp at e
 | cons c O=>
   rw[a] at g;unfold osP;rw[uc,ut,Qj9 _ (g c (.head _)).1,Jaa O λx k=>g x (.tail _ k)];unfold osS;rw[xw,Lib.join_cons];simp
theorem Q73:∀(L:List Qy) (Nm:List (List UInt8)),NmOk Nm->LOk Nm L->∀ rest,okP rest->okP (letsP Nm L++rest)
 | [],_,_,_,_,h=>h
 | l::L,Nm,hN,g,rest,h=>by
   obtain⟨⟨a,_,_⟩,b,_,d⟩:=g
   have e:NmOk (Nm++[l.As]):=λs hs=>by rcases xk.1 hs with h | h;exact hN s h;rw[xq.1 h];exact b
   have j:=Q73 L _ e d rest h;unfold letsP lineP;simp only[xd,xx,xf];have s1:okP ([59]::[10]::(letsP (Nm++[l.As]) L++rest)):=okP_c ⟨j,.inl (.inr rfl)⟩ oy;have m:=Ql8 hN _ a _ s1 (sep_c oy oy);exact okP_w (k:=2) (okP_b (okP_w (okP_b (okP_c (okP_b m) oy)) (Qkk b) (sep_c oy oy))) oy (sep_c oy oy)
theorem okP_o{Nm:List (List UInt8)}(hN:NmOk Nm):∀(O:List (List Qd)),OOk (Nm.length:Int) O->okP (oP Nm O)/\sepP (oP Nm O)
 | [],_=>⟨okP_c trivial oy,sep_c oy oy⟩
 | c::O,h=>by obtain⟨e,i2⟩:=okP_o hN O λx a=>h x (.tail _ a);unfold oP;exact⟨okP_c (okP_b (Ql8 hN _ (h c (.head _)).1 _ e i2)) oy,sep_c oy oy⟩
theorem Jkg{Nm:List (List UInt8)}(hN:NmOk Nm):∀(O:List (List Qd)),OOk (Nm.length:Int) O->okP (osP Nm O)
 | [],_=>trivial
 | c::O,h=>by obtain⟨e,i2⟩:=okP_o hN O λx a=>h x (.tail _ a);unfold osP;exact okP_c (Ql8 hN _ (h c (.head _)).1 _ e i2) oy
noncomputable def lineK(Nm:List (List UInt8))(l:Qy):List (List UInt8):=[108,101,116]::l.As::[61]::(tk Nm (tr l.Code)++[[59]])
noncomputable def letsK:List (List UInt8)->List Qy->List (List UInt8)
 | _,[]=>[]
 | Nm,l::L=>lineK Nm l++letsK (Nm++[l.As]) L
noncomputable def oK(Nm:List (List UInt8)):List (List Qd)->List (List UInt8)
 | []=>[[93]]
 | c::O=>[44]::(tk Nm (tr c)++oK Nm O)
theorem Q28:∀(L:List Qy) (Nm:List (List UInt8)),LOk Nm L->(letsP Nm L).filter nbk=letsK Nm L
 | [],_,_=>rfl
 | l::L,Nm,a=>by obtain⟨_,b,_,d⟩:=a;unfold letsP letsK lineP lineK;rw[Qic,Q28 L _ d,Y2 oy,Qrx,Y2 (Q7x (Qkk b)),Qrx,Y2 oy,Qrx,Qic];rfl
theorem Jd5{Nm:List (List UInt8)}:∀(O:List (List Qd)),(oP Nm O).filter nbk=oK Nm O
 | []=>rfl
 | c::O=>by unfold oP oK;rw[Y2 oy,Qrx,Qic,Jd5 O];rfl
section
variable {W:List Qg}{E:Int}(hW:WOk W)
theorem Jab{s:List UInt8}:∀ {Nm:List (List UInt8)}{i k:Nat},i<Nm.length->fndS (Nm++[s]) (Nm.getD i []) k=fndS Nm (Nm.getD i []) k
 | [],_,_,h=>by simp at h
 | x::Nm,0,k,_=>by simp[fndS]
 | x::Nm,i+1,k,h=>by simp only[oo] at h;have a:=Jab (s:=s) (Nm:=Nm) (i:=i) (k:=k+1) om;simp only[xd,fndS,List.getD_cons_succ];rw[a]
theorem Q74{s:List UInt8}:∀ {Nm:List (List UInt8)}{k:Nat},s ∉ Nm->fndS (Nm++[s]) s k=((k+Nm.length:Nat):Int)
 | [],k,_=>by simp[fndS]
 | x::Nm,k,h=>by have a:x≠s:=λe=>h (e ▸ .head _);rw[xd,fndS,oi a,Q74 λg=>h (.tail _ g),oo,show k+1+Nm.length=k+(Nm.length+1) by omega]
theorem Jhw{Nm:List (List UInt8)}{s:List UInt8}(h:NmU Nm)(hs:s ∉ Nm):NmU (Nm++[s]):=λi hi=>by rw[ov,vo] at hi;by_cases a:i<Nm.length;rw[show(Nm++[s]).getD i []=Nm.getD i [] by rw[yz,yz,yb a],Jab a];exact h i a;rw[show i=Nm.length by omega,show(Nm++[s]).getD Nm.length []=s by rw[yz];simp,Q74 hs,xr]
include hW
theorem Q29:∀(L':List Qy) (k:Nat) (Nm:List (List UInt8)) (L:List Qy) (i:Nat) (X:List (List UInt8)),L'.length<k->NmOk Nm->NmU Nm->LOk Nm L'->Pre W i (letsK Nm L'++([91]::X)) ->
 letsL W E k Nm L i=.ok ((L++L',Nm++L'.map (·.As)),i+(letsK Nm L').length)/\NmOk (Nm++L'.map (·.As))/\NmU (Nm++L'.map (·.As))
 | [],k,Nm,L,i,X,hk,hN,hU,_,a=>by
   obtain⟨k,rfl⟩:∃ q,k=q+1:=⟨k - 1,by simp at hk;omega⟩
   obtain⟨_,p,_⟩:=Va a;unfold letsL;rw[oi (by rw[p];decide)]
   simpa [letsK] using ⟨hN,hU⟩
 | l::L',k,Nm,L,i,X,hk,hN,hU,u,a=>by
   simp only[oo] at hk;obtain⟨k,rfl⟩:∃ q,k=q+1:=⟨k - 1,om⟩
   obtain⟨⟨a1,a2,a3⟩,b,c,d⟩:=u;unfold letsK lineK at a;simp only[xd,xx,xf] at a;obtain⟨_,x,a⟩:=Va a;obtain⟨i2,t2,a⟩:=Va a;obtain⟨_,t3,a⟩:=Va a;obtain⟨w,a⟩:=Qiu a;obtain⟨_,t4,a⟩:=Va a
   have g:NmOk (Nm++[l.As]):=λs hs=>by rcases xk.1 hs with h | h;exact hN s h;rw[xq.1 h];exact b
   have j:=Q25 hW i2 t2 b;have e:resB l.As=false:=by have hs:=b;unfold nameOk at hs;simp only[ya,xv] at hs;unfold resB;simp only[decide_eq_false_iff_not];rintro(h | h | h | h);exact hs.2.1 h;exact hs.2.2.1 h;exact hs.2.2.2.1 h;exact hs.2.2.2.2 h
   have v:=Q72 (E:=E) hW hN hU a1 om w (λt p=>by unfold nt;rw[t4];rintro rfl;revert p;decide);obtain⟨g1,r,g3⟩:=Q29 L' k (Nm++[l.As]) (L++[l]) _ X om g (Jhw hU c) d a;unfold letsL;rw[oj x];unfold nameS;rw[t2,e,oi (by rw[j];simp),J8];unfold needS;simp only[];rw[oj t3,J8,v,J8];simp only[];rw[oj t4,J8,a2,g1];simp only[xw,xx,xd,xf] at r g3 |-;refine⟨?_,r,g3⟩;rw[show letsK Nm (l::L')=lineK Nm l++letsK (Nm++[l.As]) L' from rfl,lineK];simp only[ov,oo,xz];rw[show ∀ m n:Nat,i+1+1+1+m+1+n=i+(m+(0+1)+1+1+1+n) by omega]
theorem Q3a{Nm:List (List UInt8)}(hN:NmOk Nm)(hU:NmU Nm):∀(O':List (List Qd)) (k:Nat) (O:List (List Qd)) (i:Nat),O'.length<k->OOk (Nm.length:Int) O'->Pre W i (oK Nm O') ->
 ∃ j,outsL W E Nm k O i=.ok (O++O',j)/\(nxW W j).Av=[93]/\j+1=i+(oK Nm O').length
 | [],k,O,i,hk,_,a=>by
   obtain⟨k,rfl⟩:∃ q,k=q+1:=⟨k - 1,by simp at hk;omega⟩
   obtain⟨_,e,_⟩:=Va a;refine⟨i,?_,e,rfl⟩;unfold outsL;rw[oi (by rw[e];decide),yv]
 | c::O',k,O,i,hk,m,a=>by
   simp only[oo] at hk;obtain⟨k,rfl⟩:∃ q,k=q+1:=⟨k - 1,om⟩
   obtain⟨a1,a2,a3⟩:=m c (.head _);unfold oK at a;obtain⟨_,u,a⟩:=Va a;obtain⟨r,a⟩:=Qiu a;have g:∀ t∈[[94],[42],[47],[43],[45]],nt W (i+1+(tk Nm (tr c)).length)≠t:=by
    cases O' with
    | nil=>obtain⟨_,t2,_⟩:=Va a;intro t e;unfold nt;rw[t2];rintro rfl;revert e;decide
    | cons d O'=>obtain⟨_,t2,_⟩:=Va a;intro t e;unfold nt;rw[t2];rintro rfl;revert e;decide
   have l:=Q72 (E:=E) hW hN hU a1 om r g;obtain⟨j,g1,p,g3⟩:=Q3a hN hU O' k (O++[c]) _ om (λx l=>m x (.tail _ l)) a;refine⟨j,?_,p,?_⟩;unfold outsL;rw[oj u,l,J8];simp only[];rw[a2,g1,xx];rfl;unfold oK;rw[oo,ov];omega
end
theorem Q3b:∀(L:List Qy) (Nm:List (List UInt8)),L.length<=(letsK Nm L).length
 | [],_=>ou _
 | l::L,Nm=>by have:=Q3b L (Nm++[l.As]);unfold letsK lineK;simp;omega
theorem Jd6{Nm:List (List UInt8)}:∀(O:List (List Qd)),O.length<(oK Nm O).length
 | []=>by simp[oK]
 | c::O=>by have:=Jd6 (Nm:=Nm) O;unfold oK;simp;omega
theorem Jbl{f:Qt}(hS:Sml f)(hf:checkT f (f.Ar.length:Int) 6=f0)(F:(fieldT f).length<=4000):parseS (fieldT f)=.ok f:=by
 have r:=Jd4 hS hf;have q:=Jd3 hS hf f.Aq.length 0 om;rw[show nmS f.Aq 0=[] by simp[nmS],vv] at q;have k:NmOk []:=λs hs=>by cases hs
 have B:NmU []:=λi hi=>by simp at hi
 obtain⟨v,G,_⟩:=Qa7.1 hf;unfold wholeT at v;simp only[xv] at v
 have hN:NmOk (f.Aq.map (·.As)):=λs hs=>by obtain⟨l,F,rfl⟩:=xy.1 hs;obtain⟨i,hi⟩:=ud F;exact(G i l hi).1
 have C:=Jhv hS hf;obtain⟨g,y,M⟩:=Qx0 (fP f) 0 (Q73 _ _ k q _ (Jkg hN _ r));rw[C] at y;have N:=Q7v F y;unfold parseS;rw[oi om,y];simp only[];have u:(g.map toX).map (·.Av)=(fP f).filter nbk:=by rw[<-M,wi];exact gv λw _=>rfl
 cases a:f.Ar with
 | nil=>rw[a] at v;simp at v
 | cons c O=>
   rw[a] at r;unfold fP at u;rw[Qic,Q28 _ _ q,a,osP,Y2 oy,Qic,Jd5] at u;have p:Pre (g.map toX) 0 (letsK [] f.Aq++([91]::(tk (f.Aq.map (·.As)) (tr c)++oK (f.Aq.map (·.As)) O))):=⟨[],by rw[vv,yv];exact u⟩
   have m:(g.map toX).length=(letsK [] f.Aq).length+(1+((tk (f.Aq.map (·.As)) (tr c)).length+(oK (f.Aq.map (·.As)) O).length)):=by have:=ur List.length u;rw[xa] at this;rw[this];simp[tk];omega
   have k1:=Q3b f.Aq [];have k2:=Jd6 (Nm:=f.Aq.map (·.As)) O;have hW:=N.1;obtain⟨g1,A,g3⟩:=Q29 (E:=((fieldT f).length:Int)) hW f.Aq (g.map toX).length [] [] 0 _ om k B q p;simp only[xf] at g1 A g3;obtain⟨_,I⟩:=Qiu p;obtain⟨_,S,J⟩:=Va I;obtain⟨P,e⟩:=Qiu J;obtain⟨a1,a2,a3⟩:=r c (.head _);have H:∀ t∈[[94],[42],[47],[43],[45]],nt (g.map toX) (0+(letsK [] f.Aq).length+1+(tk (f.Aq.map (·.As)) (tr c)).length)≠t:=by
    cases O with
    | nil=>obtain⟨_,t2,_⟩:=Va e;intro t K;unfold nt;rw[t2];rintro rfl;revert K;decide
    | cons d O'=>obtain⟨_,t2,_⟩:=Va e;intro t K;unfold nt;rw[t2];rintro rfl;revert K;decide
   have L:=Q72 (E:=((fieldT f).length:Int)) hW A g3 a1 om P H;obtain⟨j,Q,R,T⟩:=Q3a (E:=((fieldT f).length:Int)) hW A g3 O (g.map toX).length [c] _ om (λx L=>r x (.tail _ L)) e;unfold fieldS;rw[g1,J8];unfold needS;simp only[];rw[oj S,J8,L,J8];simp only[];rw[a2,Q,J8];simp only[];rw[oj R,J8,J8];simp only[];rw[xa] at m;rw[oi om];simp only[xd,xf];rw[<-a]
theorem Jbm{s:List UInt8}(h:nameOk s=true):s.length<=60:=by
 have:=Qkk h;cases s with
 | nil=>simp
 | cons c t=>have:=((Qc1 _ _ _).1 this).2.2.2;have:=(Q60 2).2;simp;omega
theorem Jd7{f:Qt}(m:FB f)(hf:checkT f (f.Ar.length:Int) 6=f0):Sml f:=by
 obtain⟨g,p,_⟩:=Qa7.1 hf;unfold wholeT at g;simp only[xv] at g;refine⟨om,om,λl q=>?_,λc k=>⟨?_,(m.2.2 c k).2⟩⟩;obtain⟨i,hi⟩:=ud q;have:=Jbm (p i l hi).1;omega;have hs:=g.2.2.2.2.2.2;unfold sizeT at hs;have key:∀(L:List (List Qd)) (a:Int),0<=a->c∈L->(c.length:Int)<=L.foldl (λn c=>n+(c.length:Int)) a/\True:=by
  intro L
  induction L with
  | nil=>intro a _ h;cases h
  | cons d L j=>
    intro a r h;rw[wx];rcases xc.1 h with rfl | h;have mono:∀(L:List (List Qd)) (b:Int),b<=L.foldl (λn c=>n+(c.length:Int)) b:=by
     intro L
     induction L with
     | nil=>intro b;exact gr _
     | cons e L j=>intro b;rw[wx];have:=j (b+(e.length:Int));omega
    have:=mono L (a+(c.length:Int));exact⟨om,trivial⟩;exact j _ om h
 have:=(key (codesT f) 0 om k).1;omega
theorem Qx2{n:Nat}{f:Qt}(hn:big<=n)(a:FB f)(hs:∀ l∈f.Aq,l.As.length<=4611686018427387904)(e:checkT f (f.Ar.length:Int) 6≠f0):Qbd n f=some ([],false):=by
 unfold Qbd
 rw[Qj8 hn a hs,sbind,show Qr (checkT f (f.Ar.length:Int) 6) ⟨0,0,0,0⟩=false from by rw[Bool.eq_false_iff];exact λh=>e ((Qit _ _).1 h),xo,bifT]
theorem Jkh:Qr f0 ⟨0,0,0,0⟩=true:=(Qit _ _).2 rfl
section
variable {W:List Qg}{E:Int}(hW:WOk W)
include hW
end
def CW(w:Nat)(l:List Ins):Prop:=∀ y∈l,(toL y.2.2.2).length<=w
theorem Qp9{α β:Type}(P:β->Prop)(f:β->α->β):∀(l:List α) (b:β),P b->(∀ b,∀ x∈l,P b->P (f b x))->P (l.foldl f b)
 | [],b,h,_=>h
 | x::l,b,h,hf=>Qp9 P f l (f b x) (hf b x (.head _) h) (λb y a=>hf b y (.tail _ a))
theorem Jhx{w:Nat}{l:List Ins}{x:Ins}(h:CW w l)(e:(toL x.2.2.2).length<=w):CW w (putT l x).2:=by unfold putT;split;exact h;intro y a;rcases xk.1 a with a | a;exact h y a;rw[xq.1 a];exact e
theorem Jki{w:Nat}{ls:List Int}{s:CS}{x:Qd}(h:CW w s.1)(hN:Wd x.N/\x.N.length<=w):CW w (stT ls s x).1:=by
 unfold stT plT;split;exact h;refine Jhx h ?_;have h0:(toL 0).length<=w:=by rw[V6];simp
 unfold inC;split;show(toL (val x.N)).length<=w;rw[Kq hN.1];exact xn (W8 _) hN.2;split;exact h0;split;exact h0;exact h0
theorem Jd8{w:Nat}{ls a:List Int}{l:List Ins}{c:List Qd}(h:CW w l)(hN:∀ x∈c,Wd x.N/\x.N.length<=w):CW w (exT ls l a c).2.1:=
 Qp9 (λs:CS=>CW w s.1) (stT ls) c (l,a,[]) h (λ_ x e h=>Jki h (hN x e))
theorem Jkj{w:Nat}{f:Qt}(hN:∀ c∈codesT f,∀ x∈c,Wd x.N/\x.N.length<=w):CW w (fiT f).1.1:=by
 have e:CW w (leF (f.Aq.map (·.Code)) f.Aq.length).1:=
  Qp9 (λs:LS=>CW w s.1) leG _ _ (λy g=>by cases g) (λs c a h=>Jd8 h (hN c (by unfold codesT;exact uy _ (xt a))))
 exact Qp9 (λs:LS=>CW w s.1) (ouG _) _ _ e (λs c a h=>Jd8 h (hN c (by unfold codesT;exact yt _ (xt a))))
theorem Jhy{w:Nat}{x:Ins}(e:1<=w)(h:(toL x.2.2.2).length<=w):Fk w (insP x).N:=by unfold insP;simp only[];split;have a:(toL 1).length<=1:=Xy (by unfold bp;decide);refine⟨Jp _,?_,Jp _,?_⟩;show(toL (x.2.2.2:Rat).num.natAbs).length<=w;rw[Rat.num_natCast,dy];exact h;show(toL (x.2.2.2:Rat).den).length<=w;rw[Rat.den_natCast];omega;exact⟨Xp,xl _,Xp,xl _⟩
theorem Jfu{Nm:List (List UInt8)}{x:Qd}(hN:∀ s∈Nm,s.length<=21)(h0:ar x.Op=0)(h:nodeOk x 6 6 (Nm.length:Int)=true)(g:Wd x.N/\x.N.length<=2):(lfS Nm x).length<=21:=by
 unfold lfS;rcases lf_ok h0 h with ⟨e,_,_,_⟩ | ⟨e,_⟩ | ⟨e,a,j,_⟩ | ⟨e,a,j,_⟩ | ⟨e,a,j,_⟩;rw[oj e];refine Jdb ?_;have:=Ye g.1;have l:=bp_le g.2;have k:bp 2=18446744073709551616:=by unfold bp;decide
 omega;rw[oi om,oi om,oi om,oi om];decide;rw[oi om,oj e];have:=Qb9 (x:=x.I) om om;simp;omega;rw[oi om,oi om,oj e];have:=Qb9 (x:=x.I) om om;simp;omega;rw[oi om,oi om,oi om,oj e];rw[yz,ot (show x.I.toNat<Nm.length by omega)];exact hN _ (yu _)
theorem Qo7{Nm:List (List UInt8)}(hN:∀ s∈Nm,s.length<=21):∀(e:Ex),okE (Nm.length:Int) e->(∀ x∈fl e,Wd x.N/\x.N.length<=2)->(wrS Nm e).length<=28*(fl e).length
 | .lf x,h,g=>by have:=Jfu hN (by have:=h.1;unfold wf at this;exact this) (h.2 x (by simp[fl])).1 (g x (by simp[fl]));simp only[wrS,fl,oo,xz];omega
 | .un x a,h,g=>by obtain⟨m,l,k,_⟩:=Qo3 h;have:=Qo7 hN a l (λy j=>g y (by simp[fl,j]));have i3:=Qdh (wrS Nm a) (rkI (rtE a).Op) 3;have i5:=Qdh (wrS Nm a) (rkI (rtE a).Op) 5;simp only[wrS,fl,ov,oo,xz];rcases un_ok m k with ⟨e,_⟩ | ⟨e,p,q,_⟩;rw[oj e];simp;omega;rw[oi om];have:=Qb9 p q;simp;omega
 | .bi x a b,h,g=>by obtain⟨m,l,k,_⟩:=Qo4 h;have r:=Qo7 hN a l (λy j=>g y (by simp[fl,j]));have t:=Qo7 hN b k (λy j=>g y (by simp[fl,j]));have i3:=Qdh (wrS Nm a) (rkI (rtE a).Op) (rkI x.Op);have i5:=Qdh (wrS Nm b) (rkI (rtE b).Op) (rkI x.Op+1);have:=Q1m x.Op;simp only[wrS,fl,ov,oo,xz];omega
theorem Jd9{s:List UInt8}(h:nameOk s=true):s.length<=12:=by
 have:=Qkk h;cases s with
 | nil=>simp
 | cons c t=>have:=((Qc1 _ _ _).1 this).2.2.2;have e:mostC 2=12:=rfl;rw[e] at this;exact this
theorem Jbn{f:Qt}(hS:Sml f)(hf:checkT f (f.Ar.length:Int) 6=f0)(m:f.Aq.length<=4)(I:f.Ar.length<=4)(y:∀ c∈codesT f,c.length<=12/\∀ x∈c,Wd x.N/\x.N.length<=2):(fieldT f).length<=4000:=by
 have q:∀(i:Nat) (s:List UInt8),s∈nmS f.Aq i->s.length<=21:=by intro i s hs;obtain⟨l,m,rfl⟩:=xy.1 hs;obtain⟨j,t⟩:=ud (xt m);have:=Jd9 ((Qa7.1 hf).2.1 j l t).1;omega
 have p:∀ i,i<=f.Aq.length->(ltS f.Aq i).length<=400*i:=by
  intro i
  induction i with
  | zero=>intro _;simp[ltS]
  | succ i B=>
    intro h;have B:=B om;have m:f.Aq[i]?=some f.Aq[i]:=ot om;obtain⟨a,e,_,a4,_,_⟩:=Qo5 hS hf m;have g:=y f.Aq[i].Code (by unfold codesT;exact uy _ (uj (yu _)));have:=Qo7 (q i) _ a (λx v=>g.2 x (by rw[<-e];exact v));rw[e] at this;have A:=Jd9 a4;have C:=g.1;unfold ltS;rw[m,ov];simp only[];unfold lineS;simp;omega
 have r:∀ w∈osS (f.Aq.map (·.As)) f.Ar,w.length<=336:=by intro w G;obtain⟨c,g,rfl⟩:=xy.1 G;obtain⟨i,hi⟩:=ud g;obtain⟨a,e,_,_⟩:=Qta hS hf hi;have k:=y c (by unfold codesT;exact yt _ g);have:=Qo7 (λs hs=>q f.Aq.length s (by rw[Qv6];exact hs)) _ a (λx v=>k.2 x (by rw[<-e];exact v));rw[e] at this;have:=k.1;omega
 have t:=Qki [44,32] 336 _ r;have u:(osS (f.Aq.map (·.As)) f.Ar).length<=4:=by unfold osS;simp;omega
 have F:(336+2)*(osS (f.Aq.map (·.As)) f.Ar).length<=338*4:=vn (ou _) u;have H:=p f.Aq.length (ou _);simp only[oo,xz] at t;unfold fieldT;simp only[ov,oo,xz];omega
theorem Jea{s:Ql}(h:SchF s)(y:s.A.length<=4):(schS s).length<=4000:=by
 have v:=h.al;have g1:=h.cl;have k:s.E.length<=4:=by rcases h.r.2.1.2.2.2.1 with e | e<;>omega
 have j:∀ r:List Qa,r.length<=4->(∀ x∈r,numR x)->(rowS (rv r)).length<=492:=λr hr hn=>by have:=Qs1 (Qnv hn);rw[Xe] at this;omega
 have g:∀ l∈lnsS s,l.length<=560:=by intro l a;unfold lnsS lnsT at a;rcases xc.1 a with rfl | a;have:=h.nl;omega;rcases xk.1 a with a | a;obtain⟨i,hi,rfl⟩:=xy.1 a;have hi:=List.mem_range.1 hi;obtain⟨c,r,_,_,q,t,B,u,_⟩:=Qru h hi;have A:=(Qs2 (n:=big) (ou _) q).2;have p:=Qs1 (Qnv t);rw[Xe] at p;rw[u];simp;omega;rcases xc.1 a with rfl | a;have:=j s.B om h.bn;unfold lnB;simp;omega;split at a;cases a;rw[xq.1 a];have:=j s.E k h.en;unfold lnE;simp;omega
 have m:(lnsS s).length<=7:=by rw[Qvm];split<;>omega
 have:=Qki [10] 560 (lnsS s) g;have w:(560+1)*(lnsS s).length<=561*7:=vn (ou _) m;unfold schS;simp only[oo,xz] at this;omega
theorem wtopS:Yg bigS=some true:=od
theorem Jfv:Qgz bigS noH noH=some true:=od
theorem Jhz{k:Jc}(h:TskW k){t:Qv}(a:∀ c∈t.Code,Fk 4000 c.N)(hd:-9223372036854775808<=t.Dim/\t.Dim<=9223372036854775807):
 TskW ⟨⟨t,k.Ap.Ao,k.Ap.P,k.Ap.Az⟩,k.Au,k.Ax,k.End,k.Ay,k.Y⟩:=⟨⟨a,hd,h.p.s,h.p.p⟩,h.r,h.s,h.e,h.f,h.y⟩
theorem Q75(g:Jr)(k:Kd)(C:Qak g)(hB:Qd1 k):∃ n,Yk n g k=some true:=by
 refine⟨bigS,?_⟩;have hn:big<=bigS:=oy
 have Q:big+100<=bigS:=oy
 unfold Yk;simp only[jn_eq];obtain⟨b,h1,h2⟩:=Qsy (parts:=4) (many:=12) (words:=2) hn C Jdl;rw[show(4:Int)=((4:Nat):Int) by rfl,show(12:Int)=((12:Nat):Int) by rfl,show(2:Int)=((2:Nat):Int) by rfl,h1,sbind];cases b with
 | true=>rw[bifT,bifT,wtopS];rfl
 | false=>
   have j:=h2 rfl;obtain⟨l,hs⟩:=FB_of C oy oy oy j;rw[bifF];obtain⟨v,e1,e2⟩:=Qz1 (k:=k) hn;rw[e1,sbind];cases v with
   | true=>rw[bifT,wtopS];rfl
   | false=>
     have u:=e2 rfl;have m:=Jhm hB u;have A:(tK k).Ap.Ao.As.length<=60:=by have:=u.p.2.1.1;show k.Ap.Ao.As.length<=60;omega
     rw[bifF,Q39 hn u,sbind,Qvf hn l,sbind,Qp4 hn l hs,sbind,sbind];rw[Qxo hn oy oy m.p.s A];generalize hp:(k.Ap.P.length:Int)=p;have small:∀ c∈codesT (cF g),c.length<=12/\∀ x∈c,Wd x.N/\x.N.length<=2:=by intro c e;rw[Qsx] at e;obtain⟨c',F,rfl⟩:=xy.1 e;have:=j.2.2.2 c' F;refine⟨by rw[xa];exact this.1,λx L=>?_⟩;have M:=(l.2.2 (c'.map cN) (by rw[Qsx];exact uj F)).2 x L;obtain⟨y,X,rfl⟩:=xy.1 L;exact⟨M.2,this.2 y X⟩
     by_cases e:checkT (cF g) ((cF g).Ar.length:Int) p=f0
     case neg=>
      rw[oi e];simp only[];have R:Qr (checkT (cF g) ((cF g).Ar.length:Int) p) (⟨0,0,0,0⟩:Qc)=false:=Bool.eq_false_iff.2 λq=>e ((Qit _ _).1 q);obtain⟨r22,J⟩:∃ r,Qbd bigS (cF g)=some r:=by
       by_cases a:checkT (cF g) ((cF g).Ar.length:Int) 6=f0
       . exact⟨_,Qp7 (Jd7 l a) a hn l⟩
       . exact⟨_,Qx2 hn l hs a⟩
      rw[J,sbind,sbind,R,xo,bifT,bifT,wtopS];rfl
     rw[oj e];simp only[];have U:p<=6:=by have:=(Qa7.1 e).1;unfold wholeT at this;simp only[xv] at this;omega
     have a:=Jbf U (gr 6) e;have hS:=Jd7 l a;rw[Qp7 hS a hn l,sbind,sbind];have B:Qr f0 (⟨0,0,0,0⟩:Qc)=true:=Jkh;rw[B];simp only[ow,bifF];by_cases hr:schR (tK k).Ap.Ao
     case neg=>rw[oi hr];simp only[xo,bifT];rw[wtopS];rfl
     rw[oj hr];simp only[];have O:=Q1k hr A;have h4:(tK k).Ap.Ao.A.length<=4:=by have:=u.p.2.1.2.1;show(k.Ap.Ao.A.map _).length<=4;rw[xa];exact this
     have G:=Jbn hS a (by simp only[cF,xa];exact j.1) (by simp only[cF,xa];exact j.2.1) small;simp only[ow,bifF];rw[Qxz Q om,sbind,Jbl hS a G];simp only[okF];rw[Q7c hn oy oy m.p.s hr A (Jea O h4),sbind,Qp4 hn l hs,sbind,oj e];simp only[];rw[Q7w,ow,bifF,bifF,B,ow,bifF]
     have P:∀ c∈(fiT (cF g)).1.1.map insP,Fk 4000 c.N:=λc e=>by obtain⟨y,X,rfl⟩:=xy.1 e;exact Jhy oy (xn (Jkj (w:=2) (λc e x L=>(small c e).2 x L) y X) oy)
     have ho:(cF g).Ar.length<=4:=by simp only[cF,xa];exact j.2.1
     have V:=Jhz (k:=tK k) m (t:=⟨(fiT (cF g)).1.1.map insP,(fiT (cF g)).1.2.2,((cF g).Ar.length:Int),p⟩) P (by show(-9223372036854775808:Int)<=((cF g).Ar.length:Int)/\((cF g).Ar.length:Int)<=9223372036854775807;omega);have hy1:=u.y.1;have Z:(tK k).Y.length<=1000:=by show(k.Y.map tF).length<=1000;rw[xa];omega
     have a1:=Qzz (n:=bigS) hn V (λhr=>by
      have:=hr.most;have h2:k.Au.A1<=200:=this.2;have hM:=u.m
      show k.Au.A1<=12;omega) Z
     rw[a1,sbind,sbind];by_cases N:TskR ⟨⟨⟨(fiT (cF g)).1.1.map insP,(fiT (cF g)).1.2.2,((cF g).Ar.length:Int),p⟩,(tK k).Ap.Ao,(tK k).Ap.P,(tK k).Ap.Az⟩,(tK k).Au,(tK k).Ax,(tK k).End,(tK k).Ay,(tK k).Y⟩
     case neg=>
      rw[oi N];simp only[];rw[Jfv,sbind,bifT,Qbh,bifT,wtopS];rfl
     rw[oj N];simp only[];have I:=N.2.1;have H:=I.most;have hmo1:k.Au.A1<=200:=H.2;have hmo2:1<=k.Au.A1:=H.1;have hM:=u.m;have vr:=m.r.all;have qS:qw (fv (tK k).Ax)<=2:=qw_fv m.s oy;have qE:qw (fv (tK k).End)<=2:=qw_fv m.e oy;have qY0:QR 129 (rv (tK k).Y):=Za (QR_rv m.y oy) oy;have S:=Q7n (p:=⟨⟨(fiT (cF g)).1.1.map insP,(fiT (cF g)).1.2.2,((cF g).Ar.length:Int),p⟩,(tK k).Ap.Ao,(tK k).Ap.P,(tK k).Ap.Az⟩) (r:=(tK k).Au) (E:=fv (tK k).End) (d:=(rv (tK k).Y).length) I (qw_fv vr.2.2.1 oy) (qw_fv vr.2.2.2.1 oy) qE (tK k).Au.A1.toNat [] (fv (tK k).Ax) (rv (tK k).Y) (fv (tK k).Ay) (by show 0+k.Au.A1.toNat<=12;omega) qS (qw_fv m.f oy) qY0 rfl (λ_ h=>by cases h);generalize adaptQ _ _ _ _ _ _ _ _=z at *;obtain⟨o1,o2,o3,o4,o5⟩:=S;have K:=Q1t (n:=bigS) (tr:=z.1.1) (T:=z.1.2.1) (Y:=z.1.2.2) hn (show 4000<274877906944 by decide) oy o1 o2 (Za o3 oy);unfold mA at K;rw[K,sbind,bifT,Qbh,bifT,wtopS];rfl
end Go.Proofs.YteejhjpdcefgfaaGreatDoor
