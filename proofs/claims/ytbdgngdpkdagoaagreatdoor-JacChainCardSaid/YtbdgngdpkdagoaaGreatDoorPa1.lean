import Derived.Test.YtbdgngdpkdagoaaGreatDoorModa
import Derived.Test.YtbdgngdpkdagoaaGreatDoorP2
namespace Go.Proofs.YtbdgngdpkdagoaaGreatDoor
open Go Go.RowKit
def absQ(q:Rat):Rat:=if q.num<0 then -q else q
theorem Jnx(q:Rat):toF (absQ q)=⟨⟨false,(toF q).Num.A6⟩,(toF q).Den⟩:=by unfold absQ toF toW;split;rw[Q2i,Jfv,Int.natAbs_neg,oo om];rw[oo om]
theorem Ja6{n k:Nat}{f:Qa}(hn:big<=n)(hk:k<1099511627776)(a:Fk k f):Qpf n f=some (toF (absQ (fv f))):=by unfold Qpf;rw[V0 hn (Fk_Fw a om),sbind,Jnx]
def maxQ(a b:Rat):Rat:=if 0<(b - a).num.sign then b else a
theorem Q8f{n k:Nat}{f g:Qa}(hn:big<=n)(a:1<=k)(hk:k<1099511627776)(d:Fk k f)(e:Fk k g):Qpg n [f,g]=some (toF (maxQ (fv f) (fv g))):=by unfold Qpg;simp only[jn_eq,rangeL];have i:Fk k (toF (fv f)):=Jq (qw_fv d a);rw[Zp hn,sbind,show decide (((0:Nat):Int)=0)=true from rfl,bifT,bifT,V0 hn (Fk_Fw d om),sbind,sbind];simp only[];rw[show decide (((0+1:Nat):Int)=0)=false from rfl,bifF,Qsf hn a hk e i,sbind,Jf,bifd];unfold maxQ;split;rw[V0 hn (Fk_Fw e om),sbind];rfl;rfl
def normQ(l:List Rat):Rat:=l.foldl (λb x=>maxQ b (absQ x)) 0
theorem Jdm(q:Rat):qw (absQ q)=qw q:=by unfold absQ;split;exact Qjz q;rfl
theorem Jjw{a b:Rat}{k:Nat}(d:qw a<=k)(hb:qw b<=k):qw (maxQ a b)<=k:=by unfold maxQ;split<;>assumption
theorem Ja7{n k:Nat}{a:List Qa}(hn:big<=n)(e:1<=k)(hk:k<1099511627776)(g:FR k a):Qkb n a=some (toF (normQ (rv a))):=by
 unfold Qkb;have f:∀(l:List Rat) (b:Rat),QR k l->qw b<=k->qw (l.foldl (λb x=>maxQ b (absQ x)) b)<=k:=by
  intro l
  induction l with
  | nil=>intro b _ hb;exact hb
  | cons x l v=>intro b j hb;exact v _ (λq f=>j q (.tail _ f)) (Jjw hb (by rw[Jdm];exact j x (.head _)))
 rw[Zp hn,sbind,Zw (λi=>toF ((rv (a.take i)).foldl (λb x=>maxQ b (absQ x)) 0)) a,Vn,xc];rfl;intro i x p;have r:a.take (i+1)=a.take i++[x]:=by rw[vn,p];rfl
 have s:rv (a.take (i+1))=rv (a.take i)++[fv x]:=by unfold rv;rw[r,xw];rfl
 have d:=g x (Jm p);have hb:=f (rv (a.take i)) 0 (QR_rv (λy u=>g y (ym u)) e) (by rw[Zo];exact e);rw[Ja6 hn hk d,sbind,Q8f hn e hk (Jq hb) (Jq (by rw[Jdm];exact qw_fv d e)),sbind,s,List.foldl_append,Jf,Jf];rfl;rfl
theorem Qvp{n:Nat}{f:Xt}(hn:big<=n):∃ v,Qc4 n f=some v/\(v=false->(f.T.N.length<=2/\f.T.D.length<=2)/\(f.H.N.length<=2/\f.H.D.length<=2)/\FL 4 2 f.Y):=by
 unfold Qc4;simp only[jn_eq];have e:∀ g:Qb,Xb g 2=some (!decide (g.N.length<=2/\g.D.length<=2)):=λg=>Qie g 2;rw[e,sbind];by_cases a:f.T.N.length<=2/\f.T.D.length<=2
 case neg=>rw[oo a];exact⟨true,rfl,λh=>by cases h⟩
 rw[ol a,ou,bifF,e,sbind];by_cases d:f.H.N.length<=2/\f.H.D.length<=2
 case neg=>rw[oo d];exact⟨true,rfl,λh=>by cases h⟩
 rw[ol d,ou,bifF];obtain⟨u,i,j⟩:=Xi (l:=f.Y) (many:=4) (k:=2) hn oz;rw[show((4:Nat):Int)=4 from rfl,show((2:Nat):Int)=2 from rfl] at i;rw[i,sbind];exact⟨u,rfl,λh=>⟨a,d,j h⟩⟩
structure TryQ where
 T:Rat
 H:Rat
 A8:Rat
 Y:List Rat
noncomputable def marchQ(p:Qg):List Rat->Nat->Rat->List Rat->List TryQ->Qe ⊕ (List TryQ×Rat×List Rat)
 | [],_,T,Y,tr=>.inr (tr,T,Y)
 | h::hs,i,T,Y,tr=>match stepQ p T h Y with
   | .inl f=>.inl ⟨f.Ax,(i:Int)+1,f.A4,f.At⟩
   | .inr z=>marchQ p hs (i+1) (T+h) z.next (tr++[⟨T,h,normQ z.err,Y⟩])
def toTry(t:TryQ):Q9:=⟨toF t.T,toF t.H,toF t.H,toF t.A8,toR t.Y,true⟩
def noH:Qt:=⟨[],⟨⟨false,[]⟩,[]⟩,[]⟩
def posQ(hs:List Rat):Prop:=(∀ h∈hs,0<h.num.sign)/\hs.length<=200
def mayQ(p:Qg)(Y hs:List Rat):Prop:=prbR p/\(Y.length:Int)=p.Tape.A0/\posQ hs
theorem Q8g{n k:Nat}{hs:List Qa}(hn:big<=n)(f:1<=k)(hk:k<1048576)(j:FR k hs):Qnj n hs=some (dP (posQ (rv hs))):=by
 classical
 unfold Qnj;rw[Z3 (λ_ (x:Qa)=>0<(fv x).num.sign) (r:=false),Qit];have e:(∀ a∈hs,0<(fv a).num.sign)↔∀ h∈rv hs,0<h.num.sign:=by constructor;intro g h l;obtain⟨x,d,rfl⟩:=xz.1 l;exact g x d;intro g x d;exact g (fv x) (vf d)
 by_cases g:∀ a∈hs,0<(fv a).num.sign;rw[oq g];exact Qej ⟨λh=>⟨e.1 g,by rw[Ji];omega⟩,λh=>by have:=h.2;rw[Ji] at this;omega⟩;rw[oj g,dP_f λh=>g (e.2 h.1)];intro i x d;rw[Qdy hn f om (j x (Jm d)),sbind];constructor;intro h;rw[oo om];rfl;intro h;rw[ol om];rfl
theorem Jjx{k:Nat}{l:List Rat}(e:1<=k)(h:QR k l):qw (normQ l)<=k:=by
 have a:∀(l:List Rat) (b:Rat),QR k l->qw b<=k->qw (l.foldl (λb x=>maxQ b (absQ x)) b)<=k:=by
  intro l
  induction l with
  | nil=>intro b _ hb;exact hb
  | cons x l g=>intro b d hb;exact g _ (λq f=>d q (.tail _ f)) (Jjw hb (by rw[Jdm];exact d x (.head _)))
 exact a l 0 h (by rw[Zo];exact e)
theorem Quh{n j k a:Nat}{p:Qg}{t:Qa}{y hs:List Qa}(hn:big<=n)(G:1<=a)(X:1<=j)(hk:a+200*(j+1)+129<=k)(B:k<8000)(Q:PrbW k p)(P:Fk a t)(R:FR a y)(hyl:y.length<=1000)(w:FR j hs):
 Qa5 n p t y hs=some (@ite _ (mayQ p (rv y) (rv hs)) (Classical.propDecidable _) (match marchQ p (rv hs) 0 (fv t) (rv y) [] with | .inl f=>(noH,f) | .inr z=>(⟨z.1.map toTry,toF z.2.1,toR z.2.2⟩,⟨0,0,0,0⟩)) (noH,⟨2,0,0,0⟩))/\(mayQ p (rv y) (rv hs)->∀ f,marchQ p (rv hs) 0 (fv t) (rv y) []=.inl f->f.Ax≠0):=by
 unfold Qa5 mayQ;simp only[jn_eq];rw[Qms hn om B Q,sbind,bifnP,Ji];by_cases hr:prbR p
 case neg=>rw[oj hr,oj (λh=>hr h.1),bifT];exact⟨rfl,λh=>absurd h.1 hr⟩
 rw[oq hr];by_cases v:(y.length:Int)=p.Tape.A0
 case neg=>rw[oo v,oj (λh=>v h.2.1),ow,bifT,bifT];exact⟨rfl,λh=>absurd h.2.1 v⟩
 rw[ol v,ou,bifF,Q8g (k:=j) hn om om w,sbind];by_cases hp:posQ (rv hs)
 case neg=>rw[dP_f hp,oj (λh=>hp h.2.2),ow,bifT];exact⟨rfl,λh=>absurd h.2.2 hp⟩
 rw[dP_t hp,oq ⟨hr,v,hp⟩,ou,bifF];have C:=hp.2;rw[Ji] at C;have I:=QR_rv R G;have htq:=qw_fv P G;rw[V0 hn (Fk_Fw P om),sbind,Qf0 hn,sbind,Zq (k:=a) hn om om (Jq (by rw[Qxu];exact G)) R om,sbind,Jf,Qxt]
 have K:∀(hs:List Qa) (i:Nat) (T:Rat) (Y:List Rat) (tr:List TryQ),FR j hs->i+hs.length<=200->tr.length=i->qw T<=a+i*(j+1)->QR (max a 129) Y->(Y.length:Int)=p.Tape.A0 ->
  (rangeL (λ(J:Nat) (L:Qa) (e:(List Q9)×Qa×(List Qa))=>
   (Vr n L).bind λl=>
   (Qgq n p e.2.1 l e.2.2).bind λd=>
   bif !(Qs d.2 (⟨0,0,0,0⟩:Qe)) then (
    some (Lp.out (((⟨[],(⟨(⟨false,[]⟩:Qi),[]⟩:Qa),[]⟩:Qt),(⟨d.2.Ax,wrap64 ((J:Int)+(1:Int)),d.2.A4,d.2.At⟩:Qe)))))
   else (
    (Qkb n d.1.A8).bind λq=>
    (appM 256 e.1 ([(⟨e.2.1,l,l,q,e.2.2,true⟩:Q9)]:List Q9)).bind λu=>
    (Vy n e.2.1 l).bind λr=>
    some (Lp.go (u,r,d.1.Next)))) hs i (tr.map toTry,toF T,toR Y)).bind (lpK λ(s:(List Q9)×Qa×(List Qa))=>
  some ((⟨s.1,s.2.1,s.2.2⟩:Qt),(⟨0,0,0,0⟩:Qe)))=some (match marchQ p (rv hs) i T Y tr with | .inl f=>(noH,f) | .inr z=>(⟨z.1.map toTry,toF z.2.1,toR z.2.2⟩,⟨0,0,0,0⟩))/\∀ f,marchQ p (rv hs) i T Y tr=.inl f->f.Ax≠0:=by
  intro hs
  induction hs with
  | nil=>
    intro i T Y tr _ _ _ _ _ _;exact⟨rfl,λf h=>by cases h⟩
  | cons h hs ih=>
    intro i T Y tr w hi htr U V H;rw[xn] at hi;have A:=w h (.head _);have hb:i*(j+1)<=199*(j+1):=xh _ om;have Z:=qw_fv A X;simp only[rangeL,rv,yy,marchQ];rw[V0 hn (Fk_Fw A om),sbind];obtain⟨M,N⟩:=Qqd (p:=p) (t:=toF T) (h:=toF (fv h)) (y:=toR Y) hn om B Q (Jq om) (Jq om) (Vd (Jb V om));rw[Jf,Jf,Wn] at M N;rw[M,sbind];cases E:stepQ p T (fv h) Y with
    | inl f=>
      have O:=N f E;obtain⟨f1,f2,f3,f4⟩:=f;simp only[];rw[Ky O,ow,bifT,sbind,w1 om];exact⟨rfl,λg W=>by cases W;exact O⟩
    | inr z=>
      obtain⟨_,_,z1,z2,z3⟩:=Qg8 E;simp only[];rw[Kk,ou,bifF];show(((Qkb n (toR z.err)).bind λq=>(appM 256 (tr.map toTry) [(⟨toF T,toF (fv h),toF (fv h),q,toR Y,true⟩:Q9)]).bind λu=>(Vy n (toF T) (toF (fv h))).bind λr=>some (Lp.go (u,r,toR z.next))).bind _).bind _=_/\_;rw[Ja7 (k:=129) hn om om (Vd z3),sbind,Wn,J5 oh oh,sbind,Wo (k:=k) hn om om (Jq om) (Jq om),sbind,sbind,Jf,Jf];have S:tr.map toTry++[(⟨toF T,toF (fv h),toF (fv h),toF (normQ z.err),toR Y,true⟩:Q9)]=(tr++[(⟨T,fv h,normQ z.err,Y⟩:TryQ)]).map toTry:=by rw[xw];rfl
      rw[S];refine ih (i+1) (T+fv h) z.next (tr++[⟨T,fv h,normQ z.err,Y⟩]) (λx hx=>w x (.tail _ hx)) om oh ?_ (Jb z1 om) (by rw[z2];exact H)
      have:=Zx U Z;rw[uz];omega
 have:=K hs 0 (fv t) (rv y) [] w om rfl om (Jb I om) (by rw[Ji];exact v);exact⟨this.1,λ_=>this.2⟩
theorem Q4b{p:Qg}{a j:Nat}:∀ {hs:List Rat}{i:Nat}{T:Rat}{Y:List Rat}{tr:List TryQ}{z},qw T<=a+i*(j+1)->QR j hs->QR (max a 129) Y->(Y.length:Int)=p.Tape.A0->marchQ p hs i T Y tr=.inr z ->
 qw z.2.1<=a+(i+hs.length)*(j+1)/\QR (max a 129) z.2.2/\(z.2.2.length:Int)=p.Tape.A0/\z.1.length=tr.length+hs.length
 | [],i,T,Y,tr,z,e,f,r,l,h=>by cases h;exact⟨e,r,l,rfl⟩
 | x::hs,i,T,Y,tr,z,e,f,r,l,h=>by
   simp only[marchQ] at h;cases d:stepQ p T x Y with
   | inl g=>rw[d] at h;cases h
   | inr w=>
     rw[d] at h;obtain⟨_,_,v,y,z3⟩:=Qg8 d;have A:=Zx e (f x (.head _));obtain⟨g1,s,g3,g4⟩:=Q4b (a:=a) (j:=j) (by rw[uz];omega) (λq u=>f q (.tail _ u)) (Jb v om) (by rw[y];exact l) h;rw[xn];refine⟨by rw[show i+(hs.length+1)=i+1+hs.length by omega];exact g1,s,g3,by rw[g4];simp;omega⟩
set_option maxRecDepth 100000
def linQ(c:Rat)(a b:List Rat):List Rat:=List.zipWith (λx y=>c*x+y) a b
theorem Q2m{c:Rat}{a b:List Rat}(h:b.length=a.length):(linQ c a b).length=a.length:=by unfold linQ;rw[td,h,jy]
theorem Qmd{c:Rat}{a b:List Rat}{i:Nat}(h:b.length=a.length):(linQ c a b).getD i 0=c*a.getD i 0+b.getD i 0:=by unfold linQ;rw[ot,ot,ot,wu];by_cases hi:i<a.length;rw[oi hi,oi (show i<b.length by omega)];rfl;rw[xd (show a.length<=i by omega),xd (show b.length<=i by omega)];show(0:Rat)=c*0+0;grind
theorem Qme{c:Rat}:∀ m:Nat,List.replicate m (0:Rat)=linQ c (List.replicate m 0) (List.replicate m 0)
 | 0=>rfl
 | m+1=>by have:=Qme (c:=c) m;unfold linQ at this |-;rw[uq,jh,<-this];congr 1;grind
set_option maxRecDepth 100000
def TQ(k m:Nat)(t:TryQ):Prop:=qw t.T<=k/\qw t.H<=k/\qw t.A8<=k/\QR k t.Y/\t.Y.length=m
theorem Qwq{p:Qg}{a j K m:Nat}(E:1<=a):∀ {hs:List Rat}{i:Nat}{T:Rat}{Y:List Rat}{tr:List TryQ}{z},a+(i+hs.length)*(j+1)+129<=K->j<=K->qw T<=a+i*(j+1)->QR j hs->QR (max a 129) Y->Y.length=m->(∀ t∈tr,TQ K m t)->marchQ p hs i T Y tr=.inr z->∀ t∈z.1,TQ K m t
 | [],i,T,Y,tr,z,s,f,v,u,y,B,e,h=>by cases h;exact e
 | x::hs,i,T,Y,tr,z,s,f,v,u,y,B,e,h=>by
   simp only[marchQ] at h;cases d:stepQ p T x Y with
   | inl g=>rw[d] at h;cases h
   | inr w=>
     rw[d] at h;obtain⟨_,_,I,J,z3⟩:=Qg8 d;have H:=u x (.head _);have A:=Zx v H;rw[xn] at s;have C:i*(j+1)<=(i+(hs.length+1))*(j+1):=xh _ om;have hn129:=Jjx (k:=129) (l:=w.err) oz z3;refine Qwq E (m:=m) (i:=i+1) (by rw[show i+1+hs.length=i+(hs.length+1) by omega];exact s) f (by rw[uz];omega) (λq G=>u q (.tail _ G)) (Jb I om) om (λt r=>?_) h;rcases yd.1 r with r | r;exact e t r;rw[xk.1 r];exact⟨by show qw T<=K;omega,by show qw x<=K;omega,by show qw (normQ w.err)<=K;omega,Jb y om,B⟩
set_option maxRecDepth 100000
def bk1(x:Qv)(c r:Rat)(vs:List Rat)(s:BkS):BkS:=
 if x.Op=2 then ⟨s.co,s.T+c,s.Y,s.P⟩ else
 if x.Op=3 then ⟨s.co,s.T,addAt s.Y x.A c,s.P⟩ else
 if x.Op=4 then ⟨s.co,s.T,s.Y,addAt s.P x.A c⟩ else
 if x.Op=6 then ⟨addAt s.co x.A (-c),s.T,s.Y,s.P⟩ else
 if x.Op=7 then ⟨addAt (addAt s.co x.A c) x.B c,s.T,s.Y,s.P⟩ else
 if x.Op=8 then ⟨addAt (addAt s.co x.A c) x.B (-c),s.T,s.Y,s.P⟩ else
 if x.Op=9 then ⟨addAt (addAt s.co x.A (c*vs.getD x.B.toNat 0)) x.B (c*vs.getD x.A.toNat 0),s.T,s.Y,s.P⟩ else
 if x.Op=10 then ⟨addAt (addAt s.co x.A (c / vs.getD x.B.toNat 0)) x.B (-(c / vs.getD x.B.toNat 0*r)),s.T,s.Y,s.P⟩ else
 if x.Op=11 then ⟨addAt s.co x.A (c*((x.B:Rat)*turnQ (vs.getD x.A.toNat 0) r x.B)),s.T,s.Y,s.P⟩ else s
theorem Q6e{x:Qv}{c r:Rat}{vs:List Rat}{s:BkS}:Yx x c r vs s=bk1 x c r vs s:=by
 by_cases h:c=0;subst h;unfold Yx bk1;rw[oq rfl];have a:-(0:Rat)=0:=by decide +kernel
 have d:∀ w:Rat,0 / w=0:=λw=>by rw[db,Rat.zero_mul]
 simp only[a,d,Rat.zero_mul,Qy9,ui,ite_self];unfold Yx bk1;rw[oj h]
theorem Q4c{t:Qm}{lim:Int}{T:Rat}{Y P w:List Rat}{z}(h:backQ t lim T Y P w=.inr z):∃ vs x,runQ lim T Y P t.Code 0 []=.inr vs/\pullQ lim t.Code vs vs.length ⟨coQ vs.length t.Az w,0,List.replicate t.A0.toNat 0,List.replicate t.A3.toNat 0⟩=.inr x/\z=(x.T,x.Y,x.P):=by
 unfold backQ at h;cases hr:runQ lim T Y P t.Code 0 [] with
 | inl e=>rw[hr] at h;cases h
 | inr vs=>
   rw[hr] at h;simp only[] at h;cases hp:pullQ lim t.Code vs vs.length ⟨coQ vs.length t.Az w,0,List.replicate t.A0.toNat 0,List.replicate t.A3.toNat 0⟩ with
   | inl e=>rw[hp] at h;cases h
   | inr x=>
     rw[hp] at h;simp only[] at h;cases a:fitQ lim (x.T::(x.Y++x.P)) 0 with
     | some j=>rw[a] at h;cases h
     | none=>rw[a] at h;cases h;exact⟨vs,x,rfl,hp,rfl⟩
theorem Qwr{t:Qm}{lim:Int}{T H c:Rat}{P y k:List Rat}{i:Nat}{z}(h:bstageQ t lim T H P y c k i=.inr z):∃ x,backQ t lim (T+H*c) y P k=.inr x/\z=(x.2.1,x.2.2):=by
 unfold bstageQ at h;cases a:fitQ lim k 0 with
 | some j=>rw[a] at h;cases h
 | none=>
   rw[a] at h;simp only[] at h;cases hb:backQ t lim (T+H*c) y P k with
   | inl e=>rw[hb] at h;cases h
   | inr x=>rw[hb] at h;cases h;exact⟨x,rfl,rfl⟩
structure BdL(m mp:Nat)(a:BdS):Prop where
 y:a.Y.length=m
 p:a.P.length=mp
 l:∀ x∈a.ls,x.length=m
theorem BdL.step{m e:Nat}{a:BdS}(h:BdL m e a){u v:List Rat}(f:u.length=m)(g:v.length=e):BdL m e ⟨u::a.ls,addQ a.Y u,addQ a.P v⟩:=
 ⟨by show(addQ a.Y u).length=_;rw[Zl,h.y,f,jy],by show(addQ a.P v).length=_;rw[Zl,h.p,g,jy],λx d=>by
  rcases xu.1 d with rfl | d;exact f
  exact h.l x d⟩
theorem Q4d{t:Qm}{s:Qw}{lim:Int}{T H:Rat}{P W:List Rat}{yss:List (List Rat)}{z}(h:bdoQ t s lim T H P W yss=.inr z):∃ x,bstagesQ t s lim T H P W yss s.B.length ⟨[],W,List.replicate P.length 0⟩=.inr x/\z=(x.Y,x.P):=by
 unfold bdoQ at h;cases hs:bstagesQ t s lim T H P W yss s.B.length ⟨[],W,List.replicate P.length 0⟩ with
 | inl f=>rw[hs] at h;cases h
 | inr x=>
   rw[hs] at h;simp only[] at h;cases d:fitQ lim x.Y 0 with
   | some j=>rw[d] at h;cases h
   | none=>
     rw[d] at h;simp only[] at h;cases a:fitQ lim x.P 0 with
     | some j=>rw[a] at h;cases h
     | none=>rw[a] at h;cases h;exact⟨x,rfl,rfl⟩
theorem Qvq{p:Qg}{T H:Rat}{Y W:List Rat}{z}(h:backThQ p T H Y W=.inr z):stepQ p T H Y=.inr z.1/\W.length=Y.length/\bdoQ p.Tape p.Av (limQ p.Ay) T H (rv p.P) W z.1.ys=.inr z.2:=by
 unfold backThQ at h;cases hs:stepQ p T H Y with
 | inl f=>rw[hs] at h;simp only[] at h;split at h<;>cases h
 | inr m=>
   rw[hs] at h;simp only[] at h;by_cases a:W.length=Y.length
   case neg=>rw[oq a] at h;cases h
   rw[oj (by simp[a])] at h;cases hd:bdoQ p.Tape p.Av (limQ p.Ay) T H (rv p.P) W m.ys with
   | inl f=>rw[hd] at h;cases h
   | inr x=>rw[hd] at h;cases h;exact⟨rfl,a,hd⟩
set_option maxRecDepth 100000
def sumN(f:Nat->Rat):Nat->Rat
 | 0=>0
 | i+1=>sumN f i+f i
theorem Q1o{f:Nat->Rat}:∀ {i:Nat},sumN f (i+1)=f 0+sumN (λj=>f (j+1)) i
 | 0=>by simp only[sumN];grind
 | i+1=>by rw[sumN,Q1o (i:=i),sumN];grind
theorem Qgl{f g:Nat->Rat}:∀ {i:Nat},(∀ j,j<i->f j=g j)->sumN f i=sumN g i
 | 0,_=>rfl
 | i+1,h=>by rw[sumN,sumN,Qgl λj a=>h j om,h i om]
def psum(a b:List Rat)(i:Nat):Rat:=sumN (λj=>a.getD j 0*b.getD j 0) i
theorem Qrs{a b:List Rat}{i:Nat}:psum a b (i+1)=psum a b i+a.getD i 0*b.getD i 0:=rfl
theorem Q1p{x y:Rat}{a b:List Rat}{i:Nat}:psum (x::a) (y::b) (i+1)=x*y+psum a b i:=by unfold psum;rw[Q1o];rfl
section
variable {t:Qm}{lim:Int}{T':Rat}{Y' P' vs ds:List Rat}
end
def MCh(p:Qg):Rat->List Rat->List Tri->Rat->List Rat->Prop
 | T,Y,[],E,Z=>E=T/\Z=Y
 | T,Y,x::l,E,Z=>x.1=T/\x.2.2=Y/\∃ z,stepQ p T x.2.1 Y=.inr z/\MCh p (T+x.2.1) z.next l E Z
theorem Qws{p:Qg}:∀ {hs:List Rat}{i:Nat}{T:Rat}{Y:List Rat}{tr:List TryQ}{z},marchQ p hs i T Y tr=.inr z->∃ l:List TryQ,z.1=tr++l/\l.map (·.H)=hs/\MCh p T Y (l.map λt=>(t.T,t.H,t.Y)) z.2.1 z.2.2
 | [],i,T,Y,tr,z,h=>by simp only[marchQ] at h;cases h;exact⟨[],oc,rfl,rfl,rfl⟩
 | x::hs,i,T,Y,tr,z,h=>by
   simp only[marchQ] at h;cases a:stepQ p T x Y with
   | inl f=>rw[a] at h;cases h
   | inr m=>
     rw[a] at h;obtain⟨l,d,e,g⟩:=Qws h;exact⟨⟨T,x,normQ m.err,Y⟩::l,by rw[d,xf];rfl,by simp[e],rfl,rfl,m,a,g⟩
theorem Jdn{p:Qg}:∀(m:Nat) {A:List Tri}{T E:Rat}{Y Z:List Rat},MCh p T Y A E Z->m<A.length->MCh p (A.getD m (0,0,[])).1 (A.getD m (0,0,[])).2.2 (A.drop m) E Z
 | 0,x::l,T,E,Y,Z,h,a=>by obtain⟨d,e,f⟩:=h;show MCh p x.1 x.2.2 (x::l) E Z;rw[d,e];exact⟨d,e,f⟩
 | m+1,x::l,T,E,Y,Z,h,a=>by obtain⟨_,_,z,_,g⟩:=h;exact Jdn m g (by simp only[xn] at a;omega)
 | _,[],_,_,_,_,_,a=>by simp at a
theorem Q6f{p:Qg}:∀(L:Nat) {l:List Tri}{i:Nat}{T E:Rat}{Y Z:List Rat},MCh p T Y l E Z->L<l.length->anewQ p (l.take L) i Y=.inr (((l.take (L+1)).drop 1).map (·.2.2))
 | 0,x::l,i,T,E,Y,Z,h,a=>by simp[anewQ]
 | L+1,x::y::l,i,T,E,Y,Z,h,a=>by obtain⟨e,q,z,f,g⟩:=h;obtain⟨g1,d,g3⟩:=g;simp only[wn,anewQ];rw[e,f];simp only[];have j:=Q6f L (i:=i+1) (show MCh p (T+x.2.1) z.next (y::l) E Z from⟨g1,d,g3⟩) (by simp only[xn] at a |-;omega);rw[j];simp only[wn,jb,dt,yy];rw[<-d]
 | L+1,[x],_,_,_,_,_,_,a=>by simp at a
 | _,[],_,_,_,_,_,_,a=>by simp at a
theorem Jjy{p:Qg}{A:List Tri}{c m:Nat}{T E:Rat}{Y Z:List Rat}(h:MCh p T Y A E Z)(a:m<A.length)(q:1<=c)(g:List Rat×List Rat):segQ p A c m g=swQ p m (segA A c m) ((segA A c m).map (·.2.2)) (min (m+c) A.length - m) g:=by
 have j:=Jdn m h a;have l:=Q6f (p:=p) (min (m+c) A.length - 1 - m) (i:=m) j (by rw[uc];omega);have d:(segA A c m).take (min (m+c) A.length - 1 - m)=(A.drop m).take (min (m+c) A.length - 1 - m):=by unfold segA;rw[List.drop_take,List.take_take];congr 1;omega
 have e:segA A c m=(A.drop m).take (min (m+c) A.length - 1 - m+1):=by unfold segA;rw[List.drop_take];congr 1;omega
 unfold segQ;rw[d,l];simp only[];have f:(A.getD m (0,0,[])).2.2::List.map (·.2.2) (List.drop 1 ((A.drop m).take (min (m+c) A.length - 1 - m+1)))=(segA A c m).map (·.2.2):=by rw[e,xe a,wn,yy,jb,dt,ot,oi a];rfl
 rw[f]
theorem Jfz{p:Qg}{A:List Tri}{c m:Nat}(i:m<=A.length):∀(L:Nat) (g:List Rat×List Rat),L<=min (m+c) A.length - m->swQ p 0 A (A.map (·.2.2)) (m+L) g=match swQ p m (segA A c m) ((segA A c m).map (·.2.2)) L g with | .inl f=>.inl f | .inr z=>swQ p 0 A (A.map (·.2.2)) m z
 | 0,g,_=>rfl
 | L+1,g,j=>by
   have e:(segA A c m)[L]?=A[m+L]?:=by unfold segA;rw[vc,jz om]
   have a:(segA A c m).getD L (0,0,[])=A.getD (m+L) (0,0,[]):=by rw[ot,ot,e]
   have d:((segA A c m).map (·.2.2)).getD L []=(A.map (·.2.2)).getD (m+L) []:=by rw[ot,ot,xm,xm,e]
   show swQ p 0 A (A.map (·.2.2)) (m+L+1) g=_;simp only[swQ];rw[a,d,xg];cases hb:bstQ p (m+L) (A.getD (m+L) (0,0,[])) ((A.map (·.2.2)).getD (m+L) []) g with
   | inl f=>rfl
   | inr z=>exact Jfz i L z om
theorem Q9x{p:Qg}{A:List Tri}{c:Nat}{T E:Rat}{Y Z:List Rat}(h:MCh p T Y A E Z)(a:1<=c):∀(q:Nat) (g:List Rat×List Rat),q<=cnt A.length c->allQ p A c ((mrk A.length c).take q).reverse g=swQ p 0 A (A.map (·.2.2)) (min (q*c) A.length) g
 | 0,g,_=>by simp[allQ,swQ]
 | q+1,g,e=>by
   have d:=(Qf7 a).1 (show q<cnt A.length c by omega);rw[X4 (Qqy (show q<cnt A.length c by omega)),List.reverse_append];simp only[List.reverse_cons,List.reverse_nil,yw,dq,allQ];rw[Jjy h d a,show min ((q+1)*c) A.length=q*c+(min (q*c+c) A.length - q*c) by rw[uz];omega,Jfz (c:=c) (show q*c<=A.length by omega) _ g (xr _)];cases hs:swQ p (q*c) (segA A c (q*c)) ((segA A c (q*c)).map (·.2.2)) (min (q*c+c) A.length - q*c) g with
   | inl f=>rfl
   | inr z=>
     simp only[];rw[Q9x h a q z om,ye om]
theorem Q6g{p:Qg}{A:List Tri}{c:Nat}{T E:Rat}{Y Z:List Rat}(h:MCh p T Y A E Z)(a:1<=c)(g:List Rat×List Rat):allQ p A c (mrk A.length c).reverse g=swQ p 0 A (A.map (·.2.2)) A.length g:=by
 have:=Q9x h a (cnt A.length c) g (xr _);rw[show cnt A.length c=(mrk A.length c).length from(Qmo _ _).symm,xc,Qmo] at this;rw[this];have d:¬ cnt A.length c*c<A.length:=λh=>by have:=(Qf7 a).2 h;omega
 rw[Nat.min_eq_right om]
theorem Q9y{l:List TryQ}{T:Qa}{Y:List Qa}:tri ⟨l.map toTry,T,Y⟩=l.map λt=>(t.T,t.H,t.Y):=by unfold tri okT;rw[List.filter_eq_self.2 (λa d=>by obtain⟨t,_,rfl⟩:=xz.1 d;rfl),yo];refine vt λt _=>?_;show(fv (toF t.T),fv (toF t.H),rv (toR t.Y))=_;rw[Jf,Jf,Wn]
theorem FT_TQ{k m:Nat}{t:TryQ}(h:TQ k m t)(p:m<=1000000):FT k (toTry t):=by
 obtain⟨e,d,g,i,j⟩:=h;refine⟨λf l=>?_,Vd i,by show(toR t.Y).length<=_;rw[Jj,j];exact p⟩;have a:f=toF t.T\/f=toF t.H\/f=toF t.H\/f=toF t.A8:=by simpa [toTry] using l
 rcases a with rfl | rfl | rfl | rfl;exact Jq e;exact Jq d;exact Jq d;exact Jq g
set_option maxRecDepth 100000
structure LinF(F:List Rat->List Rat->List Rat)(n k m:Nat):Prop where
 len:∀ {U V},U.length=n->V.length=k->(F U V).length=m
 lin:∀ {c U1 U2 V1 V2},U1.length=n->U2.length=n->V1.length=k->V2.length=k->F (linQ c U1 U2) (linQ c V1 V2)=linQ c (F U1 V1) (F U2 V2)
def zerQ(n:Nat):List Rat:=List.replicate n 0
def uniQ(n i:Nat):List Rat:=(zerQ n).set i 1
def truQ(U:List Rat)(i:Nat):List Rat:=U.take i++zerQ (U.length - i)
theorem Qbz{n:Nat}:(zerQ n).length=n:=by simp[zerQ]
theorem Qfr{n i:Nat}:(uniQ n i).length=n:=by simp[uniQ,Qbz]
theorem Qq4{U:List Rat}{i:Nat}(h:i<=U.length):(truQ U i).length=U.length:=by simp[truQ,Qbz];omega
theorem Qui{n i:Nat}:(zerQ n).getD i 0=0:=by unfold zerQ;rw[ot,tx];split<;>rfl
theorem Jdo{n i j:Nat}(hi:i<n):(uniQ n i).getD j 0=if j=i then 1 else 0:=by unfold uniQ;rw[ot,List.getElem?_set];by_cases h:i=j;subst h;rw[oq rfl,oq (by rw[Qbz];exact hi),oq rfl];rfl;rw[oj h,oj (λe=>h e.symm),<-ot,Qui]
theorem Q8h{n i:Nat}(h:n<=i):uniQ n i=zerQ n:=by unfold uniQ;exact List.set_eq_of_length_le (by rw[Qbz];exact h)
theorem Jdp{U:List Rat}{i j:Nat}:(truQ U i).getD j 0=if j<i then U.getD j 0 else 0:=by unfold truQ;rw[ot,List.getElem?_append,xa];split;rename_i h;rw[oq om,ur,oq om,ot];rename_i h;rw[<-ot,Qui];split;rename_i a;rw[ot,xd om];rfl;rfl
theorem Quj{a b:List Rat}(h:a.length=b.length)(g:∀ i,i<a.length->a.getD i 0=b.getD i 0):a=b:=by apply vh h;intro i d e;have:=g i d;rw[ot,ot,oi d,oi e] at this;exact this
theorem Jdq{U:List Rat}:truQ U 0=zerQ U.length:=rfl
theorem Jf0{U:List Rat}:truQ U U.length=U:=by unfold truQ;rw[xc,gh];exact uh _
theorem Jdr{U:List Rat}{i:Nat}(h:i<U.length):truQ U (i+1)=linQ (U.getD i 0) (uniQ U.length i) (truQ U i):=by apply Quj;rw[Q2m (by rw[Qfr,Qq4 om]),Qq4 om,Qfr];intro j d;rw[Qmd (by rw[Qfr,Qq4 om]),Jdp,Jdp,Jdo h];by_cases c1:j=i;subst c1;rw[oq om,oq rfl,oj om];grind;rw[oj c1];by_cases a:j<i;rw[oq om,oq a];grind;rw[oj om,oj a];grind
theorem Q8i{c:Rat}{n:Nat}:linQ c (zerQ n) (zerQ n)=zerQ n:=(Qme n).symm
theorem Jlq{c:Rat}{U:List Rat}:linQ c (zerQ U.length) U=U:=by apply Quj;rw[Q2m (by rw[Qbz]),Qbz];intro j a;rw[Qmd (by rw[Qbz]),Qui];grind
section
variable {F:List Rat->List Rat->List Rat}{n k m:Nat}
theorem LinF.zero(a:LinF F n k m){r:Nat}:(F (zerQ n) (zerQ k)).getD r 0=0:=by have e:=a.lin (c:=-1) (U1:=zerQ n) (U2:=zerQ n) (V1:=zerQ k) (V2:=zerQ k) Qbz Qbz Qbz Qbz;rw[Q8i,Q8i] at e;have g:(F (zerQ n) (zerQ k)).getD r 0=(linQ (-1) (F (zerQ n) (zerQ k)) (F (zerQ n) (zerQ k))).getD r 0:=yj (λl:List Rat=>l.getD r 0) e;rw[Qmd rfl] at g;generalize (F (zerQ n) (zerQ k)).getD r 0=x at g;grind
theorem LinF.left(a:LinF F n k m){U:List Rat}{r:Nat}(d:U.length=n):∀ i:Nat,i<=n->(F (truQ U i) (zerQ k)).getD r 0=sumN (λj=>U.getD j 0*(F (uniQ n j) (zerQ k)).getD r 0) i
 | 0,_=>by rw[Jdq,d,a.zero];rfl
 | i+1,h=>by have e:=a.lin (c:=U.getD i 0) (U1:=uniQ n i) (U2:=truQ U i) (V1:=zerQ k) (V2:=zerQ k) Qfr (by rw[Qq4 om,d]) Qbz Qbz;rw[Q8i] at e;rw[Jdr om,d,e,Qmd (by rw[a.len Qfr Qbz,a.len (by rw[Qq4 om,d]) Qbz]),a.left d i om,sumN];grind
theorem LinF.right(f:LinF F n k m){U V:List Rat}{r:Nat}(a:U.length=n)(d:V.length=k):∀ i:Nat,i<=k->(F U (truQ V i)).getD r 0=(F U (zerQ k)).getD r 0+sumN (λj=>V.getD j 0*(F (zerQ n) (uniQ k j)).getD r 0) i
 | 0,_=>by rw[Jdq,d];simp only[sumN];grind
 | i+1,h=>by have e:=f.lin (c:=V.getD i 0) (U1:=zerQ n) (U2:=U) (V1:=uniQ k i) (V2:=truQ V i) Qbz a Qfr (by rw[Qq4 om,d]);rw[<-a,Jlq,a] at e;rw[Jdr om,d,e,Qmd (by rw[f.len Qbz Qfr,f.len a (by rw[Qq4 om,d])]),f.right a d i om,sumN];grind
theorem LinF.all(f:LinF F n k m){U V:List Rat}{r:Nat}(a:U.length=n)(g:V.length=k):
 (F U V).getD r 0=sumN (λj=>U.getD j 0*(F (uniQ n j) (zerQ k)).getD r 0) n+sumN (λj=>V.getD j 0*(F (zerQ n) (uniQ k j)).getD r 0) k:=by
 have d:=f.right (r:=r) a g k (xr _);have e:=f.left (r:=r) a n (xr _);rw[show truQ V k=V by rw[<-g,Jf0]] at d;rw[show truQ U n=U by rw[<-a,Jf0]] at e;rw[d,e]
end
theorem Qod{n m:Nat}{x:Int}(hn:big<=n)(e:m<=300):Z5 n (m:Int) x=some (toR (if 0<=x then uniQ m x.toNat else zerQ m)):=by
 unfold Z5;rw[Qf1 hn e,sbind];simp only[jn_eq,Jj,yt];by_cases h:0<=x;rw[ol h,bifT,oq h];by_cases a:x<(m:Int);rw[ol a,bifT,Qf0 hn,sbind];have d:getI (toR (List.replicate m 0)) x=some (toF 0):=by
  have:x=((x.toNat:Nat):Int):=om
  rw[this,Qfh];unfold toR;rw[xm,tx,oq om];rfl
 rw[d,sbind];unfold toR uniQ zerQ;rw[List.map_set];rw[oo a,bifF,Q8h om];rfl;rw[oo h,bifF,bifF,oj h];rfl
set_option maxRecDepth 100000
theorem Qxx{n i:Nat}:FR 129 (toR (uniQ n i)):=Vd (Jb (Jjl (Qmb n) (by rw[Qxu];exact xr 1)) oz)
theorem Q9z{n k:Nat}{p:Qg}{h:Qt}{x:Int}(hn:big<=n)(h0:129<=k)(hk:k<8000)(V:PrbW k p)(S:h.Aw.length<=200)(U:∀ t∈h.Aw,FT k t)(O:Fk k h.T)(P:FR k h.Y)(R:h.Y.length<=200)(Q:1<=h.Y.length):
 ∃ r,Qdh n p h x=some r/\(r.2.Ax≠0\/(r.2=⟨0,0,0,0⟩/\∃ G:List (List Rat×List Rat),G.length=h.Y.length/\(∀(i:Nat) g,G[i]?=some g->sweepQ p h (uniQ h.Y.length i) (cutI x)=.inr g)/\r.1=⟨toRR (G.map (·.1)),toRR (G.map (·.2))⟩)):=by
 unfold Qdh;have s:max (h.Y.length:Int) (1:Int)=((h.Y.length:Nat):Int):=om
 rw[s]
 have A:∀(d i m:Nat) (G:List (List Rat×List Rat)),i+d=h.Y.length->d<m->G.length=i->(∀(j:Nat) g,G[j]?=some g->sweepQ p h (uniQ h.Y.length j) (cutI x)=.inr g) ->
  ∃ r,(loopM (λ(a:(List (List Qa))×(List (List Qa))×Int)=>
  bif decide (a.2.2<((h.Y.length:Nat):Int)) then (
   (Z5 n (h.Y.length:Int) a.2.2).bind λB=>
   (Qff n p h B x).bind λl=>
   bif !(Qs l.2 (⟨0,0,0,0⟩:Qe)) then (
    some (Lp.out (Lp.out (((⟨[],[]⟩:Xg),l.2)))))
   else (
    (appM 24 a.1 ([l.1.Y]:List (List Qa))).bind λC=>
    (appM 24 a.2.1 ([l.1.P]:List (List Qa))).bind λE=>
    some (Lp.go (C,E,wrap64 (a.2.2+(1:Int))))))
  else (
   some (Lp.out (Lp.go (a.1,a.2.1))))) m (toRR (G.map (·.1)),toRR (G.map (·.2)),(i:Int))).bind (lpK λ(u:(List (List Qa))×(List (List Qa)))=>
 some ((⟨u.1,u.2⟩:Xg),(⟨0,0,0,0⟩:Qe)))=some r/\(r.2.Ax≠0\/(r.2=⟨0,0,0,0⟩/\∃ G:List (List Rat×List Rat),G.length=h.Y.length/\(∀(i:Nat) g,G[i]?=some g->sweepQ p h (uniQ h.Y.length i) (cutI x)=.inr g)/\r.1=⟨toRR (G.map (·.1)),toRR (G.map (·.2))⟩)):=by
  intro d
  induction d with
  | zero=>
    intro i m G hi T N v;rw[Kz (t:=Lp.go (toRR (G.map (·.1)),toRR (G.map (·.2)))) (by simp only[];rw[oo om,bifF]) om,sbind,Vn];exact⟨_,rfl,.inr ⟨rfl,G,om,v,rfl⟩⟩
  | succ d W=>
    intro i m G hi T N v;obtain⟨m',rfl⟩:∃ m',m=m'+1:=⟨m - 1,om⟩
    have J:Z5 n (h.Y.length:Int) (i:Int)=some (toR (uniQ h.Y.length i)):=by rw[Qod hn om,oq om,ya]
    obtain⟨q,H,L⟩:=Qif (n:=n) (k:=k) (p:=p) (h:=h) (w:=toR (uniQ h.Y.length i)) (x:=x) hn h0 hk V S U O P om (Vf Qxx h0) (by rw[Jj,Qfr];omega);rw[Wn] at q H L;cases hs:sweepQ p h (uniQ h.Y.length i) (cutI x) with
    | inl f=>
      have K:=H f hs;rw[hs] at q
      rw[Kz (t:=Lp.out (⟨[],[]⟩,f)) (by
       simp only[];rw[ol om,bifT,J,sbind,q,sbind];simp only[]
       rw[show Qs f ⟨0,0,0,0⟩=false by obtain⟨X,Y,f3,f4⟩:=f;exact Ky K,ow,bifT]) om,sbind,Yz]
      exact⟨_,rfl,.inl K⟩
    | inr g=>
      rw[hs] at q
      rw[Qau (s':=(toRR ((G++[g]).map (·.1)),toRR ((G++[g]).map (·.2)),((i+1:Nat):Int))) (by
       simp only[];rw[ol om,bifT,J,sbind,q,sbind];simp only[];rw[Kk,ou,bifF,J5 (by simp[Vi];omega) (by simp[Vi];omega),sbind,J5 (by simp[Vi];omega) (by simp[Vi];omega),sbind,w1 om]
       simp[toRR])]
      refine W (i+1) m' (G++[g]) om om oh λj M e=>?_;by_cases y:j<G.length;rw[yh y] at e;exact v j M e;rw[yz om] at e;have:j=i:=by rcases xl (j - G.length) 1 with I | I;omega;rw[xd (by simpa using I)] at e;cases e
      subst this;rw[show j - G.length=0 by omega] at e;cases e;exact hs
 exact A h.Y.length 0 n [] om (by unfold big at hn;omega) rfl (λj g e=>by simp at e)
theorem w45:V4 big=some true:=ox
end Go.Proofs.YtbdgngdpkdagoaaGreatDoor
