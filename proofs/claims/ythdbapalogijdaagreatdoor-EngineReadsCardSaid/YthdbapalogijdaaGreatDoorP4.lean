import Derived.Test.YthdbapalogijdaaGreatDoorP3
namespace Go.Proofs.YthdbapalogijdaaGreatDoor
open Go Go.RowKit
variable{k m L i w:Nat}{ls ws o:List Int}{x:Qi}{c:List Qi}{C:List (List Qi)}{p:Int}{t:Jq}{nm s:Be}{q:Rat}
set_option maxRecDepth 100000
theorem Q7y{n:Nat}{f:Qa}(d:aq<=n)(hk:k<274877906944)(a:1<=k)(hf:Fk k (tF f)):W7 n f=some (!dP (ba (tF f))):=by unfold W7;simp only[ai];rw[KV _ d hk a hf,fC];unfold ba;by_cases c:tF f=ce (fv (tF f));rw[ot c];have e:rF (fr f)=f:=FT.2 c;have g:=RJ (q:=fr f) d hk (gZ (gC hf) a);grind[kK,cq,aL];simp_all[aL]
theorem Q56{n:Nat}{r:Qx}(i:aq<=n)(j:1<=k)(hk:k<1048576)(F:lZ k (tR r)):∃ w,BB n r=some w/\decide (w=0)=dP (jA (tR r)):=by
 obtain⟨w1,w2,G,H,w5⟩:=F.all;unfold BB;simp only[ai];rw[KG i,aa];have a:∀ {f:Qa},Fk k (tF f)->W7 n f=some (!dP (ba (tF f))):=λh=>Q7y i om j h;have no:¬ jA (tR r)->∀ w:Int,w≠0->∃ v,some w=some v/\decide (v=0)=dP (jA (tR r)):=λh w F=>⟨w,rfl,by grind[aL]⟩
 rw[a (f:=r.Tol) w1,aa];by_cases s:ba (tF r.Tol)
 case neg=>rw[aL s];exact no (λh=>s (h.f _ (by show tF r.Tol∈[tF r.Tol,tF r.A6,tF r.Low,tF r.A9,tF r.A4];simp))) 1 oc
 rw[cq s,ow,ak,a (f:=r.A6) w2,aa];by_cases t:ba (tF r.A6)
 case neg=>rw[aL t];exact no (λh=>t (h.f _ (by show tF r.A6∈[tF r.Tol,tF r.A6,tF r.Low,tF r.A9,tF r.A4];simp))) 1 oc
 rw[cq t,ow,ak,a (f:=r.Low) G,aa];by_cases u:ba (tF r.Low)
 case neg=>rw[aL u];exact no (λh=>u (h.f _ (by show tF r.Low∈[tF r.Tol,tF r.A6,tF r.Low,tF r.A9,tF r.A4];simp))) 1 oc
 rw[cq u,ow,ak,a (f:=r.A9) H,aa];by_cases y:ba (tF r.A9)
 case neg=>rw[aL y];exact no (λh=>y (h.f _ (by show tF r.A9∈[tF r.Tol,tF r.A6,tF r.Low,tF r.A9,tF r.A4];simp))) 1 oc
 rw[cq y,ow,ak,a (f:=r.A4) w5,aa];by_cases A:ba (tF r.A4)
 case neg=>rw[aL A];exact no (λh=>A (h.f _ (by show tF r.A4∈[tF r.Tol,tF r.A6,tF r.Low,tF r.A9,tF r.A4];simp))) 1 oc
 rw[cq A,ow,ak]
 have f0:ng (tR r):=λx X=>by have Y:x∈[tF r.Tol,tF r.A6,tF r.Low,tF r.A9,tF r.A4]:=X;grind
 have Z:=gZ (gC w2) j;have q3:=gZ (gC G) j;have q4:=gZ (gC H) j;have g1:Kw r.Tol=some (fr r.Tol).num.sign:=by grind[wN,pf]
 have S:Kw r.A6=some (fr r.A6).num.sign:=by grind[wN,pf]
 have g3:Kw r.Low=some (fr r.Low).num.sign:=by grind[wN,pf]
 have T:Kw r.A4=some (fr r.A4).num.sign:=by grind[wN,pf]
 have m:qw (1:Rat)<=k:=by grind[Lb]
 have U:V5 n r.A6 (rF 1)=some (fr r.A6 - 1).num.sign:=by have:=Fz (p:=fr r.A6) (q:=1) (k:=k) i om Z m;grind[pf]
 have V:V5 n r.Low (rF 1)=some (fr r.Low - 1).num.sign:=by have:=Fz (p:=fr r.Low) (q:=1) (k:=k) i om q3 m;grind[pf]
 have W:V5 n r.A9 (rF 1)=some (fr r.A9 - 1).num.sign:=by have:=Fz (p:=fr r.A9) (q:=1) (k:=k) i om q4 m;grind[pf]
 rw[g1,aa];by_cases c2:(fr r.Tol).num.sign<0
 . rw[ou c2];exact no (λh=>by have:0<=(fr r.Tol).num.sign:=h.tol;omega) 2 oc
 rw[ov c2,ak,S,aa];by_cases c3:(fr r.A6).num.sign<=0
 . rw[ou c3];exact no (λh=>by have:0<(fr r.A6).num.sign:=h.safe;omega) 3 oc
 rw[ov c3,ak,U,aa];by_cases c4:0<(fr r.A6 - 1).num.sign
 . rw[ou c4];exact no (λh=>by have:(fr r.A6 - 1).num.sign<=0:=h.safe1;omega) 3 oc
 rw[ov c4,ak,g3,aa];by_cases c5:(fr r.Low).num.sign<=0
 . rw[ou c5];exact no (λh=>by have:0<(fr r.Low).num.sign:=h.low;omega) 4 oc
 rw[ov c5,ak,V,aa];by_cases B:0<=(fr r.Low - 1).num.sign
 . rw[ou B];exact no (λh=>by have:(fr r.Low - 1).num.sign<0:=h.low1;omega) 4 oc
 rw[ov B,ak,W,aa];by_cases C:(fr r.A9 - 1).num.sign<0
 . rw[ou C];exact no (λh=>by have:0<=(fr r.A9 - 1).num.sign:=h.high;omega) 5 oc
 rw[ov C,ak,T,aa];by_cases E:(fr r.A4).num.sign<=0
 . rw[ou E];exact no (λh=>by have:0<(fr r.A4).num.sign:=h.least;omega) 6 oc
 rw[ov E,ak];by_cases c9:r.Fine<1
 . rw[ou c9];exact no (λh=>by have:1<=r.Fine:=h.fine.1;omega) 7 oc
 rw[ov c9,ak];by_cases d:1024<r.Fine
 . rw[ou d];exact no (λh=>by have:r.Fine<=1024:=h.fine.2;omega) 7 oc
 rw[ov d,ak];by_cases e:r.Most<1
 . rw[ou e];exact no (λh=>by have:1<=r.Most:=h.most.1;omega) 8 oc
 rw[ov e,ak];by_cases g:200<r.Most
 . rw[ou g];exact no (λh=>by have:r.Most<=200:=h.most.2;omega) 8 oc
 rw[ov g,ak];have J:0<(fr r.A6).num.sign:=om
 have I:0<=(fr r.Tol).num.sign:=om
 have K:(fr r.A6 - 1).num.sign<=0:=om
 have L:0<(fr r.Low).num.sign:=om
 have M:(fr r.Low - 1).num.sign<0:=om
 have N:0<=(fr r.A9 - 1).num.sign:=om
 have O:0<(fr r.A4).num.sign:=om
 have P:1<=r.Fine/\r.Fine<=1024:=om
 have Q:1<=r.Most/\r.Most<=200:=om
 exact⟨0,rfl,by rw[cq (show jA (tR r) from⟨f0,I,J,K,L,M,N,O,P,Q⟩)];rfl⟩
abbrev dW:=Int×Int×Int×Nat
def cv(x:dW):Jk:=⟨x.1,x.2.1,x.2.2.1,if x.1=1 then ce (x.2.2.2:Rat) else ⟨⟨false,[]⟩,[]⟩⟩
def bz(x:dW):Qw:=⟨x.1,x.2.1,x.2.2.1,if x.1=1 then rF (x.2.2.2:Rat) else ⟨false,[],[]⟩⟩
def iS(x:dW):K7:=⟨x.1,x.2.1,x.2.2.1,if x.1=1 then fQ x.2.2.2 else []⟩
def fW(x:dW):Prop:=(x.1≠1->x.2.2.2=0)/\(ay x.2.2.2).length<=100000
theorem Jms{a b:Nat}(h:fQ a=fQ b):a=b:=by grind[RY]
theorem CE(x y:K7):nS x y=true↔x=y:=by cases x;cases y;grind[nS]
theorem Jkt{x y:dW}(p:fW x)(q:fW y):iS x=iS y↔x=y:=by
 constructor;intro h;unfold iS at h;simp only[K7.mk.injEq] at h;obtain⟨g,i,j,k⟩:=h;have m:x.2.2.2=y.2.2.2:=by by_cases e:x.1=1;rw[ot e,ot (g ▸ e)] at k;exact Jms k;rw[p.1 e,q.1 (g ▸ e)]
 obtain⟨a,b,c,d⟩:=x;obtain⟨r,s,t,u⟩:=y;simp only[] at g i j m;subst g;subst i;subst j;subst m;rfl;grind
def ir:Nat->List dW->List (K7×Int)
 | _,[]=>[]
 | i,x::r=>(iS x,(i:Int))::ir (i+1) r
theorem TZ(x:dW):∀(l:List dW) (i:Nat),ir i (l++[x])=ir i l++[(iS x,((i+l.length:Nat):Int))]
 | [],i=>oe
 | y::l,i=>by simp only[yr,ir,TZ x l (i+1),xd];rw[show i+1+l.length=i+(l.length+1) by omega]
theorem T5{x:dW}(a:fW x):∀(l:List dW) (i:Nat),(∀ y∈l,fW y)->dU nS (ir i l) (iS x)=if x∈l then some ((i+l.idxOf x:Nat):Int) else none
 | [],i,_=>oe
 | y::l,i,h=>by simp only[ir,dU];have d:=Jkt a (h y (.head _));by_cases e:x=y;subst e;rw[(CE _ _).2 rfl,aj,ot (.head _)];simp;rw[Bool.eq_false_iff.2 (λq=>e (d.1 ((CE _ _).1 q))),ak,T5 a l (i+1) ol];grind
def eK(l:List dW)(x:dW):Nat×List dW:=if x∈l then (l.idxOf x,l) else (l.length,l++[x])
theorem CF{n:Nat}(h:n<=100000):wrap64 ((n+1:Nat) - 1:Int)=(n:Int):=by grind[aK]
theorem Mf{n:Nat}{l:List dW}{x:dW}(p:aq<=n)(j:l.length<=100000)(a:fW x)(h:∀ y∈l,fW y):
 sn n (l.map cv) (ir 0 l) ls ws (cv x)=some (((eK l x).1:Int),(eK l x).2.map cv,ir 0 (eK l x).2):=by
 have key:∀ k:K7,k=iS x ->
  (bif (dU nS (ir 0 l) k).isSome then (some (((dU nS (ir 0 l) k).getD 0),l.map cv,ir 0 l)) else ((eQ (dU nS (ir 0 l) k).isNone).bind λ_=>(az 80 (l.map cv) ([cv x]:List Jk)).bind λd=>
   some (wrap64 ((d.length:Int) - 1),d,(ir 0 l++[(k,((l.map cv).length:Int))]))))=some (((eK l x).1:Int),(eK l x).2.map cv,ir 0 (eK l x).2):=by
  rintro k rfl;rw[T5 a l 0 h];unfold eK;by_cases m:x∈l;rw[ot m,ot m];simp;rw[oq m,oq m];simp only[Option.isSome_none,Option.isNone_none,ak];rw[dn rfl,aa,Jv oj oj,aa,TZ];simp only[xo,xf,xd,yn,vi,xt,List.map_nil,xx];rw[CF j]
 unfold sn;simp only[ai];by_cases e:x.1=1;have g:(cv x).Op=1:=e;rw[g,ou rfl,aj];have i:(cv x).N.Num.A7=ay x.2.2.2:=by unfold cv;simp only[];rw[ot e];unfold ce fu;simp
 rw[i,KJ p (xz a.2 oc) (Jh _),aa];refine key _ ?_;unfold iS;rw[ot e,Q6];rw[e];rfl;simp_all[cv,iS]
theorem Jku{l:List dW}{x:dW}:∀ {i:Nat},l[i]?=some x->(∀ j,j<i->l[j]?≠some x)->l.idxOf x=i:=by
 induction l with
 | nil=>simp
 | cons y l g=>
   intro i h a;cases i with
   | zero=>grind
   | succ i=>
     have d:y≠x:=λe=>a 0 oh (by simp[e]);grind
theorem Jkv{l:List dW}(h:k<l.length):ah (l.map bz) (k:Int)=some (bz l[k]):=by grind[Wx]
theorem Q7z{n:Nat}{l:List dW}{x:dW}(a:aq<=n)(B:l.length<=100000)(g:fW x)(h:∀ y∈l,fW y):
 Wf n (l.map bz) ws (bz x)=some (((eK l x).1:Int),(eK l x).2.map bz):=by
 unfold Wf;simp only[ai]
 refine Ws (λs=>l.length - s.toNat) (λs=>0<=s/\s<=(l.length:Int)/\∀ j:Nat,(j:Int)<s->l[j]?≠some x)
  (λt=>t=if x∈l then .out ((l.idxOf x:Int),l.map bz) else .go ()) ⟨om,om,λj A=>om⟩ (xh (Nat.sub_le _ _) (xr (by grind[aq]) a)) ?_ ?_
 . rintro s ⟨h0,v,w⟩
   obtain⟨k,rfl⟩:∃ k:Nat,s=(k:Int):=⟨s.toNat,om⟩
   by_cases hk:k<l.length
   case neg=>
    refine .inr ⟨.go (),by rw[ov oj,ak],?_⟩;grind
   rw[ou ol,aj,Jkv hk,aa];have E:l[k]?=some l[k]:=xm hk
   have same:∀(r:Bool),(r=true↔x=l[k])->(∃ s',(bif r then some (Lp.out (Lp.out ((k:Int),l.map bz))) else some (Lp.go (wrap64 ((k:Int)+(1:Int)))))=some (Lp.go s':Lp Int (Lp Unit (Int×List Qw)))/\(0<=s'/\s'<=(l.length:Int)/\∀ j:Nat,(j:Int)<s'->l[j]?≠some x)/\l.length - s'.toNat<l.length - (k:Int).toNat) \/
    ∃ t,(bif r then some (Lp.out (Lp.out ((k:Int),l.map bz))) else some (Lp.go (wrap64 ((k:Int)+(1:Int)))))=some (Lp.out t)/\t=if x∈l then .out ((l.idxOf x:Int),l.map bz) else .go ():=by
    intro r d;by_cases e:x=l[k]
    . rw[d.2 e,aj]
      refine .inr ⟨_,rfl,?_⟩;rw[ot (e ▸ uz hk),Jku (i:=k) ol (λj A=>w j om)]
    . rw[Bool.eq_false_iff.2 (λq=>e (d.1 q)),ak]
      refine .inl ⟨_,rfl,?_⟩;rw[w1 om];grind
   have F:=h _ (uz hk);generalize G:l[k]=y at *;have J:(bz x).Op=x.1:=rfl;have K:(bz y).Op=y.1:=rfl;have a1:(bz x).A=x.2.1:=rfl;have a2:(bz y).A=y.2.1:=rfl;have p:(bz x).B=x.2.2.1:=rfl;have u:(bz y).B=y.2.2.1:=rfl;rw[J,K,a1,a2,p,u];have ext:x.1=y.1->x.2.1=y.2.1->x.2.2.1=y.2.2.1->x.2.2.2=y.2.2.2->x=y:=ol
   by_cases c1:x.1=y.1
   case neg=>rw[ov c1,ak];exact same false ⟨λq=>(by cases q),λq=>absurd (by rw[q]) c1⟩
   by_cases c2:x.2.1=y.2.1
   case neg=>rw[ou c1,aj,ov c2,ak];exact same false ⟨λq=>(by cases q),λq=>absurd (by rw[q]) c2⟩
   by_cases c3:x.2.2.1=y.2.2.1
   case neg=>rw[ou c1,aj,ou c2,aj,ov c3,ak];exact same false ⟨λq=>(by cases q),λq=>absurd (by rw[q]) c3⟩
   rw[ou c1,aj,ou c2,aj,ou c3,aj];by_cases c4:x.1=1
   case neg=>
    rw[ov c4,xn,aj];exact same true ⟨λ_=>ext c1 c2 c3 (by rw[g.1 c4,F.1 (c1 ▸ c4)]),λ_=>rfl⟩
   rw[ou c4,ow,ak];have H:(bz x).N=rF (x.2.2.2:Rat):=by unfold bz;grind
   have I:(bz y).N=rF (y.2.2.2:Rat):=by unfold bz;grind
   have C:qw (x.2.2.2:Rat)<=100001:=by have:=g.2;unfold qw;simp only[Rat.num_natCast,Rat.den_natCast,vv];have v:(ay 1).length<=1:=Wn (by unfold bp;decide);omega
   rw[H,I,FA a oc C,aa];exact same _ ⟨λq=>ext c1 c2 c3 (by have:=wd q;exact Rat.natCast_inj.1 this),λq=>ou (by rw[q])⟩
 . rintro t rfl
   unfold eK;by_cases m:x∈l
   . rw[ot m,ot m,Yy]
   . rw[oq m,oq m,Vp,Jv oj oj,aa]
     simp only[xo,xf,xd,yn,vi,xt,List.map_nil,xx];rw[CF B]
abbrev CS:=List dW×List Int×List Int
def jO(o:List Int):Int:=(o[o.length - 1]?).getD 0
def qy(o:List Int):Int:=(o[o.length - 2]?).getD 0
def gF(o:List Int)(x:Qi):dW:=
 if x.Op=1 then (1,0,0,val x.N) else if x.Op=2\/x.Op=3\/x.Op=4 then (x.Op,x.I,0,0) else if x.Op=6\/x.Op=11 then (x.Op,jO o,x.I,0) else (x.Op,qy o,jO o,0)
def l5(ls:List Int)(l:List dW)(o:List Int)(x:Qi):Int×List dW:=
 if x.Op=5 then ((ls[x.I.toNat]?).getD 0,l) else (((eK l (gF o x)).1:Int),(eK l (gF o x)).2)
def jc(ls:List Int)(s:CS)(x:Qi):CS:=
 ((l5 ls s.1 s.2.2 x).2,s.2.1++[(l5 ls s.1 s.2.2 x).1],s.2.2.take (s.2.2.length - (ar x.Op).toNat)++[(l5 ls s.1 s.2.2 x).1])
def CI(m:Nat)(l:List dW):Prop:=l.length<=m/\∀ y∈l,fW y
theorem Mg(a:NB x):fW (gF o x):=by
 have h0:(ay 0).length<=100000:=by grind[W3]
 unfold gF;split;refine⟨oh,?_⟩;show(ay (val x.N)).length<=100000;rw[Ke a.2];exact xz (Wy _) a.1;rename_i d;split;exact⟨λ_=>rfl,h0⟩;split;exact⟨λ_=>rfl,h0⟩;exact⟨λ_=>rfl,h0⟩
theorem Jmt{l:List dW}{x:dW}(h:CI m l)(d:fW x):CI (m+1) (eK l x).2/\(eK l x).1<m+1:=by unfold eK;by_cases c:x∈l;rw[ot c];refine⟨⟨Nat.le_succ_of_le h.1,h.2⟩,?_⟩;have:=List.idxOf_lt_length_iff.2 c;have:=h.1;omega;rw[oq c];refine⟨⟨by simp;exact h.1,λy a=>?_⟩,Nat.lt_succ_of_le h.1⟩;rcases yz.1 a with a | a;exact h.2 y a;grind
theorem Jo0{s:CS}(h:CI m s.1)(a:NB x):CI (m+1) (jc ls s x).1:=by unfold jc l5;split;exact⟨Nat.le_succ_of_le h.1,h.2⟩;grind[Jmt,Mg]
def Hg(L:Nat)(o:List Int)(x:Qi):Prop:=cP x 6 6 (L:Int)=true/\NB x/\0<=ar x.Op/\ar x.Op<=(o.length:Int)
theorem Hh(h:1<=o.length)(a:o.length<=100000):ah o (wrap64 ((o.length:Int) - 1))=some (jO o):=by grind[aK,oW,jO]
theorem T6(h:2<=o.length)(a:o.length<=100000):ah o (wrap64 ((o.length:Int) - 2))=some (qy o):=by grind[aK,oW,qy]
theorem CG(N:Bf):mkRat (wv (⟨false,N⟩:Qg)) (val [1])=((val N:Nat):Rat):=by
 have a:val [1]=1:=oe
 rw[a];show mkRat (val N:Int) 1=_;rw[Rat.mkRat_one];rfl
theorem Q70{n:Nat}(d:aq<=n)(h:Hg L o x)(h0:ar x.Op=0)(g:x.Op≠5):AN n x=some (cv (gF o x)):=by
 unfold AN;have a:Wd [1]:=λy i=>ol
 rcases nf h0 h.1 with ⟨e,i0,_,_⟩ | ⟨e,i0,eN⟩ | ⟨e,_,_,_⟩ | ⟨e,_,_,_⟩ | ⟨e,_⟩
 . rw[e,ou rfl,aj,FW d ⟨h.2.1.2,xh h.2.1.1 oc⟩ a oc (by simp[val]),aa,CG]
   simp_all[gF,cv]
 . rw[e,ov oc,ak,ou rfl,aj]
   simp_all[gF,cv]
 all_goals simp_all[gF,cv]
theorem Q71{n:Nat}{l:List dW}(j:aq<=n)(i:CI 100000 l)(h:Hg L o x)(p:ls.length=L)(k:o.length<=100000):
 AO n (l.map cv) (ir 0 l) ls ws x o=some ((l5 ls l o x).1,(l5 ls l o x).2.map cv,ir 0 (l5 ls l o x).2):=by
 unfold AO l5;by_cases g:x.Op=5
 . rw[ou g,aj,ot g]
   rcases nf (by rw[g];decide) h.1 with ⟨e,_⟩ | ⟨e,_⟩ | ⟨e,_⟩ | ⟨e,_⟩ | ⟨_,i0,q,_⟩
   all_goals grind[Wx]
 rw[ov g,ak,oq g,B7,aa];have hi:=Mg (o:=o) h.2.1;rcases qk x.Op with a | a | a | a
 . rw[a,ou rfl,aj,Q70 j h a g,aa,Mf j i.1 hi i.2,aa]
 . have d:=h.2.2.2;rw[a] at d
   have m:=TQ a;rw[a,ov oc,ak,aa,ou rfl,aj,Hh om k,aa];have:(⟨x.Op,jO o,x.I,(⟨(⟨false,[]⟩:Qg),[]⟩:Qb)⟩:Jk)=cv (gF o x):=by grind[gF,cv]
   rw[this,Mf j i.1 hi i.2,aa]
 . have d:=h.2.2.2;rw[a] at d
   have m:=TR a;rw[a,ov oc,ak,aa,ov oc,ak,T6 om k,aa,Hh om k,aa];have:(⟨x.Op,qy o,jO o,(⟨(⟨false,[]⟩:Qg),[]⟩:Qb)⟩:Jk)=cv (gF o x):=by grind[gF,cv]
   rw[this,Mf j i.1 hi i.2,aa]
 . have:=h.2.2.1;omega
def ij(ls:List Int)(c:List Qi)(s:CS)(i:Nat):CS:=(c.take i).foldl (jc ls) s
theorem Jkw(ls c s):ij ls c s 0=s:=rfl
theorem CH{s:CS}(h:c[i]?=some x):ij ls c s (i+1)=jc ls (ij ls c s i) x:=by grind[ij,Kd]
theorem CJ(ls c s):ij ls c s c.length=c.foldl (jc ls) s:=by grind[ij]
theorem Jmu{s:CS}(h0:0<=ar x.Op)(a:ar x.Op<=(s.2.2.length:Int)):((jc ls s x).2.2.length:Int)=s.2.2.length+1 - ar x.Op:=by grind[jc]
structure qA(L:Nat)(c:List Qi):Prop where
 wr:bU c<0
 nd:∀ x∈c,cP x 6 6 (L:Int)=true/\NB x
 len:c.length<=1000
theorem CK{L:Nat}{ls:List Int}{c:List Qi}{s:CS}(h:qA L c)(h0:s.2.2=[]):∀ i,i<=c.length->(ij ls c s i).2.2.length=(fD c i).length
 | 0,_=>by rw[Jkw,h0];rfl
 | i+1,hi=>by have a:c[i]?=some c[i]:=xm om;have d:=CK (ls:=ls) h h0 i om;obtain⟨a0,a1⟩:=(B8 c h.wr).1 i om _ a;have e:=Jmu (ls:=ls) (s:=ij ls c s i) a0 (by rw[d];exact a1);rw[CH a,sM a];have g:=FG (i:=i) a0 a1;rw[d] at e;omega
theorem Hi{L:Nat}{ls:List Int}{c:List Qi}{s:CS}{m:Nat}(h:qA L c)(a:CI m s.1):∀ i,i<=c.length->CI (m+i) (ij ls c s i).1
 | 0,_=>a
 | i+1,hi=>by have d:c[i]?=some c[i]:=xm om;rw[CH d];exact Jo0 (Hi h a i om) (h.nd _ oh).2
theorem Hj{ls:List Int}{c:List Qi}{s:CS}:∀ i,i<=c.length->(ij ls c s i).2.1.length=s.2.1.length+i
 | 0,_=>rfl
 | i+1,hi=>by have a:c[i]?=some c[i]:=xm om;rw[CH a];unfold jc;simp only[xo,xd,yn];rw[Hj i om];omega
def jd(ls:List Int)(l:List dW)(w:List Int)(c:List Qi):Int×List dW×List Int:=
 let S:=c.foldl (jc ls) (l,w,[]);((S.2.2[0]?).getD 0,S.1,S.2.1)
theorem T7{a:Int}(h0:0<=a)(d:a<=(o.length:Int))(e:o.length<=100000):sub o 0 (wrap64 ((o.length:Int) - a))=some (o.take (o.length - a.toNat)):=by grind[aK,qa]
theorem T8{n:Nat}{l:List dW}{w:List Int}(v:aq<=n)(h:qA L c)(u:CI m l)(B:m+c.length<=100000)(t:ls.length=L)(C:w.length<=100000):
 vG n (l.map cv) (ir 0 l) ls w c=some ((jd ls l w c).1,(jd ls l w c).2.1.map cv,ir 0 (jd ls l w c).2.1,(jd ls l w c).2.2):=by
 unfold vG;have p:=h.len;have hk:=B8 c h.wr;refine(wK (λi=>((ij ls c (l,w,[]) i).1.map cv,ir 0 (ij ls c (l,w,[]) i).1,(ij ls c (l,w,[]) i).2.1,(ij ls c (l,w,[]) i).2.2)) c ?_ rfl).trans ?_
 rotate_left
 . rw[Vp]
   simp only[CJ];have e:=CK (ls:=ls) (s:=(l,w,[])) h rfl c.length oh;rw[hk.2,CJ] at e;have r:0<(c.foldl (jc ls) (l,w,[])).2.2.length:=om
   rw[show 0=((0:Nat):Int) from rfl,Wx r,aa];grind[jd]
 . intro i x d
   have hi:=Vh d;have a:=mt d;obtain⟨a0,a1⟩:=hk.1 i hi _ d;have e:=CK (ls:=ls) (s:=(l,w,[])) h rfl i om;have y:=R6 i (λj A=>hk.1 j om) om;have q:=Hj (ls:=ls) (s:=(l,w,[])) i (by omega:i<=c.length);have g:=Hi (ls:=ls) (s:=(l,w,[])) h u i om;simp only[] at q |-;rw[CH d];generalize ij ls c (l,w,[]) i=S at *;have k:Hg L S.2.2 x:=⟨(h.nd x a).1,(h.nd x a).2,a0,om⟩
   rw[Q71 v ⟨xz g.1 om,g.2⟩ k t om,aa,Jv ol ol,aa,B7,aa,T7 a0 k.2.2.2 om,aa,Jv ol ol,aa];rfl
theorem Mh{n:Nat}{N:Bf}(g:aq<=n)(d:Wd N)(i:N.length<=100000):J9 n (⟨false,N,([1]:Bf)⟩:Qa)=some (rF ((val N:Nat):Rat)):=by
 have a:Wd [1]:=λy j=>ol
 rw[o8 g d a ol oh];have:fr (⟨false,N,([1]:Bf)⟩:Qa)=((val N:Nat):Rat):=by have e:=CG N;grind[fr,wv]
 rw[this]
theorem T9{n:Nat}{l:List dW}{w:List Int}{C:List Qd}(F:aq<=n)(P:C.map cN=c)(h:qA L c)(O:CI m l)(hm:m+c.length<=100000)(hL:ls.length=L)(hw:w.length<=100000):
 W6 n (l.map bz) w C ls=some ((jd ls l w c).1,(jd ls l w c).2.1.map bz,(jd ls l w c).2.2):=by
 unfold W6;have K:=h.len;have hk:=B8 c h.wr;have U:C.length=c.length:=ol
 refine(jg (λi=>((ij ls c (l,w,[]) i).1.map bz,(ij ls c (l,w,[]) i).2.1,(ij ls c (l,w,[]) i).2.2,(i:Int))) c.length ((ij ls c (l,w,[]) c.length).1.map bz,(ij ls c (l,w,[]) c.length).2.1,(ij ls c (l,w,[]) c.length).2.2) ?_ ?_ (xr (by grind[aq]) F) rfl).trans ?_
 rotate_left
 . grind
 . simp only[CJ]
   have H:=CK (ls:=ls) (s:=(l,w,[])) h rfl c.length (xe _);rw[hk.2,CJ] at H;have N:0<(c.foldl (jc ls) (l,w,[])).2.2.length:=om
   rw[show(0:Int)=((0:Nat):Int) from rfl,Wx N,aa];grind[jd]
 . intro i hi
   have E:c[i]?=some c[i]:=xm hi;generalize c[i]=x at E;have B:=mt E;obtain⟨y,V,t⟩:∃ y,C[i]?=some y/\cN y=x:=ol
   obtain⟨a0,a1⟩:=hk.1 i hi _ E;have H:=CK (ls:=ls) (s:=(l,w,[])) h rfl i om;have Z:=R6 i (λj hj=>hk.1 j om) om;have M:=Hj (ls:=ls) (s:=(l,w,[])) i (by omega:i<=c.length);have I:=Hi (ls:=ls) (s:=(l,w,[])) h O i om;simp only[] at M |-;rw[CH E];generalize ij ls c (l,w,[]) i=S at *;have u:Hg L S.2.2 x:=⟨(h.nd x B).1,(h.nd x B).2,a0,om⟩
   have Y:y.Op=x.Op:=by rw[<-t];rfl
   have W:y.I=x.I:=by rw[<-t];rfl
   have X:y.N=x.N:=by rw[<-t];rfl
   have g:S.2.2.length<=100000:=om
   have A:=Mg (o:=S.2.2) u.2.1;have J:CI 100000 S.1:=⟨xz I.1 om,I.2⟩
   have tail:∀(l':List Qw) (p:Int),
    ((az 8 S.2.1 ([p]:List Int)).bind λy237=>(sub S.2.2 (0:Int) (wrap64 ((S.2.2.length:Int) - ar x.Op))).bind λy239=>(az 8 y239 ([p]:List Int)).bind λy241=>some (.go (l',y237,y241,wrap64 ((i:Int)+(1:Int))):Lp (List Qw×List Int×List Int×Int) (List Qw×List Int×List Int))) =
    some (Lp.go (l',S.2.1++[p],S.2.2.take (S.2.2.length - (ar x.Op).toNat)++[p],((i+1:Nat):Int))):=by
    grind[Jv,T7,w1]
   rw[ou om,aj,Ku V,aa,KN,aa];simp only[ai,Y,W,X];have put:=λ(z:dW) (v:fW z)=>Q7z (n:=n) (l:=S.1) (x:=z) (ws:=S.2.1) F J.1 v J.2
   have done:∀(p:Int) (l':List dW),(p,l')=l5 ls S.1 S.2.2 x->some (Lp.go (l'.map bz,S.2.1++[p],S.2.2.take (S.2.2.length - (ar x.Op).toNat)++[p],((i+1:Nat):Int)):Lp (List Qw×List Int×List Int×Int) (List Qw×List Int×List Int)) =
    some (Lp.go ((jc ls S x).1.map bz,(jc ls S x).2.1,(jc ls S x).2.2,((i+1:Nat):Int))):=by
    grind[jc]
   have dP:x.Op≠5->∀ z,z=gF S.2.2 x->(((eK S.1 z).1:Int),(eK S.1 z).2)=l5 ls S.1 S.2.2 x:=λh5 z v=>by simp_all[l5]
   rcases qk x.Op with a | a | a | a
   . rcases nf a u.1 with ⟨e,i0,_,_⟩ | ⟨e,i0,eN⟩ | ⟨e,_,_,_⟩ | ⟨e,_,_,_⟩ | ⟨e,i0,i1,_⟩
     . rw[a] at tail
       rw[a];simp only[e,Int.reduceEq,Int.reduceLE,yf,vb,aj,ak];rw[Mh F u.2.1.2 u.2.1.1,aa,show(⟨1,0,0,rF ((val x.N:Nat):Rat)⟩:Qw)=bz (1,0,0,val x.N) from rfl,put _ (by simp_all[gF]),aa,tail];rw[show(0:Int).toNat=(ar x.Op).toNat by rw[a]];exact done _ _ (dP om _ (by simp_all[gF]))
     . rw[a] at tail
       rw[a];simp only[e,Int.reduceEq,Int.reduceLE,yf,vb,aj,ak];rw[show(⟨2,x.I,0,⟨false,[],[]⟩⟩:Qw)=bz (2,x.I,0,0) from rfl,put _ (by simp_all[gF]),aa,tail];rw[show(0:Int).toNat=(ar x.Op).toNat by rw[a]];exact done _ _ (dP om _ (by simp_all[gF]))
     . rw[a] at tail
       rw[a];simp only[e,Int.reduceEq,Int.reduceLE,yf,vb,aj,ak];rw[show(⟨3,x.I,0,⟨false,[],[]⟩⟩:Qw)=bz (3,x.I,0,0) from rfl,put _ (by simp_all[gF]),aa,tail];rw[show(0:Int).toNat=(ar x.Op).toNat by rw[a]];exact done _ _ (dP om _ (by simp_all[gF]))
     . rw[a] at tail
       rw[a];simp only[e,Int.reduceEq,Int.reduceLE,yf,vb,aj,ak];rw[show(⟨4,x.I,0,⟨false,[],[]⟩⟩:Qw)=bz (4,x.I,0,0) from rfl,put _ (by simp_all[gF]),aa,tail];rw[show(0:Int).toNat=(ar x.Op).toNat by rw[a]];exact done _ _ (dP om _ (by simp_all[gF]))
     . rw[a] at tail
       obtain⟨k,Q⟩:∃ k:Nat,x.I=(k:Int):=⟨x.I.toNat,om⟩
       have T:k<ls.length:=om
       rw[a];simp only[e,Int.reduceEq,Int.reduceLE,yf,vb,aj,ak];simp_all[Wx,l5]
   . have r:=u.2.2.2;rw[a] at r
     rw[a] at tail;have g1:=Hh (o:=S.2.2) om g;have q:=λv:x.Op=6\/x.Op=11=>dP om (x.Op,jO S.2.2,x.I,0) (by unfold gF;grind);have d:=λv:x.Op=6\/x.Op=11=>(show fW (x.Op,jO S.2.2,x.I,0) by have:=A;unfold gF at this;grind)
     rcases TQ a with e | e
     . have q:=q (.inl e);have d:=d (.inl e);rw[e] at d
       rw[a];simp only[e,Int.reduceEq,Int.reduceLE,yf,vb,aj,ak];rw[g1,aa,show(⟨6,jO S.2.2,x.I,⟨false,[],[]⟩⟩:Qw)=bz (6,jO S.2.2,x.I,0) from rfl,put _ d,aa,tail];grind
     . have q:=q (.inr e);have d:=d (.inr e);rw[e] at d
       rw[a];simp only[e,Int.reduceEq,Int.reduceLE,yf,vb,aj,ak];rw[g1,aa,show(⟨11,jO S.2.2,x.I,⟨false,[],[]⟩⟩:Qw)=bz (11,jO S.2.2,x.I,0) from rfl,put _ d,aa,tail];grind
   . have r:=u.2.2.2;rw[a] at r
     rw[a] at tail;have g1:=Hh (o:=S.2.2) om g;have g2:=T6 (o:=S.2.2) om g;have g3:wrap64 (wrap64 ((S.2.2.length:Int) - 2)+1)=wrap64 ((S.2.2.length:Int) - 1):=by grind[aK]
     have G:=TR a;have q:=dP om (x.Op,qy S.2.2,jO S.2.2,0) (by unfold gF;grind);have d:fW (x.Op,qy S.2.2,jO S.2.2,0):=by have:=A;unfold gF at this;grind
     have ft:∀ z:Int,(⟨z,qy S.2.2,jO S.2.2,⟨false,[],[]⟩⟩:Qw)=bz (z,qy S.2.2,jO S.2.2,0)\/z=1:=λz=>by
      by_cases v:z=1
      all_goals simp_all[bz]
     have go:∀ z:Int,x.Op=z->(z=7\/z=8\/z=9\/z=10)->_:=λz e v=>om
     rcases G with e | e | e | e
     . rw[e] at d q
       rw[a];simp only[e,Int.reduceEq,Int.reduceLE,yf,vb,aj,ak];grind
     . rw[e] at d q
       rw[a];simp only[e,Int.reduceEq,Int.reduceLE,yf,vb,aj,ak];grind
     . rw[e] at d q
       rw[a];simp only[e,Int.reduceEq,Int.reduceLE,yf,vb,aj,ak];grind
     . rw[e] at d q
       rw[a];simp only[e,Int.reduceEq,Int.reduceLE,yf,vb,aj,ak];grind
   . omega
theorem UA{α β:Type}{h:α->β}{l:List α}{r:List β}(e:l.map h=r){x:β}(a:r[i]?=some x):∃ y,l[i]?=some y/\h y=x:=ol
theorem Jmv:∀(L:List (List Qi)) (a:Int),0<=a->c∈L->(c.length:Int)<=L.foldl (λn c=>n+(c.length:Int)) a:=by
 intro L
 induction L with
 | nil=>simp
 | cons d L g=>
   intro a i h;rw[vw];rcases xk.1 h with rfl | h;have mono:∀(L:List (List Qi)) (b:Int),b<=L.foldl (λn c=>n+(c.length:Int)) b:=by
    intro L
    induction L with
    | nil=>intro b;exact Int.le_refl _
    | cons e L g=>intro b;rw[vw];have:=g (b+(e.length:Int));omega
   grind;grind
structure nh(f:Qt):Prop where
 nl:f.Aw.length<=10
 no:f.Ax.length<=6
 lets:∀(i:Nat) l,f.Aw[i]?=some l->qA i l.Code
 outs:∀ c∈f.Ax,qA f.Aw.length c
 all:∀ c∈aQ f,c.length<=300
theorem Hk{f:Qt}(t:FB f)(h:aI f (f.Ax.length:Int) p=f0):nh f:=by
 obtain⟨d,u,v⟩:=Jei.1 h;unfold dB at d;simp only[yq] at d;obtain⟨w1,w2,w,s,y,A,B⟩:=d
 have m:∀ c∈aQ f,c.length<=300:=λc a=>by have:=Jmv (aQ f) 0 om a;grind[jk]
 have nd:∀ {c:List Qi}{k:Int}{L:Nat},(∀ x∈c,NB x)->c.length<=300->cn c k (f.Ax.length:Int) p (L:Int)=f0->qA L c:=by intro c k L g a j;obtain⟨q,r⟩:=Jgu.1 ((L6 _ _ _ _ _).1 j).1;exact⟨q,λx e=>⟨Jeh w2 s (r x e),g x e⟩,om⟩
 refine⟨om,om,λi l hi=>?_,λc a=>?_,m⟩
 all_goals grind[TH,aQ,List.getElem?_of_mem,TI]
abbrev LS:=List dW×List Int×List Int
def Hl(s:LS)(c:List Qi):LS:=((jd s.2.1 s.1 s.2.2 c).2.1,s.2.1++[(jd s.2.1 s.1 s.2.2 c).1],(jd s.2.1 s.1 s.2.2 c).2.2)
def Hm(ls:List Int)(s:LS)(c:List Qi):LS:=((jd ls s.1 s.2.1 c).2.1,(jd ls s.1 s.2.1 c).2.2,s.2.2++[(jd ls s.1 s.2.1 c).1])
def fX(C:List (List Qi))(i:Nat):LS:=(C.take i).foldl Hl ([],[],[])
def iD(ls:List Int)(C:List (List Qi))(s:LS)(i:Nat):LS:=(C.take i).foldl (Hm ls) s
theorem Mi{c}(h:C[i]?=some c):fX C (i+1)=Hl (fX C i) c:=by grind[fX,Kd]
theorem Mj{s:LS}{c}(h:C[i]?=some c):iD ls C s (i+1)=Hm ls (iD ls C s i) c:=by grind[iD,Kd]
theorem UB{w:List Int}{l:List dW}(h:qA L c)(e:CI m l):CI (m+c.length) (jd ls l w c).2.1/\(jd ls l w c).2.2.length=w.length+c.length:=by have a:=Hi (ls:=ls) (s:=(l,w,[])) h e c.length oh;have d:=Hj (ls:=ls) (c:=c) (s:=(l,w,[])) c.length (xe _);rw[CJ] at a d;exact⟨a,d⟩
theorem xL{a b:Nat}{l:List dW}(h:CI a l)(d:a<=b):CI b l:=⟨xz h.1 d,h.2⟩
theorem tq{f:Qt}(h:nh f):∀ i,i<=f.Aw.length->CI (300*i) (fX (f.Aw.map (·.Code)) i).1/\(fX (f.Aw.map (·.Code)) i).2.1.length=i/\(fX (f.Aw.map (·.Code)) i).2.2.length<=300*i
 | 0,_=>⟨⟨xe _,λ_ h=>by cases h⟩,rfl,xe _⟩
 | i+1,hi=>by
   have g:f.Aw[i]?=some f.Aw[i]:=xm om;have e:(f.Aw.map (·.Code))[i]?=some f.Aw[i].Code:=ol
   obtain⟨d,j,k⟩:=tq h i om;have a:=h.all f.Aw[i].Code (by grind[aQ]);rw[Mi e];obtain⟨m,p⟩:=UB (ls:=(fX (f.Aw.map (·.Code)) i).2.1) (w:=(fX (f.Aw.map (·.Code)) i).2.2) (h.lets i _ g) d;grind[Hl,xL]
theorem CL{f:Qt}(h:nh f){ls:List Int}{l:List dW}{w:List Int}(a:CI 3000 l)(e:w.length<=3000):∀ i,i<=f.Ax.length->CI (3000+300*i) (iD ls f.Ax (l,w,[]) i).1/\(iD ls f.Ax (l,w,[]) i).2.1.length<=3000+300*i/\(iD ls f.Ax (l,w,[]) i).2.2.length=i
 | 0,_=>⟨a,e,rfl⟩
 | i+1,hi=>by have k:f.Ax[i]?=some f.Ax[i]:=xm om;obtain⟨g,p,j⟩:=CL h a e (ls:=ls) i om;have d:=h.all f.Ax[i] (by grind[aQ]);rw[Mj k];obtain⟨m,q⟩:=UB (ls:=ls) (w:=(iD ls f.Ax (l,w,[]) i).2.1) (h.outs _ (uz _)) g;unfold Hm;refine⟨xL m om,?_,by simp[j]⟩;grind
def iE(f:Qt):LS×List Int:=(iD (fX (f.Aw.map (·.Code)) f.Aw.length).2.1 f.Ax ((fX (f.Aw.map (·.Code)) f.Aw.length).1,(fX (f.Aw.map (·.Code)) f.Aw.length).2.2,[]) f.Ax.length,(fX (f.Aw.map (·.Code)) f.Aw.length).2.1)
theorem Q59{n:Nat}{f:Qt}(r:aq<=n)(t:FB f)(y:∀ l∈f.Aw,l.A0.length<=4611686018427387904):
 AP n f p=some (if aI f (f.Ax.length:Int) p=f0 then ((⟨(iE f).1.1.map cv,(iE f).1.2.2,(f.Ax.length:Int),p⟩:Jq),(iE f).1.2.1,f0) else ((⟨[],[],0,0⟩:Jq),[],aI f (f.Ax.length:Int) p)):=by
 unfold AP;rw[TJ r t y,aa];by_cases a:aI f (f.Ax.length:Int) p=f0
 case neg=>
  rw[oq a];have:Ji (aI f (f.Ax.length:Int) p) (⟨0,0,0,0⟩:Qc)=false:=Bool.eq_false_iff.2 λq=>a ((CB _ _).1 q);grind
 rw[ot a];have:Ji (aI f (f.Ax.length:Int) p) (⟨0,0,0,0⟩:Qc)=true:=(CB _ _).2 a;rw[this,ow,ak];have h:=Hk t a;have v:=h.nl;have w:=h.no;unfold E6;rw[aa];refine(wK (λi=>((fX (f.Aw.map (·.Code)) i).1.map cv,ir 0 (fX (f.Aw.map (·.Code)) i).1,(fX (f.Aw.map (·.Code)) i).2.1,(fX (f.Aw.map (·.Code)) i).2.2)) f.Aw ?_ rfl).trans ?_
 . intro i x e
   have hi:=Vh e;obtain⟨g,s,u⟩:=tq h i om;have m:(f.Aw.map (·.Code))[i]?=some x.Code:=ol
   have d:=h.all x.Code (by grind[aQ]);simp only[];rw[Mi m];generalize fX (f.Aw.map (·.Code)) i=S at *;rw[T8 r (h.lets i x e) g om s om,aa,Jv ol ol,aa];rfl
 rw[Vp];obtain⟨B,A,C⟩:=tq h f.Aw.length oh;simp only[];unfold iE;generalize fX (f.Aw.map (·.Code)) f.Aw.length=S at *;have j:CI 3000 S.1:=by grind[xL]
 have k:S.2.2.length<=3000:=om
 refine(wK (λi=>((iD S.2.1 f.Ax (S.1,S.2.2,[]) i).1.map cv,ir 0 (iD S.2.1 f.Ax (S.1,S.2.2,[]) i).1,(iD S.2.1 f.Ax (S.1,S.2.2,[]) i).2.1,(iD S.2.1 f.Ax (S.1,S.2.2,[]) i).2.2)) f.Ax ?_ rfl).trans ?_
 . intro i x e
   have hi:=Vh e;obtain⟨g,s,u⟩:=CL h j k (ls:=S.2.1) i om;have d:=h.all x (by grind[aQ]);simp only[];rw[Mj e];generalize iD S.2.1 f.Ax (S.1,S.2.2,[]) i=U at *;rw[T8 r (h.outs x ol) g om A om,aa,Jv ol ol,aa];rfl
 rfl
theorem Q3q{n:Nat}{g:Qo}{f:Qt}(v:aq<=n)(u:cF g=f)(x:FB f)(A:aI f (f.Ax.length:Int) p=f0):
 Bw n g p=some ((⟨(iE f).1.1.map bz,(iE f).1.2.2,(f.Ax.length:Int),p⟩:Qr),(iE f).1.2.1):=by
 unfold Bw
 have h:=Hk x A;have B:=h.nl;have C:=h.no;have eL:g.Aw.map cL=f.Aw:=by rw[<-u];rfl
 have eO:g.Ax.map (·.map cN)=f.Ax:=by rw[<-u];rfl
 have nL:g.Aw.length=f.Aw.length:=ol
 have nO:g.Ax.length=f.Ax.length:=ol
 refine(jg (λi=>((fX (f.Aw.map (·.Code)) i).1.map bz,(fX (f.Aw.map (·.Code)) i).2.2,(fX (f.Aw.map (·.Code)) i).2.1,(i:Int))) f.Aw.length ((fX (f.Aw.map (·.Code)) f.Aw.length).1.map bz,(fX (f.Aw.map (·.Code)) f.Aw.length).2.2,(fX (f.Aw.map (·.Code)) f.Aw.length).2.1) ?_ ?_ (by grind[Nat.lt_of_lt_of_le,aq]) rfl).trans ?_
 . intro i hi
   obtain⟨j,t,w⟩:=tq h i om;have e:f.Aw[i]?=some f.Aw[i]:=xm hi;obtain⟨y,s,a⟩:=UA eL e;have r:(f.Aw.map (·.Code))[i]?=some f.Aw[i].Code:=ol
   have d:=h.all f.Aw[i].Code (by grind[aQ]);have q:y.Code.map cN=f.Aw[i].Code:=by rw[<-a];rfl
   simp only[];rw[Mi r];generalize fX (f.Aw.map (·.Code)) i=S at *;rw[ou om,aj,Ku s,aa,T9 v q (h.lets i _ e) j om t om,aa,Jv ol ol,aa,w1 om];rfl
 . grind
 obtain⟨F,E,G⟩:=tq h f.Aw.length oh;simp only[];unfold iE;generalize fX (f.Aw.map (·.Code)) f.Aw.length=S at *;have k:CI 3000 S.1:=by grind[xL]
 have m:S.2.2.length<=3000:=om
 refine(jg (λi=>((iD S.2.1 f.Ax (S.1,S.2.2,[]) i).1.map bz,(iD S.2.1 f.Ax (S.1,S.2.2,[]) i).2.1,(iD S.2.1 f.Ax (S.1,S.2.2,[]) i).2.2,(i:Int))) f.Ax.length ((iD S.2.1 f.Ax (S.1,S.2.2,[]) f.Ax.length).1.map bz,(iD S.2.1 f.Ax (S.1,S.2.2,[]) f.Ax.length).2.1,(iD S.2.1 f.Ax (S.1,S.2.2,[]) f.Ax.length).2.2) ?_ ?_ (by grind[Nat.lt_of_lt_of_le,aq]) rfl).trans ?_
 . intro i hi
   obtain⟨j,t,w⟩:=CL h k m (ls:=S.2.1) i om;have e:f.Ax[i]?=some f.Ax[i]:=xm hi;obtain⟨y,s,a⟩:=UA eO e;have d:=h.all f.Ax[i] (by grind[aQ]);simp only[];rw[Mj e];generalize iD S.2.1 f.Ax (S.1,S.2.2,[]) i=U at *;rw[ou om,aj,Ku s,aa,T9 v a (h.outs _ oh) j om E om,aa,Jv ol ol,aa,w1 om];rfl
 all_goals grind
def CW(w:Nat)(l:List dW):Prop:=∀ y∈l,(ay y.2.2.2).length<=w
theorem Hn{α β:Type}(P:β->Prop)(f:β->α->β):∀(l:List α) (b:β),P b->(∀ b,∀ x∈l,P b->P (f b x))->P (l.foldl f b)
 | [],b,h,_=>h
 | x::l,b,h,hf=>Hn P f l (f b x) ol ol
theorem Jmw{l:List dW}{x:dW}(h:CW w l)(d:(ay x.2.2.2).length<=w):CW w (eK l x).2:=by unfold eK;split;exact h;intro y a;rcases yz.1 a with a | a;exact h y a;grind
theorem Jo1{s:CS}(h:CW w s.1)(a:Wd x.N/\x.N.length<=w):CW w (jc ls s x).1:=by grind[jc,l5,Jmw,W3,gF,Ke,Wy]
theorem UC{l:List dW}(h:CW w l)(a:∀ x∈c,Wd x.N/\x.N.length<=w):CW w (jd ls l ws c).2.1:=
 Hn (λs:CS=>CW w s.1) (jc ls) c (l,ws,[]) h (by grind[Jo1])
theorem Jo2{f:Qt}(g:∀ c∈aQ f,∀ x∈c,Wd x.N/\x.N.length<=w):CW w (iE f).1.1:=by
 have a:CW w (fX (f.Aw.map (·.Code)) f.Aw.length).1:=
  Hn (λs:LS=>CW w s.1) Hl _ _ (λy e=>by cases e) (λs c d h=>UC h (by grind[aQ]))
 exact Hn (λs:LS=>CW w s.1) (Hm _) _ _ a (λs c d h=>UC h (by grind[aQ]))
theorem Jmx{x:dW}(d:1<=w)(h:(ay x.2.2.2).length<=w):Fk w (cv x).N:=by unfold cv;simp only[];split;have a:(ay 1).length<=1:=Wn (by grind[bp]);refine⟨Jh _,?_,Jh _,?_⟩;show(ay (x.2.2.2:Rat).num.natAbs).length<=w;simp_all;show(ay (x.2.2.2:Rat).den).length<=w;grind[Rat.den_natCast];exact⟨Vw,xu _,Vw,xu _⟩
set_option maxRecDepth 100000
def uQ:Nat->Rat
 | 0=>mkRat 1 1000
 | 1=>mkRat 9 10
 | 2=>mkRat 1 5
 | 3=>mkRat 5 1
 | _=>mkRat 1 1000000
theorem Mk:E3 bL=some ⟨ce (uQ 0),ce (uQ 1),ce (uQ 2),ce (uQ 3),ce (uQ 4),16,100⟩:=ox
theorem Ml:Fc bL=some ⟨rF (uQ 0),rF (uQ 1),rF (uQ 2),rF (uQ 3),rF (uQ 4),16,100⟩:=ox
theorem ni(i:Nat):qw (uQ i)<=121:=by
 have h:∀ i,i<5->qw (uQ i)<=121:=by
  intro i hi;have:((List.range 5).all λi=>Nat.ble (qw (uQ i)) 121)=true:=ox
  simp_all
 rcases yx i 4 with hi | hi;grind;have e:uQ i=uQ 4:=by
  obtain⟨j,rfl⟩:∃ j,i=j+4:=⟨i - 4,om⟩
  rfl
 grind
structure ts where
 T:Be
 P:List Rat
 bits:Int
 r:Nat->Rat
 fine:Int
 most:Int
 s:Rat
 e:Rat
 f:Rat
 y:List Rat
noncomputable def fb(t:Jq)(k:ts):Kr:=⟨⟨t,gO k.T,dV k.P,k.bits⟩,⟨ce (k.r 0),ce (k.r 1),ce (k.r 2),ce (k.r 3),ce (k.r 4),k.fine,k.most⟩,ce k.s,ce k.e,ce k.f,dV k.y⟩
noncomputable def iT(t:Qr)(k:ts):Q3:=⟨⟨t,fS k.T,rR k.P,k.bits⟩,⟨rF (k.r 0),rF (k.r 1),rF (k.r 2),rF (k.r 3),rF (k.r 4),k.fine,k.most⟩,rF k.s,rF k.e,rF k.f,rR k.y⟩
structure pp(k:ts):Prop where
 p:QR 121 k.P
 pl:k.P.length<=5000
 r:∀ i,qw (k.r i)<=121
 s:qw k.s<=121
 e:qw k.e<=121
 f:qw k.f<=121
 y:QR 121 k.y
 yl:k.y.length<=5000
theorem Jo3(t:Be):hH 4000 (gO t):=by
 have mono:∀ {s:Q5},hH 121 s->hH 4000 s:=λh=>⟨λr a=>nY (h.a r a) oc,nY h.b oc,nY h.c oc,nY h.e oc,h.n⟩
 unfold gO;by_cases d:t.length<=4000;split;grind[Cm,Co];exact⟨oh,λr a=>(by cases a),λr a=>(by cases a),λr a=>(by cases a),oh⟩;rw[xC om,oq oh];exact⟨oh,λr a=>(by cases a),λr a=>(by cases a),λr a=>(by cases a),oh⟩
theorem CM{l:List Qa}(h:n5 k l)(hk:k<=m):n5 m l:=λf hf=>mu (h f hf) hk
theorem UD(t:Be):gD 4000 (fS t):=by
 have mono:∀ {s:Ql},gD 121 s->gD 4000 s:=λh=>⟨λr a=>CM (h.a r a) oc,h.al,CM h.b oc,h.bl,CM h.c oc,h.cl,CM h.e oc,h.el,h.nl⟩
 have nil:gD 4000 eS:=⟨oh,oh,λr a=>(by cases a),oh,λr a=>(by cases a),oh,λr a=>(by cases a),oh,oh⟩
 grind[fS,sX,Co,xC]
theorem UE{n:Nat}{k:ts}(d:aq<=n)(hk:pp k)(i:∀ c∈t.Code,Fk 4000 c.N)(hd:-9223372036854775808<=t.Bc/\t.Bc<=9223372036854775807):AV n (fb t k)=some (dP (iR (fb t k))):=by
 have j:iM 4000 (fb t k).Ay:=⟨i,hd,Jo3 k.T,nY (BZ hk.p) oc⟩
 have e:lZ 121 (fb t k).A5:=by intro x m;have a:x∈[ce (k.r 0),ce (k.r 1),ce (k.r 2),ce (k.r 3),ce (k.r 4)]:=m;simp only[xk,List.not_mem_nil,or_false] at a;rcases a with rfl | rfl | rfl | rfl | rfl<;>exact lF (hk.r _)
 unfold AV iR;simp only[ai];rw[Jgi d oc oc j,aa,lI];by_cases c1:jX (fb t k).Ay
 case neg=>simp_all[aL]
 rw[ot c1,Q55 d oc oc e,aa,lI];by_cases c2:jA (fb t k).A5
 case neg=>simp_all[aL]
 rw[ot c2];by_cases c3:((fb t k).Y.length:Int)=(fb t k).Ay.Tape.Bc
 case neg=>simp_all[aL]
 rw[ou c3,aj,BS (f:=(fb t k).End) (g:=(fb t k).Ba) (k:=121) d oc oc (lF hk.e) (lF hk.s),aa];by_cases c4:0<=(fv (fb t k).End - fv (fb t k).Ba).num.sign
 case neg=>rw[ov c4,ak,aL (by grind[kY])]
 rw[ou c4,aj,JV (f:=(fb t k).Bb) (k:=121) d oc oc (lF hk.f),aa];grind[cq,kY,TY,aL]
theorem Jmy{n:Nat}{t:Qr}{k:ts}(g:aq<=n)(hk:pp k)(y:∀ c∈t.Code,Fk 4000 (tF c.N))(u:t.Ax.length<=1000000):BC n (iT t k)=some (dP (iR (fb (tT t) k))):=by
 have A:jo 4000 (iT t k).Ay:=⟨y,u,UD k.T,CM (Cn hk.p) oc,by show(rR k.P).length<=_;rw[mY];have:=hk.pl;omega⟩
 have v:lZ 121 (tR (iT t k).A5):=by intro x B;have a:x∈[ce (k.r 0),ce (k.r 1),ce (k.r 2),ce (k.r 3),ce (k.r 4)]:=B;simp only[xk,List.not_mem_nil,or_false] at a;rcases a with rfl | rfl | rfl | rfl | rfl<;>exact lF (hk.r _)
 have eP:tP (iT t k).Ay=(fb (tT t) k).Ay:=by grind[tP,iT,fb,S3,m7]
 have eR:tR (iT t k).A5=(fb (tT t) k).A5:=rfl;unfold BC iR;simp only[ai];rw[Q24 (k:=4000) g oc oc A,aa,lI,eP];by_cases c1:jX (fb (tT t) k).Ay
 case neg=>simp_all[aL]
 obtain⟨w,g1,s⟩:=Q56 (r:=(iT t k).A5) g oc oc v;rw[ot c1,g1,aa,s,lI,eR];by_cases c2:jA (fb (tT t) k).A5
 case neg=>simp_all[aL]
 rw[ot c2];have d:(iT t k).Y.length=k.y.length:=mY k.y;have e:(fb (tT t) k).Y.length=k.y.length:=by show(dV k.y).length=_;grind[dV]
 rw[d,e];by_cases c3:(k.y.length:Int)=(fb (tT t) k).Ay.Tape.Bc
 case neg=>rw[ov (show ¬(k.y.length:Int)=(iT t k).Ay.Tape.Bc from c3),ak,aL om]
 rw[ou (show(k.y.length:Int)=(iT t k).Ay.Tape.Bc from c3),aj,show V5 n (iT t k).End (iT t k).Ba=_ from Fz (p:=k.e) (q:=k.s) (k:=121) g oc hk.e hk.s,aa];have i:fv (fb (tT t) k).End=k.e:=nX _;have j:fv (fb (tT t) k).Ba=k.s:=nX _;have m:fv (fb (tT t) k).Bb=k.f:=nX _;rw[i,j,m];by_cases c4:0<=(k.e - k.s).num.sign
 case neg=>rw[ov c4,ak,aL (by grind[kY])]
 rw[ou c4,aj,show Kw (iT t k).Bb=_ from wN k.f,aa];grind[cq,kY,TY,aL]
theorem Jkx{n:Nat}(g:aq<=n)(hk:k<=60):Y5 n (k:Int)=some (ay (tp k)):=by
 unfold Y5
 have a:∀ i,i<=60->(ay (tp i)).length<=60:=λi hi=>by have:=Wn (n:=tp i) (k:=60) (xh (fh hi) (by unfold tp bp;decide));omega
 have d:Wd [10]:=λy j=>by rw[uw.1 j];decide
 have e:([1]:Bf)=ay (tp 0):=by rw[jM,iJ oc];rw[show 1 / 4294967296=0 from rfl,W3]
 refine(jg (λi=>(ay (tp i),(i:Int))) k (ay (tp k)) ?_ ?_ (by grind[Nat.lt_of_lt_of_le,aq]) (by rw[e];rfl)).trans rfl;intro i hi;simp only[];have:=a i om;rw[ou om,aj,wC g om oc (Jh _) d,aa,Q6,show val [10]=10 by simp[val],<-kL,w1 om];simp
def CN(k:Nat):Bool:=match AA bL (k:Int) with
 | some l=>l.all (λx=>Nat.blt x 4294967296) && (Nat.beq (aN l).length l.length && Nat.beq (val l) (10 ^ k))
 | none=>false
theorem Jky:(List.range 61).all CN=true:=ox
theorem Jgy:∀ {a:Bf},(aN a).length=a.length->aN a=a:=by grind[L5]
theorem UF:bC bL:=by
 intro k m hk;refine⟨?_,Jkx oc hk⟩;have h:=uv.1 Jky k (List.mem_range.2 om);unfold CN at h;split at h;rename_i l e;rw[e];simp only[xp,uv] at h;obtain⟨g1,a,g3⟩:=h;have i:Wd l:=λx j=>by have:=g1 x j;rwa [Nat.blt_eq] at this
 have d:=Jgy (xy a);have g:=xy g3;have:=Ke i;rw[d,g] at this;rw[<-this];rfl;grind
set_option maxRecDepth 100000
section
variable (l:List Qn)
noncomputable def kQ:ts:=⟨iP (ia l),lR (aY l [112]),n8 l [98,105,116,115] 2000,
 λi=>match i with
  | 0=>ja l [116,111,108] (uQ 0)
  | 1=>ja l [115,97,102,101] (uQ 1)
  | 2=>ja l [108,111,119] (uQ 2)
  | 3=>ja l [104,105,103,104] (uQ 3)
  | _=>ja l [108,101,97,115,116] (uQ 4),
 n8 l [102,105,110,101] 16,n8 l [109,111,115,116] 100,ja l [115,116,97,114,116] 0,ja l [101,110,100] 1,ja l [102,105,114,115,116] 1,lR (aY l [121])⟩
noncomputable def xM(nm:Be):Be×Qc:=(nm,dq (kR (aY l nm)))
noncomputable def CO(nm:Be):Be×Qc:=(nm,dq (qu l nm))
noncomputable def n9(nm:Be):Be×Qc:=(nm,dq (jZ l nm))
noncomputable def Ho:List (Be×Qc):=[(gT,dq (gr (ia l))),xM l [112],CO l [98,105,116,115],n9 l [116,111,108],n9 l [115,97,102,101],n9 l [108,111,119],n9 l [104,105,103,104],n9 l [108,101,97,115,116],CO l [102,105,110,101],CO l [109,111,115,116],n9 l [115,116,97,114,116],n9 l [101,110,100],n9 l [102,105,114,115,116],xM l [121],xM l [119],xM l [117],xM l [118],n9 l [115],CO l [107]]
end
def jB(st:du)(L:List (Be×Qc)):du:=L.foldl (λs p=>cH s p.1 p.2) st
noncomputable def fl(l:List Qn)(st:du):du:=jB st (Ho l)
theorem qB(s:Be):dJ (dq (kR s)):=qp w8.2.2.2
theorem UG:∀(L:List (Be×Qc)) {st:du},(∀ p∈L,dJ p.2)->dJ st.2->dJ (jB st L).2
 | [],_,_,h=>h
 | p::L,st,k,h=>UG L (st:=cH st p.1 p.2) ol (by grind[kU])
theorem UH:∀(L:List (Be×Qc)) {st:du},(jB st L).2.Az=0->jB st L=st/\(∀ i:Nat,(L.map (·.2.Az))[i]?.getD 0=0)/\∀ i:Nat,(jB st (L.take i)).2.Az=0
 | [],st,h=>⟨rfl,oh,ol⟩
 | p::L,st,h=>by
   obtain⟨b,c,d⟩:=UH L (st:=cH st p.1 p.2) h;obtain⟨e,f,g⟩:=Cq (show(cH st p.1 p.2).2.Az=0 from d 0);refine⟨b.trans g,λi=>?_,λi=>?_⟩;cases i with
   | zero=>exact f
   | succ i=>simpa using c i
   cases i with
   | zero=>exact e
   | succ i=>exact d i
theorem UI:∀(L:List (Be×Qc)) {st:du},¬ st.2.Az=0->jB st L=st
 | [],_,_=>rfl
 | p::L,st,h=>by show jB (cH st p.1 p.2) L=st;rw[qr h];exact UI L h
section
variable {l:List Qn}{st:du}
theorem nj(h:dJ st.2):dJ (fl l st).2:=UG _ (by
 have a:=λnm=>qB (aY l nm);have b:=Lw l
 simp_all[L4,qp,L3,Ho,xM,CO,n9]) h
structure qC(l:List Qn)(st:du):Prop where
 eq:fl l st=st
 f:∀ i:Nat,((Ho l).map (·.2.Az))[i]?.getD 0=0
 z:∀ i:Nat,(jB st ((Ho l).take i)).2.Az=0
theorem Mm(h:(fl l st).2.Az=0):qC l st:=by obtain⟨a,b,c⟩:=UH _ h;exact⟨a,b,c⟩
end
section
variable {n:Nat}{l:List Qn}{st:du}{δ:Type}{R:Option δ->Prop}
theorem CQ(j:aq<=n)(g:eJ)(i:bC n)(e:dJ st.2){K:Q5×Jc->Option δ}(k:∀ u d,d=cH st gT (dq (gr (ia l)))->dJ d.2->(st.2.Az=0->u=gO (iP (ia l)))->R (K (u,ey l d))):R ((K4 n (ey l st) gT (gO cZ.a0)).bind K):=by obtain⟨u,a,b⟩:=Jkp (l:=l) j g i e;rw[a,aa];exact k u _ rfl (kU e (qp (L3 _))) b
theorem jC(j:aq<=n)(e:eJ)(g:bC n)(i:cw l)(m:dJ st.2){K:List Qb×Jc->Option δ}(k:∀ u d,d=cH st nm (dq (kR (aY l nm)))->dJ d.2->(st.2.Az=0->u=dV (lR (aY l nm)))->R (K (u,ey l d))):R ((Wu n (ey l st) nm).bind K):=by obtain⟨u,a,b⟩:=Cr j e g i m nm;simp_all[kU,qB]
theorem kZ(i:aq<=n)(g:cw l)(j:dJ st.2){d:Int}{K:Int×Jc->Option δ}(k:∀ u e,e=cH st nm (dq (qu l nm))->dJ e.2->(st.2.Az=0->u=n8 l nm d)->R (K (u,ey l e))):R ((Wl n (ey l st) nm d).bind K):=by obtain⟨u,a,b⟩:=Jkn i g j nm d;simp_all[kU,L4]
theorem fY(j:aq<=n)(e:eJ)(g:bC n)(i:cw l)(m:dJ st.2){K:Qb×Jc->Option δ}(k:∀ u d,d=cH st nm (dq (jZ l nm))->dJ d.2->(st.2.Az=0->(jZ l nm).1=0->u=ce (ja l nm q))->R (K (u,ey l d))):R ((Km n (ey l st) nm (ce q)).bind K):=by obtain⟨u,a,b⟩:=Jki j e g i m nm q;simp_all[kU,Lw]
theorem fZ(g:aq<=n)(d:bC n)(e:cw l){K:Qa×Q7->Option δ}(k:∀ u,((jZ l nm).1=0->u=rF (ja l nm q))->R (K (u,dv l (cH st nm (dq (jZ l nm)))))):R ((J7 n (dv l st) nm (rF q)).bind K):=by obtain⟨u,a,b⟩:=Jkj (st:=st) g d e nm q;grind
end
set_option maxRecDepth 100000
structure nn(f:Qt):Prop where
 b:FB f
 nm:∀ l∈f.Aw,l.A0.length<=4611686018427387904
 w:∀ c∈aQ f,∀ x∈c,Wd x.N/\x.N.length<=100
 p:kg f
theorem Mn{l:List Qn}(e:cw l):nn (aB l):=by
 unfold aB;cases g:cu (aY l cR) with
 | ok f=>
   obtain⟨j,k⟩:=Ji6 (Jip e) g;have d:=TC g;exact⟨j,k,λc a x i=>⟨((d.2.2 c a).2 x i).2,((d.2.2 c a).2 x i).1⟩,d⟩
 | error q=>exact⟨⟨by simp[n7],by simp[n7],by simp[n7,aQ]⟩,λl e=>(by cases e),λc a=>(by cases a),⟨by simp[n7],by simp[n7],by simp[n7,aQ]⟩⟩
def k6(f:Qt)(p:Int):Jq:=⟨(iE f).1.1.map cv,(iE f).1.2.2,(f.Ax.length:Int),p⟩
def tt(f:Qt)(p:Int):Qr:=⟨(iE f).1.1.map bz,(iE f).1.2.2,(f.Ax.length:Int),p⟩
theorem Mp(f:Qt)(p:Int):tT (tt f p)=k6 f p:=by unfold tT tt k6;simp only[va];congr 1;refine vq λx _=>?_;show tI (bz x)=cv x;unfold tI bz cv;split<;>rfl
theorem np{f:Qt}(h:nn f):∀ c∈(k6 f p).Code,Fk 4000 c.N:=λc a=>by obtain⟨y,e,rfl⟩:=xv.1 a;exact Jmx oc (xz (Jo2 (w:=100) (λc a x d=>h.w c a x d) y e) oc)
theorem CR{f:Qt}(h:nn f):∀ c∈(tt f p).Code,Fk 4000 (tF c.N):=λc a=>by have:=np (p:=p) h (tI c) (by rw[<-Mp];exact List.mem_map_of_mem a);exact this
theorem UJ{f:Qt}(h:nh f):(iE f).1.2.2.length=f.Ax.length:=by
 obtain⟨g,i,j⟩:=tq h f.Aw.length oh;have e:=h.nl;unfold iE;generalize fX (f.Aw.map (·.Code)) f.Aw.length=S at *;have a:CI 3000 S.1:=by grind[xL]
 have d:S.2.2.length<=3000:=om
 simp_all[CL]
section
variable {l:List Qn}{st:du}
theorem ga(hk:(jZ l nm).1=0)(a:qw q<=121):qw (ja l nm q)<=121:=by grind[jZ,ja,Li]
theorem nq(a:cw l)(h:qC l st):pp (kQ l):=by
 have z:qw (0:Rat)<=121:=by grind[qe]
 have o:qw (1:Rat)<=121:=by grind[Lb]
 have g:=sZ a (nm:=[112]);have j:=sZ a (nm:=[121]);obtain⟨d,k⟩:=hY (s:=aY l [112]);obtain⟨e,m⟩:=hY (s:=aY l [121]);refine⟨d,?_,λi=>?_,ga (h.f 10) z,ga (h.f 11) o,ga (h.f 12) o,e,?_⟩;show(lR (aY l [112])).length<=5000;grind[aY];show qw ((kQ l).r i)<=121;unfold kQ;simp only[];split;exact ga (h.f 3) (ni _);exact ga (h.f 4) (ni _);exact ga (h.f 5) (ni _);exact ga (h.f 6) (ni _);exact ga (h.f 7) (ni _);show(lR (aY l [121])).length<=5000;grind[aY]
def cS(l:List Qn):Int:=((lR (aY l [112])).length:Int)
noncomputable def gn(l:List Qn)(f:Qt)(st:du):du:=
 if (fl l st).2.Az=0 then
  (if aI f (f.Ax.length:Int) (cS l)=f0 then (bif dP (iR (fb (k6 f (cS l)) (kQ l))) then fl l st else cH (fl l st) [] (dq (2,0))) else cH (fl l st) cR (aI f (f.Ax.length:Int) (cS l)))
 else fl l st
noncomputable def fy(l:List Qn)(d:Be)(f:Qt):Jo:=⟨d,f,fb (k6 f (cS l)) (kQ l),dV (lR (aY l [119])),dV (lR (aY l [117])),dV (lR (aY l [118])),ce (ja l [115] 0),n8 l [107] 1⟩
noncomputable def fm(l:List Qn)(d:Be)(f:Qt):Qv:=⟨d,dF f,iT (tt f (cS l)) (kQ l),rR (lR (aY l [119])),rR (lR (aY l [117])),rR (lR (aY l [118])),rF (ja l [115] 0),n8 l [107] 1⟩
end
set_option maxRecDepth 100000
section
variable {l:List Qn}{st:du}
theorem xN(f:Qt)(d p:Int):dJ (aI f d p):=λh=>by rcases TP f d p with g | g;exact g;omega
theorem Mq{f:Qt}{d:Int}:(aI f d p).Az=0↔aI f d p=f0:=by refine⟨λh=>xN f d p h,λh=>by rw[h];rfl⟩
def CT(l:List Qn)(q:Jo)(st:du)(y:Option (Jc×Jo)):Prop:=
 ∃ r,y=some (ey l (gn l q.Field st),r)/\((gn l q.Field st).2.Az=0->r=fy l q.Do q.Field)
theorem Jo4(B:eJ)(A:cw l)(w:dJ st.2){q:Jo}(hf:nn q.Field):CT l q st (Zq bL (ey l st) q):=by
 have y:aq<=bL:=oc
 have C:=UF;have E:=nj (l:=l) w;unfold Zq E5 E2 E4;rw[S2 y B C,show([101,117,108,101,114]:Be)=ne from rfl,Jko];simp only[Option.bind_assoc,aa,Mk,sJ y,JU y];refine CQ y B C w λa s1 V w ea=>?_;refine jC y B C A w λb s2 W w eb=>?_;refine kZ y A w λc s3 X w ec=>?_;refine fY y B C A w λd s4 Y w ed=>?_;refine fY y B C A w λe s5 Z w ee=>?_;refine fY y B C A w λf s6 e6 w ef=>?_;refine fY y B C A w λg s7 e7 w eg=>?_;refine fY y B C A w λh s8 e8 w eh=>?_;refine kZ y A w λi s9 e9 w ei=>?_;refine kZ y A w λj s10 K w ej=>?_;refine fY y B C A w λk s11 L w ek=>?_;refine fY y B C A w λm s12 Lv w em=>?_;refine fY y B C A w λo s13 M w eo=>?_;refine jC y B C A w λp s14 N w T=>?_;refine jC y B C A w λr s15 O w er=>?_;refine jC y B C A w λs s16 P w es=>?_;refine jC y B C A w λt s17 Q w et=>?_;refine fY y B C A w λu s18 S w eu=>?_;refine kZ y A w λv U F w ev=>?_;subst V W X Y Z e6 e7 e8 e9 K L Lv M N O P Q S;replace F:U=fl l st:=F;subst F;simp only[];rw[qo E,aa];unfold CT;by_cases hk:(fl l st).2.Az=0
 case neg=>
  have e:gn l q.Field st=fl l st:=by unfold gn;rw[oq hk]
  simp[*]
 have x:=Mm hk;have J:=nq A x;rw[ou hk,ow,ak];rw[ea (x.z 0),eb (x.z 1),ec (x.z 2),ed (x.z 3) (x.f 3),ee (x.z 4) (x.f 4),ef (x.z 5) (x.f 5),eg (x.z 6) (x.f 6),eh (x.z 7) (x.f 7),ei (x.z 8),ej (x.z 9),ek (x.z 10) (x.f 10),em (x.z 11) (x.f 11),eo (x.z 12) (x.f 12),T (x.z 13),er (x.z 14),es (x.z 15),et (x.z 16),eu (x.z 17) (x.f 17),ev (x.z 18)];have T:((dV (lR (aY l [112]))).length:Int)=cS l:=by rw[RH];rfl
 rw[T,Q59 y hf.b hf.nm,aa];by_cases I:aI q.Field (q.Field.Ax.length:Int) (cS l)=f0
 . rw[ot I]
   simp only[];rw[mx (f:=f0) E (λ_=>rfl),aa,my (fl l st) _ f0 rfl]
   have G:=UE (n:=bL) (t:=k6 q.Field (cS l)) (k:=kQ l) y J (np hf) (by
    show(-9223372036854775808)<=(q.Field.Ax.length:Int)/\(q.Field.Ax.length:Int)<=9223372036854775807
    have:=hf.b.2.1;omega)
   generalize hb:dP (iR (fb (k6 q.Field (cS l)) (kQ l)))=b at G;simp only[fb,k6,kQ] at G;rw[G,aa];cases b
   . have e:gn l q.Field st=cH (fl l st) [] (dq (2,0)):=by simp_all[gn]
     unfold Z7;rw[xn,aj,aa,show(⟨2,0,0,0⟩:Qc)=dq (2,0) from rfl,mx E po,aa,e];exact⟨_,rfl,λh=>oe⟩
   . have e:gn l q.Field st=fl l st:=by simp_all[gn]
     rw[ow,ak,e];exact⟨_,rfl,λ_=>rfl⟩
 . rw[oq I]
   simp only[];have e:gn l q.Field st=cH (fl l st) cR (aI q.Field (q.Field.Ax.length:Int) (cS l)):=by unfold gn;rw[ot hk,oq I]
   have hck:¬(aI q.Field (q.Field.Ax.length:Int) (cS l)).Az=0:=by grind[Mq]
   have H:¬(cH (fl l st) cR (aI q.Field (q.Field.Ax.length:Int) (cS l))).2.Az=0:=by grind[Cq]
   rw[mx E (xN _ _ _),aa,e];have G:=UE (n:=bL) (t:=⟨[],[],0,0⟩) (k:=kQ l) y J (λc I=>by cases I) oc;generalize dP (iR (fb ⟨[],[],0,0⟩ (kQ l)))=b at G;simp only[fb,kQ] at G;rw[G,aa];cases b
   . unfold Z7
     rw[xn,aj,aa,show(⟨2,0,0,0⟩:Qc)=dq (2,0) from rfl,mx (by grind[kU,xN]) po,aa,qr H];exact⟨_,rfl,om⟩
   simp_all
end
set_option maxRecDepth 100000
abbrev l6:Be:=[115,104,111,119]
abbrev zT:Kr:=⟨⟨⟨[],[],0,0⟩,⟨[],[],[],[],[]⟩,[],0⟩,⟨⟨⟨false,[]⟩,[]⟩,⟨⟨false,[]⟩,[]⟩,⟨⟨false,[]⟩,[]⟩,⟨⟨false,[]⟩,[]⟩,⟨⟨false,[]⟩,[]⟩,0,0⟩,⟨⟨false,[]⟩,[]⟩,⟨⟨false,[]⟩,[]⟩,⟨⟨false,[]⟩,[]⟩,[]⟩
abbrev zU:Q3:=⟨⟨⟨[],[],0,0⟩,⟨[],[],[],[],[]⟩,[],0⟩,⟨⟨false,[],[]⟩,⟨false,[],[]⟩,⟨false,[],[]⟩,⟨false,[],[]⟩,⟨false,[],[]⟩,0,0⟩,⟨false,[],[]⟩,⟨false,[],[]⟩,⟨false,[],[]⟩,[]⟩
def mA(d:Be)(f:Qt):Jo:=⟨d,f,zT,[],[],[],⟨⟨false,[]⟩,[]⟩,0⟩
def od(d:Be)(f:Qt):Qv:=⟨d,dF f,zU,[],[],[],⟨false,[],[]⟩,0⟩
noncomputable def bE(s:Be):List Qn:=(dR s).1
noncomputable def jP(s:Be):du:=([],⟨(dR s).2.1,0,0,(dR s).2.2⟩)
noncomputable def fM(s:Be):du:=tj (bE s) (gU (bE s) (jP s))
noncomputable def eM(s:Be):du:=
 if aY (bE s) bR=l6 then cH (fM s) cR (aI (aB (bE s)) ((aB (bE s)).Ax.length:Int) 6)
 else gn (bE s) (aB (bE s)) (fM s)
theorem Jjc{l:List Qn}{p:Qn}(h:p∈l):p.Av.length<=(fE l).length:=by
 induction l with
 | nil=>cases h
 | cons q r a=>
   have e:fE (q::r)=cX q++fE r:=by simp[fE]
   rw[e,xo];rcases xk.1 h with rfl | h
   all_goals grind[cX]
theorem Hp(m:s.length<=1500):cw (bE s)/\dJ (jP s).2:=by unfold bE jP;rcases Jgm s with ⟨l,a,d,i,j⟩ | ⟨k,x,a,d⟩;have e:=Jkc (s:=s);rw[a] at e |-;refine⟨⟨by simp only[] at e |-;omega,λp g=>?_⟩,λ_=>rfl⟩;have:=Jjc g;grind;rw[d];exact⟨⟨oh,oh⟩,λh=>absurd h a⟩
theorem Mr(a:s.length<=1500):dJ (fM s).2:=kU (by grind[Joz,GZ,Hp]) (TX _)
section
variable {l:List Qn}{st:du}
theorem Jmz(h:¬ st.2.Az=0):fl l st=st:=UI _ h
theorem Jm0{f:Qt}(h:¬ st.2.Az=0):gn l f st=st:=by simp_all[gn,Jmz]
theorem Jo5{f:Qt}(h:dJ st.2):dJ (gn l f st).2:=by unfold gn;split;split;cases dP (iR (fb (k6 f (cS l)) (kQ l)));exact kU (nj h) po;exact nj h;exact kU (nj h) (xN _ _ _);grind[nj]
end
theorem UL(a:s.length<=1500):dJ (eM s).2:=by grind[eM,kU,Mr,xN,Jo5]
theorem Jo6(v:eJ)(k:s.length<=1500):
 vL bL s=some (if (eM s).2.Az=0 then ((if aY (bE s) bR=l6 then mA (aY (bE s) bR) (aB (bE s)) else fy (bE s) (aY (bE s) bR) (aB (bE s))),[],f0) else (mA [] ⟨[],[]⟩,(eM s).1,(eM s).2)):=by
 have p:aq<=bL:=oc
 have j:aq+100<=bL:=oc
 obtain⟨i,h0⟩:=Hp k;have g:=Mr k;have hf:=Mn i;unfold vL;rw[Q28 p om,aa];simp only[ai];rw[show(⟨(dR s).1,[],⟨(dR s).2.1,0,0,(dR s).2.2⟩⟩:Jc)=ey (bE s) (jP s) from rfl,Jmp h0,aa,Jmq j i (GZ _ h0),aa];simp only[];rw[show tj (bE s) (gU (bE s) (jP s))=fM s from rfl]
 have tail:∀(st:du) (r:Jo),dJ st.2->((Vd (ey (bE s) st)).bind λm=>
  bif m then (
   some (mA [] ⟨[],[]⟩,st.1,st.2))
  else (
   some (r,([]:Be),(⟨0,0,0,0⟩:Qc))))=some (if st.2.Az=0 then (r,[],f0) else (mA [] ⟨[],[]⟩,st.1,st.2)):=by
  intro st r h;rw[qo h,aa];by_cases hk:st.2.Az=0;rw[ou hk,ow,ak,ot hk];rfl;rw[ov hk,xn,aj,oq hk]
 have a:=UL k;unfold eM at a |-;by_cases hd:aY (bE s) bR=l6;rw[ot hd] at a |-;rw[ot hd,ou (show aY (bE s) bR=([115,104,111,119]:Be) from hd),aj];unfold EY;rw[TJ p hf.b hf.nm,aa,aa,mx g (xN _ _ _),aa];exact tail _ _ a;rw[oq hd] at a |-;rw[oq hd,ov (show ¬ aY (bE s) bR=([115,104,111,119]:Be) from hd),ak,qo g,aa];by_cases hk:(fM s).2.Az=0;rw[ou hk,ow,xn,aj];obtain⟨r,t,u⟩:=Jo4 (l:=bE s) (st:=fM s) v i g (q:=mA (aY (bE s) bR) (aB (bE s))) hf;have e:Zq bL (ey (bE s) (fM s)) (mA (aY (bE s) bR) (aB (bE s)))=some (ey (bE s) (gn (bE s) (aB (bE s)) (fM s)),r):=t;refine je (show _=_ from e) _ ?_;rw[aa];refine(tail _ r a).trans ?_;by_cases d:(gn (bE s) (aB (bE s)) (fM s)).2.Az=0;rw[ot d,ot d,u d];rfl;rw[oq d,oq d];rw[ov hk,xn,ow,ak,Jm0 hk,aa,aj,oq hk];rfl
set_option maxRecDepth 100000
theorem nr(f:Qt):cF (dF f)=f:=by
 have e:∀ c:List Qi,(c.map dN).map cN=c:=λc=>by rw[va];exact(vq (λx _=>rfl)).trans (List.map_id c)
 obtain⟨L,O⟩:=f;unfold cF dF;simp only[va];congr 1;refine(vq (g:=id) (λx _=>?_)).trans oh;obtain⟨a,b⟩:=x;show(⟨a,(b.map dN).map cN⟩:Jz)=⟨a,b⟩
 rw[e];exact(vq (g:=id) ol).trans oh
theorem Jm1(f:Qt):((dF f).Ax.length:Int)=(f.Ax.length:Int):=by grind[dF]
section
variable {l:List Qn}{st:du}{f:Qt}
theorem ns{n:Nat}(a:aq<=n)(hf:nn f)(p:Int){β:Type}(K:Q7->Option β):
 ((Zx n (dF f) ((dF f).Ax.length:Int) p).bind λr104=>bif r104.1 then ((Jn (dv l st) ([102,105,101,108,100]:Be) (⟨2,r104.2.a0,r104.2.a1,r104.2.a2⟩:Ks)).bind λr111=>
  K r111)
   else (
    K (dv l st)))=K (dv l (cH st cR (aI f (f.Ax.length:Int) p))):=by
 rw[Q3m a (by rw[nr];exact hf.b),aa,nr,Jm1];rcases TP f (f.Ax.length:Int) p with g | g;rw[g,TN];simp_all[my,f0];rw[GY _ g];simp only[];have e:(⟨2,(aI f (f.Ax.length:Int) p).Step,(aI f (f.Ax.length:Int) p).Bd,(aI f (f.Ax.length:Int) p).At⟩:Ks)=fA (aI f (f.Ax.length:Int) p):=by grind[fA]
 rw[aj,e,m9,aa]
end
def Hq{β:Type}(X y:Option β):Prop:=y=X
theorem Jo7{σ ρ:Type}{J:(σ->Option ρ)->Option ρ}{K:σ->Option ρ}{X:Option ρ}(h:∀ K',K'=K->Hq X (J K')):Hq X (jn J K):=h K rfl
set_option maxRecDepth 100000
theorem Jo8(F:s.length<=1500):
 BD bL s=some (if (eM s).2.Az=0 then ((if aY (bE s) bR=l6 then od (aY (bE s) bR) (aB (bE s)) else fm (bE s) (aY (bE s) bR) (aB (bE s))),[],fA f0) else (od [] ⟨[],[]⟩,(eM s).1,fA (eM s).2)):=by
 have a:aq<=bL:=oc
 have C:aq+100<=bL:=oc
 have r:=UF;obtain⟨j,h0⟩:=Hp F;have S:=Mr F;have hf:=Mn j;refine(show Hq _ _ from ?_);unfold BD;rw[Q1o a om,aa];simp only[];rw[show(⟨(dR s).1.map iz,[],(⟨(dR s).2.1,0,0,((dR s).2.2:Int)⟩:Ks)⟩:Q7)=dv (bE s) (jP s) from rfl,Jmr C j,aa];refine Jo7 λK y=>?_;simp only[];rw[show tj (bE s) (gU (bE s) (jP s))=fM s from rfl];have w:∀ {st:du}{q:Qv}{p:Int},q.Field=dF (aB (bE s))->¬(cH st cR (aI (aB (bE s)) ((aB (bE s)).Ax.length:Int) p)).2.Az=0->K (dv (bE s) st,q,p)=some (od [] ⟨[],[]⟩,(cH st cR (aI (aB (bE s)) ((aB (bE s)).Ax.length:Int) p)).1,fA (cH st cR (aI (aB (bE s)) ((aB (bE s)).Ax.length:Int) p)).2):=by
  intro st q p Q h;rw[y];simp only[ai];rw[Q];refine(ns a hf p _).trans ?_;generalize cH st cR (aI (aB (bE s)) ((aB (bE s)).Ax.length:Int) p)=z at *;rw[ov (show ¬(dv (bE s) z).F.a0=0 from h),ak,ak];rfl
 have x:((rR (lR (aY (bE s) [112]))).length:Int)=cS (bE s):=by rw[mY];rfl
 unfold eM;by_cases hd:aY (bE s) bR=l6
 . rw[ou om,ow,ak]
   rw[ot hd,ot hd];by_cases h:(cH (fM s) cR (aI (aB (bE s)) ((aB (bE s)).Ax.length:Int) 6)).2.Az=0
   . rw[ot h,y]
     simp only[ai];refine(ns a hf 6 _).trans ?_;generalize cH (fM s) cR (aI (aB (bE s)) ((aB (bE s)).Ax.length:Int) 6)=z at *;rw[ou (show(dv (bE s) z).F.a0=0 from h),aj,ou om,ow,ak];rfl
   . rw[oq h]
     exact w rfl h
 rw[ov om,xn,aj];rw[oq hd,oq hd];generalize P:bE s=l at *;generalize fM s=st at *;simp only[Ml,B0 a,KG a,aa];rw[Jkq a r j,aa,jt a r j,aa,GX a j,aa];refine fZ a r j λd G=>?_;refine fZ a r j λe H=>?_;refine fZ a r j λf I=>?_;refine fZ a r j λg J=>?_;refine fZ a r j λh L=>?_;simp only[];rw[GX a j,aa,GX a j,aa];refine fZ a r j λk M=>?_;refine fZ a r j λm em=>?_;refine fZ a r j λo N=>?_;simp only[];rw[jt a r j,aa,jt a r j,aa,jt a r j,aa,jt a r j,aa];refine fZ a r j λu O=>?_;simp only[];rw[GX a j,aa];simp only[];show Hq _ (K (dv l (fl l st),_,_));rw[x];by_cases hk:(fl l st).2.Az=0
 case neg=>
  have e:gn l (aB l) st=fl l st:=by unfold gn;rw[oq hk]
  have i:¬(cH (fl l st) cR (aI (aB l) ((aB l).Ax.length:Int) (cS l))).2.Az=0:=by rw[qr hk];exact hk
  rw[e,oq hk];refine(w ?_ i).trans ?_
  all_goals grind[qr]
 have v:=Mm hk;have B:=nq j v;rw[G (v.f 3),H (v.f 4),I (v.f 5),J (v.f 6),L (v.f 7),M (v.f 10),em (v.f 11),N (v.f 12),O (v.f 17)];by_cases A:aI (aB l) ((aB l).Ax.length:Int) (cS l)=f0
 . rw[y]
   simp only[ai];refine(ns a hf (cS l) _).trans ?_;rw[A,my (fl l st) cR f0 rfl,ou (show(dv l (fl l st)).F.a0=0 from hk),aj,ov om,xn,aj,Q3q a (nr _) hf.b A,aa]
   have E:=Jmy (n:=bL) (t:=tt (aB l) (cS l)) (k:=kQ l) a B (CR hf) (by
    show(iE (aB l)).1.2.2.length<=1000000
    rw[UJ (Hk hf.b A)];have:=hf.b.2.1;omega)
   rw[Mp] at E;refine je (show _=_ from E) _ ?_;rw[aa];cases T:dP (iR (fb (k6 (aB l) (cS l)) (kQ l)))
   . have e:gn l (aB l) st=cH (fl l st) [] (dq (2,0)):=by simp_all[gn]
     have i:¬(cH (fl l st) [] (dq (2,0))).2.Az=0:=λh=>absurd (Cq h).2.1 (show ¬ 2=0 by decide);rw[e,oq i,xn,aj,show(⟨2,0,0,0⟩:Ks)=fA (dq (2,0)) from rfl,m9,aa];simp only[];rw[ov (show ¬(dv l (cH (fl l st) [] (dq (2,0)))).F.a0=0 from i),xn,aj];rfl
   . have e:gn l (aB l) st=fl l st:=by simp_all[gn]
     rw[e,ot hk,ow,ak];simp only[];rw[ou (show(dv l (fl l st)).F.a0=0 from hk),ow,ak];rfl
 . have e:gn l (aB l) st=cH (fl l st) cR (aI (aB l) ((aB l).Ax.length:Int) (cS l)):=by simp_all[gn]
   have i:¬(cH (fl l st) cR (aI (aB l) ((aB l).Ax.length:Int) (cS l))).2.Az=0:=by grind[Mq,Cq]
   rw[e,oq i];exact(w rfl i).trans rfl
set_option maxRecDepth 100000
theorem Ms:Zs bL=some true:=ox
theorem Mt:Z8 bL fV fV=some true:=ox
theorem Jdm(x:Jk):∃ v,oV x=some v/\Z2 v v=true:=by refine⟨_,rfl,?_⟩;simp[Z2]
theorem Jjd{n:Nat}(g:aq<=n)(h:∀ c∈t.Code,Fk 4000 c.N):sy n t t=some true:=by unfold sy;simp only[ai,yf,ow,ak];refine(wK (λ_=>()) t.Ax (λi x a=>?_) rfl).trans ?_;simp only[Ku a,aa,yf,ow,ak];rw[Vp];refine(wK (λ_=>()) t.Code (λi x a=>?_) rfl).trans ?_;obtain⟨v,d,e⟩:=Jdm x;have hk:=h x (mt a);simp only[d,aa,Ku a,e,ow,ak,JW (k:=4000) g oc oc hk hk,yf];rfl
theorem Jgz{k:ts}(hk:pp k){u:Qr}:∃ r,wu (fb t k).A5=some r/\Y8 bL r (iT u k).A5=some true:=by
 have a:aq<=bL:=oc
 have same:∀ i,Jx bL (rF (k.r i)) (rF (k.r i))=some true:=λi=>by rw[FA (k:=121) a oc (hk.r i),ou rfl]
 refine⟨(iT u k).A5,rfl,?_⟩;simp_all[Y8,ai,iT]
theorem Hr(h:qw q<=121):Vz bL (ce q) (rF q)=some true:=by rw[Q7j (k:=121) oc oc h,ou rfl]
theorem CU{a:List Rat}(h:QR 121 a)(d:a.length<=1000000):Ky bL (dV a) (rR a)=some true:=by rw[Q7k (k:=121) oc d oc h,ou rfl]
theorem Jkz(t:Be):(fS t).A.length<=1000000:=by unfold fS;by_cases a:t.length<=4000;split;show((bV t).2.2.2.1.map rR).length<=_;rw[xf];have:=(Co a).1.al;omega;simp;simp_all[xC]
theorem Jje(t:Be):(fS t).B.length<=1000000/\(fS t).C.length<=1000000/\(fS t).E.length<=1000000/\∀ r∈(fS t).A,r.length<=1000000:=by have h:=UD t;exact⟨h.bl,h.cl,h.el,h.al⟩
theorem Jk0{f:Qt}(h:nh f):(iE f).1.1.length<=1000000:=by
 obtain⟨i,j,k⟩:=tq h f.Aw.length oh;have e:=h.nl;have g:=h.no;unfold iE;generalize fX (f.Aw.map (·.Code)) f.Aw.length=S at *;have a:CI 3000 S.1:=by grind[xL]
 have d:S.2.2.length<=3000:=om
 have:=(CL h a d (ls:=S.2.1) f.Ax.length oh).1.1;grind
theorem Q3s(C:eJ)(s:Be):∃ n,Xx n s=some true:=by
 refine⟨bL,?_⟩;have d:aq<=bL:=oc
 unfold Xx;by_cases e:1500<(s.length:Int)
 . rw[ou e,aj,Ms,aa]
 rw[ov e,ak];have e:s.length<=1500:=om
 obtain⟨i,h0⟩:=Hp e;have hf:=Mn i;have B:=UL e;have key:∀(F:Qt),kg F->(Xz bL F).bind (λm=>Xn bL m (dF F))=some true:=by grind[GV,aa,GU,GW]
 have nilOk:kg (⟨[],[]⟩:Qt):=⟨oh,oh,by simp[aQ]⟩
 rw[Jo6 C e,aa,Jo8 e,aa];simp only[ai];by_cases hk:(eM s).2.Az=0
 case neg=>
  rw[oq hk,oq hk];unfold Zy;simp only[aa,yf,ow,ak];rw[show(⟨(fA (eM s).2).a0,(fA (eM s).2).a1,(fA (eM s).2).a2,(fA (eM s).2).a3⟩:Qc)=(eM s).2 from rfl,RR,ow,ak];rw[show(mA [] ⟨[],[]⟩).Field=⟨[],[]⟩ from rfl,show(od [] ⟨[],[]⟩).Field=dF ⟨[],[]⟩ from rfl,GV d nilOk,aa,GU d (GW nilOk),aa,Mb,Md,aa,aa,Mt,aa];rw[show(mA [] ⟨[],[]⟩).Do=(od [] ⟨[],[]⟩).Do from rfl,show(mA [] ⟨[],[]⟩).K=(od [] ⟨[],[]⟩).K from rfl,ov (show ¬(fA (eM s).2).a0=0 from hk),Ms];simp only[aa,yf,ow,xn,ak,aj]
 rw[ot hk,ot hk];unfold Zy;simp only[aa,yf,ow,ak];rw[show(⟨(fA f0).a0,(fA f0).a1,(fA f0).a2,(fA f0).a3⟩:Qc)=f0 from rfl,RR,ow,ak,Mb,Md,ou (show(fA f0).a0=0 from rfl),Ms];by_cases hd:aY (bE s) bR=l6
 . rw[ot hd,ot hd]
   rw[show(mA (aY (bE s) bR) (aB (bE s))).Field=aB (bE s) from rfl,show(od (aY (bE s) bR) (aB (bE s))).Field=dF (aB (bE s)) from rfl,GV d hf.p];simp only[aa];rw[GU d (GW hf.p),Mt];simp only[aa];rw[show(mA (aY (bE s) bR) (aB (bE s))).Do=(od (aY (bE s) bR) (aB (bE s))).Do from rfl,show(mA (aY (bE s) bR) (aB (bE s))).K=(od (aY (bE s) bR) (aB (bE s))).K from rfl,ou (show(od (aY (bE s) bR) (aB (bE s))).Do=([115,104,111,119]:Be) from hd)];simp only[yf,ow,ak,aj]
 rw[oq hd,oq hd];have g:eM s=gn (bE s) (aB (bE s)) (fM s):=by unfold eM;rw[oq hd]
 rw[g] at hk;have q:(fl (bE s) (fM s)).2.Az=0:=by
  unfold gn at hk;split at hk
  . assumption
  . exact hk
 have p:=Mm q;have a:=nq i p;generalize bE s=l at *;generalize G:aB l=f at *;rw[show(fy l (aY l bR) f).Field=f from rfl,show(fm l (aY l bR) f).Field=dF f from rfl,GV d hf.p];simp only[aa];rw[GU d (GW hf.p),Mt];simp only[aa];rw[show(fy l (aY l bR) f).Do=(fm l (aY l bR) f).Do from rfl,show(fy l (aY l bR) f).K=(fm l (aY l bR) f).K from rfl,ov (show ¬(fm l (aY l bR) f).Do=([115,104,111,119]:Be) from hd)];simp only[yf,ow,ak,aj];have E:aI f (f.Ax.length:Int) (cS l)=f0:=by
  unfold gn at hk;rw[ot q] at hk;by_cases h:aI f (f.Ax.length:Int) (cS l)=f0
  . exact h
  . rw[oq h] at hk;exact by grind[absurd,Mq,Cq]
 have j:=Hk hf.b E;have H:=j.no;have eP:tP (fm l (aY l bR) f).A1.Ay=(fb (k6 f (cS l)) (kQ l)).Ay:=by show tP (iT (tt f (cS l)) (kQ l)).Ay=_;unfold tP iT fb;simp only[S3,m7,Mp]
 obtain⟨r,v,w,x⟩:=Jje (kQ l).T;have k:wa bL (fm l (aY l bR) f).A1.Ay=some (fb (k6 f (cS l)) (kQ l)).Ay:=by rw[Q9t d (by show((iE f).1.1.map bz).length<=_;rw[xf];exact Jk0 j) (by show(iE f).1.2.2.length<=_;rw[UJ j];omega) (Jkz _) r v w x (by show(rR (kQ l).P).length<=_;rw[mY];have:=a.pl;omega),eP]
 obtain⟨w1,w2⟩:=hY (s:=aY l [119]);obtain⟨I,N⟩:=hY (s:=aY l [117]);obtain⟨J,v2⟩:=hY (s:=aY l [118]);have M:(aY l [119]).length<=4000:=sZ i;have K:(aY l [117]).length<=4000:=sZ i;have L:(aY l [118]).length<=4000:=sZ i;obtain⟨R,y,A⟩:=Jgz a (t:=k6 f (cS l)) (u:=tt f (cS l));have z0:qw (0:Rat)<=121:=by rw[qe];omega
 rw[k];simp only[aa];rw[show sy bL (fy l (aY l bR) f).A1.Ay.Tape (fb (k6 f (cS l)) (kQ l)).Ay.Tape=some true from Jjd d (np hf)];simp only[aa,ow,ak];rw[ou oe,ou oe];simp only[ow,ak];rw[show Ky bL (fy l (aY l bR) f).A1.Ay.P (fm l (aY l bR) f).A1.Ay.P=some true from CU a.p (by have:=a.pl;omega)];simp only[aa,ow,ak];rw[show wu (fy l (aY l bR) f).A1.A5=some R from y];simp only[aa];rw[show Y8 bL R (fm l (aY l bR) f).A1.A5=some true from A];simp only[aa,ow,ak];rw[show Vz bL (fy l (aY l bR) f).A1.Ba (fm l (aY l bR) f).A1.Ba=some true from Hr a.s];simp only[aa,ow,ak];rw[show Vz bL (fy l (aY l bR) f).A1.End (fm l (aY l bR) f).A1.End=some true from Hr a.e];simp only[aa,ow,ak];rw[show Vz bL (fy l (aY l bR) f).A1.Bb (fm l (aY l bR) f).A1.Bb=some true from Hr a.f];simp only[aa,ow,ak];rw[show Ky bL (fy l (aY l bR) f).A1.Y (fm l (aY l bR) f).A1.Y=some true from CU a.y (by have:=a.yl;omega)];simp only[aa,ow,ak];rw[show Ky bL (fy l (aY l bR) f).W (fm l (aY l bR) f).W=some true from CU w1 om];simp only[aa,aj];rw[show Ky bL (fy l (aY l bR) f).U (fm l (aY l bR) f).U=some true from CU I om];simp only[aa,aj];rw[show Ky bL (fy l (aY l bR) f).V (fm l (aY l bR) f).V=some true from CU J om];simp only[aa,aj];rw[show Vz bL (fy l (aY l bR) f).S (fm l (aY l bR) f).S=some true from Hr (ga (p.f 17) z0)];rfl
theorem Mu:eJ:=λs a=>by unfold uL;rw[ot ⟨om,oc,oc⟩]
theorem Q6b(s:Be)(_:s.length<=maxLen):∃ n,Xx n s=some true:=Q3s Mu s
end Go.Proofs.YthdbapalogijdaaGreatDoor
