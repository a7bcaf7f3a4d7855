import Derived.Test.YtbdgngdpkdagoaaGreatDoorPb1
namespace Go.Proofs.YtbdgngdpkdagoaaGreatDoor
open Go Go.RowKit
theorem Q12:∀ {l:List Qb},rR (rvr l)=l↔∀ f∈l,canF (tF f)
 | []=>⟨λ_ _ h=>(by cases h),λ_=>rfl⟩
 | x::l=>by
   have g:=Q12 (l:=l);have e:rR (rvr (x::l))=rF (fr x)::rR (rvr l):=rfl;rw[e];constructor;intro h f a;have d:=(List.cons.inj h)
   rcases xu.1 a with rfl | a;exact Qd2.1 d.1;exact g.1 d.2 f a;intro h;rw[Qd2.2 (h x (.head _)),g.2 λf a=>h f (.tail _ a)]
theorem Qmy{n k:Nat}{l:List Qb}(hn:big<=n)(d:1<=k)(hk:k<274877906944)(h:FRr k l)(a:l.length<=1000000):Zd n l=some (!dP (∀ f∈l,canF (tF f))):=by
 unfold Zd
 rw[Qg9 hn (show k<1099511627776 by omega) h a,sbind,Qvw hn (by rw[Kf,Qel];exact a) (λf g=>by
  obtain⟨q,j,rfl⟩:=xz.1 g;have:=Q8w (Qn3 h d q j)
  omega),sbind]
 have e:∀ i:Decidable (rR (rvr l)=l),@decide _ i=dP (∀ f∈l,canF (tF f)):=λi=>by rw[@decP _ i,dP_c Q12]
 rw[e]
def nxR(h:Q2)(i:Nat):Jg:=match h.Aw[i+1]? with | some u=>u | none=>⟨h.T,⟨false,[],[]⟩,⟨false,[],[]⟩,⟨false,[],[]⟩,h.Y,false⟩
def P1(t:Jg):Prop:=(∀ f∈t.Y,canF (tF f))/\∀ f∈[t.T,t.A1,t.H,t.A8],canF (tF f)
def S1(t:Jg):Prop:=0<fr t.A1/\0<fr t.H/\fr t.H<=fr t.A1/\0<=fr t.A8
def C1(h:Q2)(i:Nat)(t:Jg):Prop:=(t.Ok=true->fr (nxR h i).T=fr t.T+fr t.H)/\(t.Ok=false->fr (nxR h i).T=fr t.T/\rvr (nxR h i).Y=rvr t.Y)
theorem Jgk(h:Q2)(i:Nat):nextT (tHis h) i=tF (nxR h i).T:=by
 unfold nextT nxR;have e:(tHis h).Aw[i+1]?=(h.Aw[i+1]?).map tTry:=by unfold tHis;rw[xm]
 rw[e];cases h.Aw[i+1]?<;>rfl
theorem Jgl(h:Q2)(i:Nat):nextY (tHis h) i=(nxR h i).Y.map tF:=by
 unfold nextY nxR;have e:(tHis h).Aw[i+1]?=(h.Aw[i+1]?).map tTry:=by unfold tHis;rw[xm]
 rw[e];cases h.Aw[i+1]?<;>rfl
theorem mapCan{l:List Qb}:(∀ x∈l.map tF,canF x)↔∀ f∈l,canF (tF f):=⟨λh f a=>h _ (vf a),λh x d=>by
 obtain⟨f,a,rfl⟩:=xz.1 d
 exact h f a⟩
theorem Qzi{h:Q2}:Qkr (tHis h)↔((∀ f∈h.Y,canF (tF f))/\∀ f∈[h.T],canF (tF f))/\(∀ t∈h.Aw,P1 t/\t.Y.length=h.Y.length)/\(1<=h.Y.length/\h.Y.length<=6)/\h.Aw.length<=200/\(∀(i:Nat) t,h.Aw[i]?=some t->S1 t/\C1 h i t):=by
 have eY:(tHis h).Y=h.Y.map tF:=rfl;have eT:(tHis h).Aw=h.Aw.map tTry:=rfl;have eE:(tHis h).T=tF h.T:=rfl;constructor;rintro⟨⟨c1,g⟩,⟨l1,B,C⟩,m,s,E⟩;rw[eT] at c1 l1 m s E;rw[eY] at g l1 B C;rw[eE] at g;refine⟨⟨mapCan.1 (g _ oc),λf v=>?_⟩,λt a=>⟨⟨?_,λf v=>?_⟩,?_⟩,⟨by simpa using B,by simpa using C⟩,by simpa using m,λi t hi=>⟨?_,?_⟩⟩;rw[xk.1 v];exact g [tF h.T] oc _ oc;exact mapCan.1 (c1 _ (vf a) (t.Y.map tF) (by show _∈[_,t.Y.map tF];simp));have:=c1 _ (vf a) ([t.T,t.A1,t.H,t.A8].map tF) (by show _∈[[tF t.T,tF t.A1,tF t.H,tF t.A8],_];simp);exact mapCan.1 this f v;have:=l1 _ (vf a);have e:(tTry t).Y=t.Y.map tF:=rfl;rw[e] at this;simpa using this;have:=s (tTry t) (vf (Jm hi));unfold S1;rw[<-fr_tF,<-fr_tF,<-fr_tF];exact this;have:=E i (tTry t) (Qav tTry hi);rw[Jgk,Jgl,Qek,fr_tF] at this;have j:fv (tTry t).T=fr t.T:=fr_tF _;have q:fv (tTry t).H=fr t.H:=fr_tF _;have u:rv (tTry t).Y=rvr t.Y:=Qek _;rw[j,q,u] at this;exact this;rintro⟨⟨c1,g⟩,p,l,m,s⟩
 have y:∀ x∈(tHis h).Aw,∃ t∈h.Aw,x=tTry t:=λx d=>by rw[eT] at d;obtain⟨t,a,rfl⟩:=xz.1 d;exact⟨t,a,rfl⟩
 refine⟨⟨λx d r hr=>?_,λr hr=>?_⟩,⟨λx d=>?_,by rw[eY];simpa using l.1,by rw[eY];simpa using l.2⟩,by rw[eT];simpa using m,λx d=>?_,λi x d=>?_⟩;obtain⟨t,a,rfl⟩:=y x d;obtain⟨⟨F,G⟩,_⟩:=p t a;have:r=[t.T,t.A1,t.H,t.A8].map tF\/r=t.Y.map tF:=by have e:[[(tTry t).T,(tTry t).A1,(tTry t).H,(tTry t).A8],(tTry t).Y]=[[t.T,t.A1,t.H,t.A8].map tF,t.Y.map tF]:=rfl;rw[e] at hr;simpa using hr
 rcases this with rfl | rfl;exact mapCan.2 G;exact mapCan.2 F;have:r=[h.T].map tF\/r=h.Y.map tF:=by have e:[[(tHis h).T],(tHis h).Y]=[[h.T].map tF,h.Y.map tF]:=rfl;rw[e] at hr;simpa using hr
 rcases this with rfl | rfl;exact mapCan.2 g;exact mapCan.2 c1;obtain⟨t,a,rfl⟩:=y x d;have:=(p t a).2;rw[eY];show(t.Y.map tF).length=_
 simpa using this
 obtain⟨t,a,rfl⟩:=y x d;obtain⟨i,hi,rfl⟩:=List.getElem_of_mem a;have:=(s i _ (oi hi)).1;unfold S1 at this;rw[<-fr_tF,<-fr_tF,<-fr_tF] at this;exact this;rw[eT,xm] at d;cases a:h.Aw[i]? with
 | none=>rw[a] at d;cases d
 | some t=>
   rw[a] at d;have A:tTry t=x:=Option.some.inj d;subst A;have:=(s i t a).2;unfold C1 at this;rw[Jgk,Jgl,Qek,fr_tF];have j:fv (tTry t).T=fr t.T:=fr_tF _;have q:fv (tTry t).H=fr t.H:=fr_tF _;have u:rv (tTry t).Y=rvr t.Y:=Qek _;rw[j,q,u];exact this
theorem Jei{q:Rat}:q.num.sign<0↔¬ 0<=q:=by rw[Int.sign_neg_iff,<-Int.not_le,Rat.num_nonneg]
theorem Jgm{p q:Rat}:0<(p - q).num.sign↔¬ p<=q:=by
 have h:=Qq3 (q:=p - q);have e:¬ 0<p - q↔p<=q:=by grind
 rw[<-e,<-h];omega
theorem Jai{β R:Type}{f:β×Int->Option (Lp (β×Int) (Lp β R))}{K:β->Option R}{n:Nat}{Q:R->Prop}(a:Nat->β->Prop)(N:Nat)(w0:β)(h0:a 0 w0)
 (hb:∀ i w,i<N->a i w->(∃ w',f (w,(i:Int))=some (.go (w',((i+1:Nat):Int)))/\a (i+1) w')\/(∃ r,f (w,(i:Int))=some (.out (.out r))/\Q r))
 (u:∀ w,a N w->f (w,(N:Int))=some (.out (.go w))) (hn:N<n) (s:∀ w,a N w->∃ v,K w=some v/\Q v):∃ v,(loopM f n (w0,0)).bind (lpK K)=some v/\Q v:=by
 have q:∀(m i d:Nat) (w:β),i+m=N->m<d->a i w->∃ v,(loopM f d (w,(i:Int))).bind (lpK K)=some v/\Q v:=by
  intro m
  induction m with
  | zero=>
    intro i d w hi j g;have e:i=N:=om
    subst e;rw[Kz (u w g) om,xq,Vn];exact s w g
  | succ m x=>
    intro i d w hi j g;obtain⟨n'',rfl⟩:∃ n'',d=n''+1:=⟨d - 1,om⟩
    rcases hb i w om g with ⟨w',e,l⟩ | ⟨r,e,hr⟩;rw[Qau e];exact x (i+1) n'' w' om om l;rw[Kz e om,xq,Yz];exact⟨r,rfl,hr⟩
 exact q N 0 n w0 om hn h0
theorem Joh{h:Q2}{i:Nat}{β:Type}(g:Jg->Option β)(a:h.Aw.length<=1000000)(hi:i<h.Aw.length):
 (bif decide (wrap64 ((i:Int)+1)<(h.Aw.length:Int)) then (getI h.Aw (wrap64 ((i:Int)+1))).bind g else g ⟨h.T,⟨false,[],[]⟩,⟨false,[],[]⟩,⟨false,[],[]⟩,h.Y,false⟩)=g (nxR h i):=by
 rw[w1 om];unfold nxR;by_cases c:i+1<h.Aw.length;rw[ol om,bifT,Qb8 c,sbind,oi c];rw[oo om,bifF,xd om]
theorem Q4x{n k:Nat}{h:Q2}(hn:big<=n)(E:1<=k)(hk:k<100000000)(hl:h.Aw.length<=1000000)(d:∀ t∈h.Aw,FTr k t)(hT:FRr k [h.T])(hY:FRr k h.Y)(L:h.Y.length<=1000000):
 ∃ v,Qcr n h=some v/\(v=0↔Qkr (tHis h)):=by
 simp only[Qzi];unfold Qcr;simp only[jn_eq];have J:∀ {r:Int}{A:Prop},r≠0->¬ A->∃ v,some r=some v/\(v=0↔A):=λhr hA=>⟨_,rfl,λe=>absurd e hr,λa=>absurd a hA⟩
 rw[Qmy hn E om hY L,sbind];by_cases a1:∀ f∈h.Y,canF (tF f)
 case neg=>rw[dP_f a1,ow,bifT,bifT];exact J oz λp=>a1 p.1.1
 rw[dP_t a1,ou,bifF,Qmy hn E om hT oc,sbind];by_cases a2:∀ f∈[h.T],canF (tF f)
 case neg=>rw[dP_f a2,ow,bifT];exact J oz λp=>a2 p.1.2
 rw[dP_t a2,ou,bifF];refine Jai (λi w=>(w=0\/w=2)/\(∀ t∈h.Aw.take i,P1 t)/\(w=0↔∀ t∈h.Aw.take i,t.Y.length=h.Y.length)) h.Aw.length 0 ⟨.inl rfl,λt d=>by simp at d,λ_ t d=>by simp at d,λ_=>rfl⟩ ?_ ?_ (by unfold big at hn;omega) ?_
 . intro i w hi I
   obtain⟨m,K,B⟩:=I;have s:h.Aw[i]?=some h.Aw[i]:=oi hi;have G:=xi hi;generalize h.Aw[i]=x at s G;obtain⟨O,x2,x3⟩:=d x G;have eN:Yl x=some [x.T,x.A1,x.H,x.A8]:=rfl;simp only[];rw[ol (show(i:Int)<(h.Aw.length:Int) by omega),bifT,Q7 s,sbind,Qmy hn E om x2 x3,sbind];by_cases P:∀ f∈x.Y,canF (tF f)
   case neg=>rw[dP_f P,ow,bifT,bifT];exact .inr ⟨1,rfl,λe=>absurd e oz,λp=>absurd (p.2.1 x G).1.1 P⟩
   rw[dP_t P,ou,bifF,sbind,eN,sbind,Qmy hn E om O oc,sbind];by_cases Q:∀ f∈[x.T,x.A1,x.H,x.A8],canF (tF f)
   case neg=>rw[dP_f Q,ow,bifT];exact .inr ⟨1,rfl,λe=>absurd e oz,λp=>absurd (p.2.1 x G).1.2 Q⟩
   rw[dP_t Q,ou,bifF,sbind,w1 om]
   have hP:∀ t∈h.Aw.take (i+1),P1 t:=λt d=>by
    rw[X4 s] at d;rcases yd.1 d with d | d
    . exact K t d
    . rw[xk.1 d];exact⟨P,Q⟩
   by_cases b3:x.Y.length=h.Y.length
   . rw[ol (show(x.Y.length:Int)=(h.Y.length:Int) by omega),ou,bifF]
     refine .inl ⟨w,rfl,m,hP,B.trans ⟨λq t d=>?_,λq t d=>q t ?_⟩⟩
     . rw[X4 s] at d
       rcases yd.1 d with d | d
       . exact q t d
       . rw[xk.1 d];exact b3
     . rw[X4 s];exact yp _ d
   . rw[oo (show ¬(x.Y.length:Int)=(h.Y.length:Int) by omega),ow,bifT]
     exact .inl ⟨2,rfl,.inr rfl,hP,λe=>absurd e oz,λq=>absurd (q x (by rw[X4 s];simp)) b3⟩
 . intro w _
   simp only[];rw[oo om,bifF]
 intro w I;obtain⟨m,K,B⟩:=I;rw[xc] at K B;by_cases c1:w=2
 . rw[ol c1,bifT,bifT]
   refine J oz λp=>?_;have:=B.2 λt d=>(p.2.1 t d).2;omega
 have w0:w=0:=om
 have hL:=B.1 w0;rw[oo c1,bifF];by_cases c2:h.Y.length<1
 . rw[ol (show(h.Y.length:Int)<1 by omega),bifT,bifT]
   exact J oz λp=>by have:=p.2.2.1.1;omega
 rw[oo (show ¬(h.Y.length:Int)<1 by omega),bifF];by_cases c3:6<h.Y.length
 . rw[ol (show(6:Int)<(h.Y.length:Int) by omega),bifT]
   exact J oz λp=>by have:=p.2.2.1.2;omega
 rw[oo (show ¬(6:Int)<(h.Y.length:Int) by omega),bifF];by_cases c4:200<h.Aw.length
 . rw[ol (show(200:Int)<(h.Aw.length:Int) by omega),bifT]
   exact J oz λp=>by have:=p.2.2.2.1;omega
 rw[oo (show ¬(200:Int)<(h.Aw.length:Int) by omega),bifF];subst w0;clear m B c1;refine Jai (λi w=>(∀ j t,j<i->h.Aw[j]?=some t->S1 t)/\(w=0↔∀ j t,j<i->h.Aw[j]?=some t->C1 h j t)) h.Aw.length 0 ⟨λj t F=>absurd F (ww _),λ_ j t F=>absurd F (ww _),λ_=>rfl⟩ ?_ ?_ (by unfold big at hn;omega) ?_
 . intro i w hi I
   obtain⟨m,B⟩:=I;have s:h.Aw[i]?=some h.Aw[i]:=oi hi;have G:=xi hi;generalize h.Aw[i]=x at s G;obtain⟨O,x2,x3⟩:=d x G;obtain⟨p1,Y⟩:=K x G;have eT:rF (fr x.T)=x.T:=Qd2.2 (Y _ oc);have eW:rF (fr x.A1)=x.A1:=Qd2.2 (Y _ oc);have eH:rF (fr x.H)=x.H:=Qd2.2 (Y _ oc);have eE:rF (fr x.A8)=x.A8:=Qd2.2 (Y _ oc);have eY:rR (rvr x.Y)=x.Y:=Q12.2 p1;have qT:qw (fr x.T)<=k:=qw_fr (O _ oc) E;have qW:qw (fr x.A1)<=k:=qw_fr (O _ oc) E;have qH:qw (fr x.H)<=k:=qw_fr (O _ oc) E;have sW:Wl x.A1=some (fr x.A1).num.sign:=by have:=Qle (fr x.A1);rwa [eW] at this
   have sH:Wl x.H=some (fr x.H).num.sign:=by have:=Qle (fr x.H);rwa [eH] at this
   have sE:Wl x.A8=some (fr x.A8).num.sign:=by have:=Qle (fr x.A8);rwa [eE] at this
   have sC:Qby n x.H x.A1=some (fr x.H - fr x.A1).num.sign:=by have:=Q8u (p:=fr x.H) (q:=fr x.A1) hn om qH qW;rwa [eH,eW] at this
   have sA:Qz n x.T x.H=some (rF (fr x.T+fr x.H)):=by have:=W3 (p:=fr x.T) (q:=fr x.H) hn om qT qH;rwa [eT,eH] at this
   simp only[];rw[ol (show(i:Int)<(h.Aw.length:Int) by omega),bifT,Q7 s,sbind,sW,sbind];have stop:¬ S1 x->(∃ r:Int,some (Lp.out (Lp.out (4:Int)):Lp (Int×Int) (Lp Int Int))=some (Lp.out (Lp.out r))/\(r=0↔(((∀ f∈h.Y,canF (tF f))/\∀ f∈[h.T],canF (tF f))/\(∀ t∈h.Aw,P1 t/\t.Y.length=h.Y.length)/\(1<=h.Y.length/\h.Y.length<=6)/\h.Aw.length<=200/\(∀(i:Nat) t,h.Aw[i]?=some t->S1 t/\C1 h i t)))):=λZ=>⟨4,rfl,λe=>absurd e oz,λp=>absurd (p.2.2.2.2 i x s).1 Z⟩
   by_cases R:(fr x.A1).num.sign<=0
   . rw[ol R,bifT,bifT];exact .inr (stop λp=>Qq3.1 R p.1)
   rw[oo R,bifF,sH,sbind];by_cases S:(fr x.H).num.sign<=0
   . rw[ol S,bifT,bifT];exact .inr (stop λp=>Qq3.1 S p.2.1)
   rw[oo S,bifF,sC,sbind];by_cases U:0<(fr x.H - fr x.A1).num.sign
   . rw[ol U,bifT,bifT];exact .inr (stop λp=>Jgm.1 U p.2.2.1)
   rw[oo U,bifF,sE,sbind];by_cases V:(fr x.A8).num.sign<0
   . rw[ol V,bifT];exact .inr (stop λp=>Jei.1 V p.2.2.2)
   rw[oo V,bifF,Joh _ hl hi,w1 om];clear stop;have Z:S1 x:=⟨Classical.not_not.1 λg=>R (Qq3.2 g),Classical.not_not.1 λg=>S (Qq3.2 g),Classical.not_not.1 λg=>U (Jgm.2 g),Classical.not_not.1 λg=>V (Jei.2 g)⟩
   have hu:(∀ f∈[(nxR h i).T],canF (tF f))/\(∀ f∈(nxR h i).Y,canF (tF f))/\FRr k [(nxR h i).T]/\FRr k (nxR h i).Y/\(nxR h i).Y.length<=1000000:=by
    unfold nxR;cases hnx:h.Aw[i+1]? with
    | none=>exact⟨a2,a1,hT,hY,L⟩
    | some u=>
      have N:=Jm hnx;obtain⟨u1,u2,u3⟩:=d u N;obtain⟨v1,v2⟩:=K u N;exact⟨λf M=>v2 f (by simp at M;simp[M]),v1,λf M=>u1 f (by simp at M;simp[M]),u2,u3⟩
   have hstep:∀ w':Int,(w'=0↔w=0/\C1 h i x)->(∀ j t,j<i+1->h.Aw[j]?=some t->S1 t)/\(w'=0↔∀ j t,j<i+1->h.Aw[j]?=some t->C1 h j t):=λw' hw'=>by
    refine⟨λj t F l=>?_,hw'.trans ⟨λq j t F l=>?_,λq=>⟨B.2 λj t F=>q j t om,q i x om s⟩⟩⟩
    . by_cases e:j=i
      . subst e;rw[s] at l;cases l;exact Z
      . exact m j t om l
    . by_cases e:j=i
      . subst e;rw[s] at l;cases l;exact q.2
      . exact B.1 q.1 j t om l
   unfold C1 at hstep;generalize nxR h i=u at hu hstep |-;obtain⟨u1,u2,u3,u4,u5⟩:=hu;have euT:rF (fr u.T)=u.T:=Qd2.2 (u1 _ oc);have euY:rR (rvr u.Y)=u.Y:=Q12.2 u2;have quT:qw (fr u.T)<=k:=qw_fr (u3 _ oc) E;have quY:QR k (rvr u.Y):=Qn3 u4 E
   have same:∀ q:Rat,Kj n u.T (rF q)=some (decide (fr u.T=q)):=λq=>by have:=Quq (p:=fr u.T) (q:=q) hn om quT;rwa [euT] at this
   have sameT:Kj n u.T x.T=some (decide (fr u.T=fr x.T)):=by have:=same (fr x.T);rwa [eT] at this
   have sameY:Xc n u.Y x.Y=some (decide (rvr u.Y=rvr x.Y)):=by have:=Qol (a:=rvr u.Y) (b:=rvr x.Y) hn (by rw[Qel];exact u5) (show k<274877906944 by omega) quY;rwa [euY,eY] at this
   left;cases y:x.Ok with
   | true=>
     rw[bifT,sA,sbind,same,sbind,ou,bifF,bifF];by_cases C:fr u.T=fr x.T+fr x.H
     . rw[ol C,ou,bifF,bifF]
       exact⟨w,rfl,hstep w ⟨λq=>⟨q,λ_=>C,λg=>by rw[y] at g;cases g⟩,λq=>q.1⟩⟩
     . rw[oo C,ow,bifT]
       exact⟨5,rfl,hstep 5 ⟨λq=>absurd q oz,λq=>absurd (q.2.1 y) C⟩⟩
   | false=>
     rw[bifF,bifF,ow,bifT,sameT,sbind];by_cases C:fr u.T=fr x.T
     . rw[ol C,ou,bifF,sameY,sbind]
       by_cases X:rvr u.Y=rvr x.Y
       . rw[ol X,ou,bifF]
         exact⟨w,rfl,hstep w ⟨λq=>⟨q,λg=>(by rw[y] at g;cases g),λ_=>⟨C,X⟩⟩,λq=>q.1⟩⟩
       . rw[oo X,ow,bifT]
         exact⟨5,rfl,hstep 5 ⟨λq=>absurd q oz,λq=>absurd (q.2.2 y).2 X⟩⟩
     . rw[oo C,ow,bifT,bifT]
       exact⟨5,rfl,hstep 5 ⟨λq=>absurd q oz,λq=>absurd (q.2.2 y).1 C⟩⟩
 . intro w _
   simp only[];rw[oo om,bifF]
 . intro w I
   obtain⟨m,B⟩:=I;refine⟨w,rfl,B.trans ⟨λq=>⟨⟨a1,a2⟩,λt d=>⟨K t d,hL t d⟩,⟨om,om⟩,om,λi t hi=>⟨m i t (Kc hi) hi,q i t (Kc hi) hi⟩⟩,λp j t _ F=>(p.2.2.2.2 j t F).2⟩⟩
set_option maxRecDepth 100000
theorem Q4y{n k:Nat}{p:Qu}{h:Q2}(hn:big<=n)(f:1<=k)(hk:k<1048576)(hp:PrbWr k p)(m:h.Aw.length<=1000000)(q:∀ t∈h.Aw,FTr k t)(j:FRr k [h.T])(l:FRr k h.Y)(d:h.Y.length<=1000000):
 Qcs n p h=some (dP (AlR (tP p) (tHis h))):=by
 unfold Qcs AlR;simp only[jn_eq];have eY:((tHis h).Y.length:Int)=(h.Y.length:Int):=by show((h.Y.map tF).length:Int)=_;simp
 have eD:(tP p).Tape.A0=p.Tape.A0:=rfl;rw[Q4t hn f hk hp,sbind,eY,eD];by_cases c1:prbR (tP p)
 case neg=>rw[dP_f c1,bifF,dP_f λg=>c1 g.1]
 obtain⟨v,i,e⟩:=Q4x hn f om m q j l d;rw[dP_t c1,bifT,i,sbind];by_cases a:v=0
 case neg=>rw[oo a,bifF,dP_f λg=>a (e.2 g.2.1)]
 rw[ol a,bifT];exact Qej ⟨λg=>⟨c1,e.1 a,g⟩,λg=>g.2.2⟩
set_option maxRecDepth 100000
theorem Jbd{α β:Type}{a:List α}{b:List β}{i:Nat}{x:α}{y:β}(d:a[i]?=some x)(e:b[i]?=some y):(List.zip a b).take (i+1)=(List.zip a b).take i++[(x,y)]:=by
 have:(List.zip a b)[i]?=some (x,y):=by rw[gk];exact⟨d,e⟩
 rw[vn,this];rfl
theorem jn_to{σ ρ:Type}{A:(σ->Option ρ)->Option ρ}{k:σ->Option ρ}{b:σ}(d:∀ a,A a=a b):jn A k=k b:=by rw[jn_eq,d]
theorem Jgn{lim:Int}{T:Rat}{Y P:List Rat}:∀ {c:List Qv}{i:Nat}{done l:List Rat},runQ lim T Y P c i done=.inr l ->
 (∃ e,l=done++e)/\∀(q:Nat) x,c[q]?=some x->opQ x T Y P (l.take (done.length+q))=some (l.getD (done.length+q) 0)
 | [],i,done,l,h=>by simp only[runQ] at h;cases h;exact⟨⟨[],oc⟩,λq x m=>by simp at m⟩
 | x::c,i,done,l,h=>by
   simp only[runQ] at h;cases d:opQ x T Y P done with
   | none=>rw[d] at h;cases h
   | some q=>
     rw[d] at h;simp only[] at h;split at h
     case isFalse=>cases h
     obtain⟨⟨a,g⟩,j⟩:=Jgn h;refine⟨⟨q::a,by rw[g];simp⟩,λk y f=>?_⟩;cases k with
     | zero=>
       simp only[ja,Option.some.injEq] at f;subst f;rw[xp,g];have g1:(done++[q]++a).getD done.length 0=q:=by rw[xf,ot,yz (xr _),gh];rfl
       have g3:(done++[q]++a).take done.length=done:=by rw[xf,List.take_left]
       rw[g1,g3,d]
     | succ k=>
       have:=j k y (by simpa using f);rw[yn,uy,show done.length+1+k=done.length+(k+1) by omega] at this;exact this
def partA(x:Qv)(c r:Rat)(vs:List Rat):Rat:=
 if x.Op=6 then -c else if x.Op=9 then c*vs.getD x.B.toNat 0 else if x.Op=10 then c / vs.getD x.B.toNat 0 else if x.Op=11 then c*((x.B:Rat)*turnQ (vs.getD x.A.toNat 0) r x.B) else c
def partB(x:Qv)(c r:Rat)(vs:List Rat):Rat:=
 if x.Op=8 then -c else if x.Op=9 then c*vs.getD x.A.toNat 0 else if x.Op=10 then -(c / vs.getD x.B.toNat 0*r) else c
def sentQ(x:Qv)(j:Nat)(c r:Rat)(vs:List Rat):Rat:=
 if x.Op<6\/c=0 then 0 else (if x.A=(j:Int) then partA x c r vs else 0)+(if (7<=x.Op/\x.Op<=10)/\x.B=(j:Int) then partB x c r vs else 0)
theorem Qha{l:List Rat}{a:Int}{c:Rat}{j:Nat}(h0:0<=a)(d:j<l.length):(addAt l a c).getD j 0=l.getD j 0+(if a=(j:Int) then c else 0):=by
 rw[Qzb];by_cases h:a=(j:Int)
 rw[oq ⟨om,d⟩,oq h];rw[oj (λg=>h om),oj h,ui]
theorem Jkt{t:Qm}{x:Qv}{k j:Nat}{c r:Rat}{vs:List Rat}{s:BkS}(e:mayR t k x)(a:j<s.co.length):(Yx x c r vs s).co.getD j 0=s.co.getD j 0+sentQ x j c r vs:=by unfold Yx sentQ partA partB;have f:=Qmr e;by_cases d:c=0;rw[oq d,oq (.inr d),ui];have nA:x.Op=6\/x.Op=11\/x.Op=7\/x.Op=8\/x.Op=9\/x.Op=10->0<=x.A:=λh=>(f _ (rdT_A h)).1;have nB:x.Op=7\/x.Op=8\/x.Op=9\/x.Op=10->0<=x.B:=λh=>(f _ (rdT_B h)).1;rw[oj d];rcases Q4a e with h | h | h | h | h | h | h | h | h | h;simp only[h,Int.reduceEq,Int.reduceLT,yf,yv,true_or,ui];simp only[h,Int.reduceEq,Int.reduceLT,yf,yv,true_or,ui];simp only[h,Int.reduceEq,Int.reduceLT,yf,yv,true_or,ui];simp only[h,Int.reduceEq,Int.reduceLT,yf,yv,true_or,ui];simp only[h,d,Int.reduceEq,Int.reduceLT,Int.reduceLE,yf,yv,or_self,false_and,ui];rw[Qha (nA om) a];simp only[h,d,Int.reduceEq,Int.reduceLT,Int.reduceLE,yf,yv,or_self,true_and,and_self];rw[Qha (nB om) (by rw[Yw];exact a),Qha (nA om) a,Rat.add_assoc];simp only[h,d,Int.reduceEq,Int.reduceLT,Int.reduceLE,yf,yv,or_self,true_and,and_self];rw[Qha (nB om) (by rw[Yw];exact a),Qha (nA om) a,Rat.add_assoc];simp only[h,d,Int.reduceEq,Int.reduceLT,Int.reduceLE,yf,yv,or_self,true_and,and_self];rw[Qha (nB om) (by rw[Yw];exact a),Qha (nA om) a,Rat.add_assoc];simp only[h,d,Int.reduceEq,Int.reduceLT,Int.reduceLE,yf,yv,or_self,true_and,and_self];rw[Qha (nB om) (by rw[Yw];exact a),Qha (nA om) a,Rat.add_assoc];simp only[h,d,Int.reduceEq,Int.reduceLT,Int.reduceLE,yf,yv,or_self,and_false,false_and,ui];rw[Qha (nA om) a]
theorem Jmo{x:Qv}{c r:Rat}{vs:List Rat}{s:BkS}:(Yx x c r vs s).T=if x.Op=2 then s.T+c else s.T:=by
 unfold Yx;by_cases d:c=0
 . rw[oq d,d];split<;>simp[ui]
 rw[oj d];by_cases a:x.Op=2
 . rw[oq a,oq a]
 rw[oj a,oj a]
 repeat' split
 all_goals rfl
theorem Jmp{x:Qv}{c r:Rat}{vs:List Rat}{s:BkS}:(Yx x c r vs s).Y=if x.Op=3 then addAt s.Y x.A c else s.Y:=by
 unfold Yx;by_cases d:c=0
 . rw[oq d,d,Qy9];split<;>rfl
 rw[oj d];by_cases a:x.Op=3
 . rw[oj om,oq a,oq a]
 rw[oj a,oj a]
 repeat' split
 all_goals rfl
theorem Jmq{x:Qv}{c r:Rat}{vs:List Rat}{s:BkS}:(Yx x c r vs s).P=if x.Op=4 then addAt s.P x.A c else s.P:=by
 unfold Yx;by_cases d:c=0
 . rw[oq d,d,Qy9];split<;>rfl
 rw[oj d];by_cases a:x.Op=4
 . rw[oj om,oj om,oq a,oq a]
 rw[oj a,oj a]
 repeat' split
 all_goals rfl
def PowR(t:Ja)(vs:List Rat):Prop:=∀(k:Nat) x,t.Code[k]?=some x->x.Op=11->vs.getD k 0=vs.getD x.A.toNat 0 ^ x.B/\-8<=x.B/\x.B<=8/\¬(x.B<0/\vs.getD x.A.toNat 0=0)
theorem Joi{t:Ja}{lim:Int}{T:Rat}{Y P l:List Rat}(j:tapeR (tT t))(h:runQ lim T Y P (tT t).Code 0 []=.inr l):PowR t l:=by
 intro k x m d;have a:(tT t).Code[k]?=some (tI x):=by show(t.Code.map tI)[k]?=_;exact Qav tI m
 have i:=j.2.1 k _ a;have q:=Qmr i;have e:=q _ (rdT_A (x:=tI x) (.inr (.inl d)));have eA:(tI x).A=x.A:=rfl;rw[eA] at e;have:=(Jgn h).2 k _ a;rw[yr,xg] at this;unfold opQ at this;rw[oj (show ¬(tI x).Op=6 by show ¬ x.Op=6;omega),oq (show(tI x).Op=11 from d),eA,Qdz om,show(tI x).B=x.B from rfl] at this;split at this;cases this;rename_i f;exact⟨(Option.some.inj this).symm,om,om,λg=>f (.inr (.inr g))⟩
theorem Q60{n k j:Nat}{t:Ja}{x:Jp}{c r:Rat}{vs:List Rat}(hn:big<=n)(V:mayR (tT t) k (tI x))(hk:k<=vs.length)(v:qw c<=129)(hr:qw r<=129)(X:QR 129 vs)
 (hp:x.Op=11->r=vs.getD x.A.toNat 0 ^ x.B/\-8<=x.B/\x.B<=8/\¬(x.B<0/\vs.getD x.A.toNat 0=0)) :
 Z1 n x (j:Int) (rF c) (rF r) (rR vs)=some (rF (sentQ (tI x) j c r vs))/\qw (sentQ (tI x) j c r vs)<=2000:=by
 have eO:(tI x).Op=x.Op:=rfl;have eA:(tI x).A=x.A:=rfl;have eB:(tI x).B=x.B:=rfl;have F:=Qmr V;have i:=Jgh V;rw[eO] at i;have gA:x.Op=6\/x.Op=11\/x.Op=7\/x.Op=8\/x.Op=9\/x.Op=10->getI (rR vs) x.A=some (rF (vs.getD x.A.toNat 0)):=λh=>Qk7 (F _ (rdT_A (x:=tI x) h)).1 (by have:=(F _ (rdT_A (x:=tI x) h)).2;rw[eA] at this;omega);have gB:x.Op=7\/x.Op=8\/x.Op=9\/x.Op=10->getI (rR vs) x.B=some (rF (vs.getD x.B.toNat 0)):=λh=>Qk7 (F _ (rdT_B (x:=tI x) h)).1 (by have:=(F _ (rdT_B (x:=tI x) h)).2;rw[eB] at this;omega);have qA:qw (vs.getD x.A.toNat 0)<=129:=Vp X oz;have qB:qw (vs.getD x.B.toNat 0)<=129:=Vp X oz;have add:∀ {p q:Rat},qw p<=3000->qw q<=3000->Qz n (rF p) (rF q)=some (rF (p+q)):=λf l=>W3 hn oz f l;have mul:∀ {p q:Rat},qw p<=3000->qw q<=3000->Jc n (rF p) (rF q)=some (rF (p*q)):=λf l=>Qah hn oz f l;have quo:∀ {p q:Rat},qw p<=3000->qw q<=3000->Vl n (rF p) (rF q)=some (rF (p / q)):=λf l=>Qmv hn oz f l;have neg:∀ {p:Rat},qw p<=3000->Vk n (rF p)=some (rF (-p)):=λf=>Qra hn oz f;unfold Z1 sentQ;rw[Qdl hn,sbind,eO,eA,eB];have q0:qw (0:Rat)<=1:=by rw[Zo];exact xr _
 by_cases h0:x.Op<6\/c=0
 . rw[oq h0]
   refine⟨(jn_to (b:=true) (λd=>?_)).trans rfl,om⟩;by_cases m:x.Op<6
   . rw[ol m,bifT]
   . rw[oo m,bifF,Qig,sbind,ol (h0.resolve_left m)]
 rw[oj h0];have m:¬ x.Op<6:=λg=>h0 (.inl g);have G:¬ c=0:=λg=>h0 (.inr g)
 have bA:(x.A=(j:Int)->qw (partA (tI x) c r vs)<=1500)/\∀ {β:Type}(d:Qb->Option β),x.A=(j:Int)->(jn (λ(y:(Qb)->Option _)=>
         bif decide (x.Op=(6:Int)) then (
          (Vk n (rF c)).bind λJ=>
          y J)
         else (
          y (rF c))) (λ(N:Qb)=>
         jn (λ(A:(Qb)->Option _)=>
          bif decide (x.Op=(9:Int)) then (
           (getI (rR vs) x.B).bind λR=>
           (Jc n (rF c) R).bind λK=>
           A K)
          else (
           A N)) (λ(O:Qb)=>
          jn (λ(B:(Qb)->Option _)=>
           bif decide (x.Op=(10:Int)) then (
            (getI (rR vs) x.B).bind λS=>
            (Vl n (rF c) S).bind λL=>
            B L)
           else (
            B O)) (λ(P:Qb)=>
           jn (λ(C:(Qb)->Option _)=>
            bif decide (x.Op=(11:Int)) then (
             (getI (rR vs) x.A).bind λU=>
             (Qan n U x.B).bind λM=>
             (Jc n (rF c) M).bind λr101=>
             C r101)
            else (
             C P)) (λ(Q:Qb)=>
            (Qz n (rF 0) Q).bind λr103=>
            d r103)))))=d (rF (partA (tI x) c r vs)):=by
  unfold partA;rw[eO,eA,eB];simp only[jn_eq];rcases i with h | h | h | h | h | h | h | h | h | h
  . omega
  . omega
  . omega
  . omega
  . simp only[h,Int.reduceEq,wx,vk,bifT,bifF,yf,yv]
    have e:=Qjz c;refine⟨λ_=>om,λd _=>?_⟩;rw[neg om,sbind,add om om,sbind,dg]
  . obtain⟨p1,p2,p3,p4⟩:=hp h
    obtain⟨w1,Y⟩:=Q4v (a:=vs.getD x.A.toNat 0) (b:=x.B) hn (k:=129) oz qA ⟨p2,p3⟩ p4;rw[<-p1] at w1 Y;have w3:=X0 v Y;simp only[h,Int.reduceEq,wx,vk,bifT,bifF,yf,yv];refine⟨λ_=>om,λd _=>?_⟩;rw[gA om,sbind,w1,sbind,mul om om,sbind,add om om,sbind,dg]
  . simp only[h,Int.reduceEq,vk,bifF,yv]
    refine⟨λ_=>om,λd _=>?_⟩;rw[add om om,sbind,dg]
  . simp only[h,Int.reduceEq,vk,bifF,yv]
    refine⟨λ_=>om,λd _=>?_⟩;rw[add om om,sbind,dg]
  . simp only[h,Int.reduceEq,wx,vk,bifT,bifF,yf,yv]
    have e:=X0 v qB;refine⟨λ_=>om,λd _=>?_⟩;rw[gB om,sbind,mul om om,sbind,add om om,sbind,dg]
  . simp only[h,Int.reduceEq,wx,vk,bifT,bifF,yf,yv]
    have e:=Qqb v qB;refine⟨λ_=>om,λd _=>?_⟩;rw[gB om,sbind,quo om om,sbind,add om om,sbind,dg]
 obtain⟨bA1,bA2⟩:=bA;have bA3:qw (if x.A=(j:Int) then partA (tI x) c r vs else 0)<=1500:=by
  split
  . rename_i h;exact bA1 h
  . omega
 have bB:((7<=x.Op/\x.Op<=10)/\x.B=(j:Int)->qw (partB (tI x) c r vs)<=400)/\∀ {β:Type}(d:Qb->Option β) (z:Rat),qw z<=1500->(7<=x.Op/\x.Op<=10)->(jn (λ(j155:(Qb)->Option _)=>
            bif decide (x.Op=(8:Int)) then (
             (Vk n (rF c)).bind λr158=>
             j155 r158)
            else (
             j155 (rF c))) (λ(s157:Qb)=>
            jn (λ(j164:(Qb)->Option _)=>
             bif decide (x.Op=(9:Int)) then (
              (getI (rR vs) x.A).bind λy167=>
              (Jc n (rF c) y167).bind λr169=>
              j164 r169)
             else (
              j164 s157)) (λ(s166:Qb)=>
             jn (λ(j179:(Qb)->Option _)=>
              bif decide (x.Op=(10:Int)) then (
               (Jc n (rF c) (rF r)).bind λr182=>
               (getI (rR vs) x.B).bind λy184=>
               (Vl n r182 y184).bind λr186=>
               (Vk n r186).bind λr188=>
               j179 r188)
              else (
               j179 s166)) (λ(s181:Qb)=>
              (Qz n (rF z) s181).bind λr190=>
              d r190))))=d (rF (z+partB (tI x) c r vs)):=by
  unfold partB;rw[eO,eA,eB];simp only[jn_eq];rcases i with h | h | h | h | h | h | h | h | h | h
  . omega
  . omega
  . omega
  . omega
  . exact⟨λg=>om,λ_ _ _ g=>om⟩
  . exact⟨λg=>om,λ_ _ _ g=>om⟩
  . simp only[h,Int.reduceEq,vk,bifF,yv]
    refine⟨λ_=>om,λd z I _=>?_⟩;rw[add om om,sbind]
  . simp only[h,Int.reduceEq,wx,vk,bifT,bifF,yf,yv]
    have e:=Qjz c;refine⟨λ_=>om,λd z I _=>?_⟩;rw[neg om,sbind,add om om,sbind]
  . simp only[h,Int.reduceEq,wx,vk,bifT,bifF,yf,yv]
    have e:=X0 v qA;refine⟨λ_=>om,λd z I _=>?_⟩;rw[gA om,sbind,mul om om,sbind,add om om,sbind]
  . simp only[h,Int.reduceEq,wx,vk,bifT,bifF,yf,yv]
    have e:=X0 v hr;have e2:=Qqb e qB;have Z:c*r / vs.getD x.B.toNat 0=c / vs.getD x.B.toNat 0*r:=by rw[db,db];grind
    have e4:=Qjz (c*r / vs.getD x.B.toNat 0);rw[<-Z];refine⟨λ_=>om,λd z I _=>?_⟩;rw[mul om om,sbind,gB om,sbind,quo om om,sbind,neg om,sbind,add om om,sbind]
 obtain⟨bB1,bB2⟩:=bB;have bB3:qw (if (7<=x.Op/\x.Op<=10)/\x.B=(j:Int) then partB (tI x) c r vs else 0)<=400:=by
  split
  . rename_i h;exact bB1 h
  . omega
 refine⟨?_,by have:=Zx bA3 bB3;omega⟩;refine(jn_to (b:=false) (λd=>?_)).trans ?_
 . rw[oo m,bifF,Qig,sbind,oo G]
 rw[bifF];refine(jn_to (b:=rF (if x.A=(j:Int) then partA (tI x) c r vs else 0)) (λd=>?_)).trans ?_
 . by_cases s:x.A=(j:Int)
   . rw[ol s,bifT,oq s];exact bA2 d s
   . rw[oo s,bifF,oj s]
 generalize (if x.A=(j:Int) then partA (tI x) c r vs else 0)=z at bA3 |-;refine(jn_to (b:=rF (z+if (7<=x.Op/\x.Op<=10)/\x.B=(j:Int) then partB (tI x) c r vs else 0)) (λd=>?_)).trans rfl;refine(jn_to (b:=decide ((7<=x.Op/\x.Op<=10)/\x.B=(j:Int))) (λd=>?_)).trans ?_
 . by_cases g1:7<=x.Op
   case neg=>rw[oo g1,bifF,oo (λg=>g1 g.1.1)]
   rw[ol g1,bifT];by_cases E:x.Op<=10
   case neg=>rw[oo E,bifF,oo (λg=>E g.1.2)]
   rw[ol E,bifT];by_cases g3:x.B=(j:Int)
   . rw[ol g3,ol ⟨⟨g1,E⟩,g3⟩]
   . rw[oo g3,oo (λg=>g3 g.2)]
 by_cases u:(7<=x.Op/\x.Op<=10)/\x.B=(j:Int)
 . rw[ol u,bifT,oq u];exact bB2 d z bA3 u.1
 . rw[oo u,bifF,oj u,ui]
def accB(code:List Qv)(vs:List Rat)(j:Nat):Nat->List Rat->Rat->Rat
 | _,[],z=>z
 | k,c::cs,z=>accB code vs j (k+1) cs (z+(match code[k]? with | some x=>sentQ x j c (vs.getD k 0) vs | none=>0))
theorem Jej{code:List Qv}{vs:List Rat}{j:Nat}{d:Rat}:∀ {cs:List Rat}{k:Nat}{z:Rat},accB code vs j k cs (z+d)=accB code vs j k cs z+d
 | [],k,z=>rfl
 | c::cs,k,z=>by simp only[accB];generalize (match code[k]? with | some x=>sentQ x j c (vs.getD k 0) vs | none=>0)=e;rw[<-Jej (d:=d)];congr 1;grind
theorem Jek{α:Type}{l:List α}{i:Nat}{y:α}(h:i<l.length):(l.set i y).drop i=y::l.drop (i+1):=by rw[xe (by rw[vw];exact h),List.getElem_set_self,List.drop_set_of_lt om]
theorem Jku(l:List Rat)(i:Nat)(x:Rat):(rR l).set i (rF x)=rR (l.set i x):=by unfold rR;rw[List.map_set]
theorem Q4z{kw:Nat}:∀(l:List (Int×Rat)) (a:List Rat) (b:Nat),1<=b->QR b a->(∀ z∈l,qw z.2<=kw)->QR (b+l.length*(kw+1)) (l.foldl (λco z=>addAt co z.1 z.2) a)
 | [],a,b,_,h,_=>by simpa using h
 | z::l,a,b,e,h,d=>by rw[dr,xn];have:=Q4z l (addAt a z.1 z.2) (b+kw+1) om (Qud e h (d z (.head _))) (λy f=>d y (.tail _ f));exact Jb this (by rw[uz];omega)
theorem Jel:∀(l:List (Int×Rat)) (a:List Rat),(l.foldl (λco z=>addAt co z.1 z.2) a).length=a.length
 | [],a=>rfl
 | z::l,a=>by rw[dr,Jel l,Yw]
theorem Jgo{n:Nat}{a b:Nat}(hn:big<=n)(d:a<=300)(hb:b<=300):Xe n (a:Int) (b:Int)=some (rF 0,rR (List.replicate a 0),rR (List.replicate b 0)):=by unfold Xe;rw[Qdl hn,sbind,Qii hn d,sbind,Qii hn hb,sbind]
abbrev RbS:=(List Qb)×Qb×(List Qb)×(List Qb)×Int
abbrev RbT:=Qb×(List Qb)×(List Qb)
def rbBody(n:Nat)(t:Ja)(w vs:List Qb)(lim:Int)(g0:Jl):RbS->Option (Lp RbS (Lp RbT (Jl×Jz))):=λ(s426:(List Qb)×Qb×(List Qb)×(List Qb)×Int)=>
 bif decide ((0:Int)<=s426.2.2.2.2) then (
  jn (λ(j521:((List Qb)×Qb×(List Qb)×(List Qb))->Option _)=>
   (Kq n (0:Int)).bind λr524=>
   (loopM (λ(s544:Qb×Int)=>
    bif decide (s544.2<(t.Az.length:Int)) then (
     jn (λ(j551:(Qb)->Option _)=>
      (getI t.Az s544.2).bind λy554=>
      bif decide (y554=s426.2.2.2.2) then (
       (getI w s544.2).bind λy556=>
       (Qz n s544.1 y556).bind λr558=>
       j551 r558)
      else (
       j551 s544.1)) (λ(s553:Qb)=>
      some (Lp.go (s553,wrap64 (s544.2+(1:Int))))))
    else (
     some (Lp.out s544.1))) n (r524,(0:Int))).bind λ(t542:Qb)=>
   (loopM (λ(s573:Qb×Int)=>
    bif decide (s573.2<(vs.length:Int)) then (
     (getI t.Code s573.2).bind λy574=>
     (getI s426.1 s573.2).bind λy576=>
     (getI vs s573.2).bind λy578=>
     (Z1 n y574 s426.2.2.2.2 y576 y578 vs).bind λr580=>
     (Qz n s573.1 r580).bind λr582=>
     some (Lp.go (r582,wrap64 (s573.2+(1:Int)))))
    else (
     some (Lp.out s573.1))) n (t542,wrap64 (s426.2.2.2.2+(1:Int)))).bind λ(t571:Qb)=>
   (K5 n t571 lim).bind λr584=>
   bif !r584 then (
    some (Lp.out (Lp.out ((g0,(⟨(6:Int),(2:Int),s426.2.2.2.2⟩:Jz)))))) 
   else (
    (getI s426.1 s426.2.2.2.2).bind λ_=>
    (getI t.Code s426.2.2.2.2).bind λy588=>
    jn (λ(j592:(Qb)->Option _)=>
     bif decide (y588.Op=(2:Int)) then (
      (Qz n s426.2.1 t571).bind λr595=>
      j592 r595)
     else (
      j592 s426.2.1)) (λ(s594:Qb)=>
     jn (λ(j603:((List Qb))->Option _)=>
      bif decide (y588.Op=(3:Int)) then (
       (getI s426.2.2.1 y588.A).bind λy606=>
       (Qz n y606 t571).bind λr608=>
       (getI s426.2.2.1 y588.A).bind λ_=>
       j603 (List.set s426.2.2.1 (Int.toNat y588.A) r608))
      else (
       j603 s426.2.2.1)) (λ(s605:(List Qb))=>
      bif decide (y588.Op=(4:Int)) then (
       (getI s426.2.2.2.1 y588.A).bind λy612=>
       (Qz n y612 t571).bind λr614=>
       (getI s426.2.2.2.1 y588.A).bind λ_=>
       j521 ((List.set s426.1 (Int.toNat s426.2.2.2.2) t571),s594,s605,(List.set s426.2.2.2.1 (Int.toNat y588.A) r614)))
      else (
       j521 ((List.set s426.1 (Int.toNat s426.2.2.2.2) t571),s594,s605,s426.2.2.2.1)))))) (λ(s523:(List Qb)×Qb×(List Qb)×(List Qb))=>
   some (Lp.go (s523.1,s523.2.1,s523.2.2.1,s523.2.2.2,wrap64 (s426.2.2.2.2 - (1:Int))))))
 else (
  some (Lp.out (Lp.go (s426.2.1,s426.2.2.1,s426.2.2.2.1))))
def rbEnd(n:Nat)(lim:Int)(g0:Jl):RbT->Option (Jl×Jz):=λ(t424:Qb×(List Qb)×(List Qb))=>
    (appM 56 ([t424.1]:List Qb) t424.2.1).bind λy618=>
    (appM 56 y618 t424.2.2).bind λy620=>
    (J0 n y620 lim).bind λr622=>
    bif decide (r622<(y620.length:Int)) then (
     some (g0,(⟨(6:Int),(3:Int),r622⟩:Jz)))
    else (
     some ((⟨t424.1,t424.2.1,t424.2.2⟩:Jl),(⟨0,0,0⟩:Jz)))
theorem Jq3{n:Nat}{x0:Ja}{g:Xk}{x2:List Qb}{e:Int}:Qbl n x0 g x2 e=(Xe n (0:Int) (0:Int)).bind λa=>
 (Yt n x0 g e).bind λd=>
 bif !decide (d.2.1=(0:Int)) then (
  some ((⟨a.1,a.2.1,a.2.2⟩:Jl),(⟨d.2.1,(0:Int),d.2.2⟩:Jz)))
 else (
  (mkM 56 ((⟨false,[],[]⟩:Qb):Qb) (d.1.length:Int)).bind λi=>
  (Xe n x0.A0 x0.A3).bind λf=>
  (loopM (rbBody n x0 x2 d.1 e ⟨a.1,a.2.1,a.2.2⟩) n (i,f.1,f.2.1,f.2.2,wrap64 ((d.1.length:Int) - (1:Int)))).bind (lpK (rbEnd n e ⟨a.1,a.2.1,a.2.2⟩))):=wm (wm rfl)
section
variable {n kw:Nat}{t:Ja}{vs w:List Rat}{lim:Int}{g0:Jl}
structure RbOK(n kw:Nat)(t:Ja)(vs w:List Rat)(lim:Int):Prop where
 hn:big<=n
 hkw:kw<=1000000
 tp:tapeR (tT t)
 pw:PowR t vs
 vl:vs.length=t.Code.length
 vq:QR 129 vs
 wq:QR kw w
 wl:w.length=t.Az.length
 lm:lim<=4096
theorem RbOK.dims(h:RbOK n kw t vs w lim):t.Code.length<=300/\(∀ o∈t.Az,0<=o/\o<(t.Code.length:Int))/\t.Az.length<=6/\(1<=t.A0/\t.A0<=6)/\(0<=t.A3/\t.A3<=6)/\(∀(i:Nat) x,t.Code[i]?=some x->mayR (tT t) i (tI x)):=by obtain⟨⟨⟨l,m⟩,⟨q,r⟩,s,j⟩,g,A⟩:=h.tp;have a:1<=t.A0:=l;have d:t.A0<=6:=m;have e:0<=t.A3:=q;have f:t.A3<=6:=r;have u:(t.Az.length:Int)=t.A0:=s;have eC:(tT t).Code=t.Code.map tI:=rfl;refine⟨by rw[eC,ov] at j;exact j,λo v=>?_,om,⟨a,d⟩,⟨e,f⟩,λi x y=>g i (tI x) (by rw[eC];exact Qav tI y)⟩;have:=A o v;rw[eC,ov] at this;exact this
theorem Joj(h:RbOK n kw t vs w lim){i:Nat}(hi:i<vs.length){β:Type}(K:Qb->Option β):(loopM (λ(s544:Qb×Int)=>
 bif decide (s544.2<(t.Az.length:Int)) then (
     (getI t.Az s544.2).bind λy554=>
     bif decide (y554=(i:Int)) then (
      (getI (rR w) s544.2).bind λy556=>
      (Qz n s544.1 y556).bind λr558=>
      some (Lp.go (r558,wrap64 (s544.2+(1:Int)))))
     else (
      some (Lp.go (s544.1,wrap64 (s544.2+(1:Int))))))
 else (
  some (Lp.out s544.1))) n (rF 0,(0:Int))).bind K=K (rF ((coQ vs.length t.Az w).getD i 0)):=by
 obtain⟨s,g,A,_⟩:=h.dims;have B:=h.wl;have hn:=h.hn;have v:=h.wq;have hkw:=h.hkw;have vl:=h.vl;rw[Wr (λq=>(rF ((((List.zip t.Az w).take q).foldl (λco z=>addAt co z.1 z.2) (List.replicate vs.length 0)).getD i 0),(q:Int))) t.Az.length (rF ((coQ vs.length t.Az w).getD i 0))];intro q u;have f:t.Az[q]?=some t.Az[q]:=oi u;have a:w[q]?=some (w[q]' om):=oi om;have d:=g _ (xi u);have m:=v _ (xi (l:=w) (n:=q) om);generalize t.Az[q]=o at f d;generalize w[q]' om=c at a m;have hb:=Q4z (kw:=kw) ((List.zip t.Az w).take q) (List.replicate vs.length 0) 1 (xr _) (Qmb _) (λz C=>v _ (List.of_mem_zip (ym C)).2);have j:((List.zip t.Az w).take q).length<=6:=by rw[xa,gp];omega
 have y:=xh (kw+1) j;have r:=Jel ((List.zip t.Az w).take q) (List.replicate vs.length (0:Rat));rw[yt] at r;rw[Jbd f a,List.foldl_append,dr,List.foldl_nil,Qha d.1 om];generalize ((List.zip t.Az w).take q).foldl (λco z=>addAt co z.1 z.2) (List.replicate vs.length 0)=co at hb r |-;have x:=Vp (i:=i) hb om;simp only[];rw[ol (show(q:Int)<(t.Az.length:Int) by omega),bifT,Q7 f,sbind];by_cases e:o=(i:Int)
 rw[ol e,bifT,oq e,Q7 (Qih a),sbind,W3 (k:=8*(kw+1)) hn om om om,sbind,w1 om];rw[oo e,bifF,oj e,ui,w1 om];simp only[];rw[oo om,bifF,xb (by rw[gp];omega)];rfl;unfold big at hn;omega;show _=(rF ((List.replicate vs.length (0:Rat)).getD i 0),(0:Int))
 rw[Jdh]
theorem Jok(h:RbOK n kw t vs w lim){i:Nat}{co:List Qb}:∀(cs:List Rat) (q d:Nat) (z:Rat) (b:Nat),q+cs.length=t.Code.length->co.drop q=rR cs->QR 129 cs->qw z<=b->b+cs.length*2001<=100000000->cs.length<d ->
 loopM (λ(s573:Qb×Int)=>
       bif decide (s573.2<((rR vs).length:Int)) then (
        (getI t.Code s573.2).bind λy574=>
        (getI co s573.2).bind λy576=>
        (getI (rR vs) s573.2).bind λy578=>
        (Z1 n y574 (i:Int) y576 y578 (rR vs)).bind λr580=>
        (Qz n s573.1 r580).bind λr582=>
        some (Lp.go (r582,wrap64 (s573.2+(1:Int)))))
       else (
        some (Lp.out s573.1))) d (rF z,(q:Int))=some (rF (accB (tT t).Code vs i q cs z))/\qw (accB (tT t).Code vs i q cs z)<=b+cs.length*2001:=by
 obtain⟨G,N,M,_,_,E⟩:=h.dims;have hn:=h.hn;have vl:=h.vl;have J:=h.vq;have u:=h.pw;have eC:(tT t).Code=t.Code.map tI:=rfl;intro cs
 induction cs with
 | nil=>
   intro q d z b A _ _ I _ e;rw[yr,xp] at A;refine⟨Kz (by simp only[];rw[Kf,oo om,bifF];rfl) om,?_⟩;simp only[accB];omega
 | cons c cs R=>
   intro q d z b A hd F I hb e;rw[xn] at A e hb;obtain⟨n'',rfl⟩:∃ n'',d=n''+1:=⟨d - 1,om⟩
   have g:t.Code[q]?=some (t.Code[q]' om):=oi om;generalize t.Code[q]' om=x at g;have C:(tT t).Code[q]?=some (tI x):=by rw[eC];exact Qav tI g
   have B:vs[q]?=some (vs[q]' om):=oi om;have f:=J _ (xi (l:=vs) (n:=q) om);have a:vs.getD q 0=vs[q]' om:=Qo2 B;generalize vs[q]' om=v at B f a;have m:co[q]?=some (rF c):=by have:=yj (λl=>l[0]?) hd;simp only[vc,xp] at this;rw[this];rfl
   have s:co.drop (q+1)=rR cs:=by rw[<-List.drop_drop,hd];rfl
   obtain⟨s1,S⟩:=Q60 (j:=i) (c:=c) (r:=v) hn (E q _ g) om (F c (.head _)) f J (λL=>by rw[<-a];exact u q x g L);have P:=Zx I S;obtain⟨Q,U⟩:=R (q+1) n'' (z+sentQ (tI x) i c v vs) (b+2001) om s (λy O=>F y (.tail _ O)) om om om;have K:accB (tT t).Code vs i q (c::cs) z=accB (tT t).Code vs i (q+1) cs (z+sentQ (tI x) i c v vs):=by simp only[accB];rw[C,a]
   rw[K,xn,uz];refine⟨?_,om⟩
   rw[Qau (s':=(rF (z+sentQ (tI x) i c v vs),((q+1:Nat):Int))) (by
    simp only[]
    rw[Kf,ol (show(q:Int)<(vs.length:Int) by omega),bifT,Q7 g,sbind,Q7 m,sbind,Q7 (Qih B),sbind,s1,sbind,W3 (k:=b+2000) hn om om om,sbind,w1 om])]
   exact Q
structure RbI(t:Ja)(vs w:List Rat)(b:Nat)(co:List Qb)(cs:List Rat)(s:BkS)(i:Nat):Prop where
 cl:co.length=vs.length
 cd:co.drop i=rR cs
 cq:QR 129 cs
 ci:cs.length+i=vs.length
 ac:∀ j,j<vs.length->s.co.getD j 0=accB (tT t).Code vs j i cs ((coQ vs.length t.Az w).getD j 0)
 sl:s.co.length=vs.length
 yl:(s.Y.length:Int)=t.A0
 pl:(s.P.length:Int)=t.A3
 tq:qw s.T<=b
 yq:QR b s.Y
 pq:QR b s.P
theorem Jol(h:RbOK n kw t vs w lim){b i:Nat}{co:List Qb}{cs:List Rat}{s:BkS}(hi:RbI t vs w b co cs s (i+1))(d:1<=b)(hb:b<=1000000){x:Jp}(P:t.Code[i]?=some x):
 rbBody n t (rR w) (rR vs) lim g0 (co,rF s.T,rR s.Y,rR s.P,(i:Int))=(if (qz (s.co.getD i 0):Int)<=lim then some (.go (co.set i (rF (s.co.getD i 0)),rF (Yx (tI x) (s.co.getD i 0) (vs.getD i 0) vs s).T,rR (Yx (tI x) (s.co.getD i 0) (vs.getD i 0) vs s).Y,rR (Yx (tI x) (s.co.getD i 0) (vs.getD i 0) vs s).P,(i:Int) - 1)) else some (.out (.out (g0,⟨6,2,(i:Int)⟩)))) /\
 ((qz (s.co.getD i 0):Int)<=lim->RbI t vs w (b+131) (co.set i (rF (s.co.getD i 0))) (s.co.getD i 0::cs) (Yx (tI x) (s.co.getD i 0) (vs.getD i 0) vs s) i):=by
 obtain⟨S,hoc,ho6,⟨d1,d2⟩,⟨d3,d4⟩,R⟩:=h.dims;have hn:=h.hn;have vl:=h.vl;have hkw:=h.hkw;have Y:=hi.ci;have hsl:=hi.sl;have M:=hi.cl;have hyl:=hi.yl;have hpl:=hi.pl;have B:i<vs.length:=om
 have N:=R i x P;have J:=hi.ac i B;have L:qw ((coQ vs.length t.Az w).getD i 0)<=1+6*(kw+1):=by
  have C:QR (1+6*(kw+1)) (coQ vs.length t.Az w):=by
   unfold coQ;refine Jb (Q4z (kw:=kw) (List.zip t.Az w) _ 1 (xr _) (Qmb _) (λz u=>h.wq _ (List.of_mem_zip u).2)) ?_;have V:(List.zip t.Az w).length<=6:=by rw[gp];omega
   have:=xh (kw+1) V;omega
  exact Vp C om
 obtain⟨F,U⟩:=Jok h (i:=i) (co:=co) cs (i+1) n ((coQ vs.length t.Az w).getD i 0) (1+6*(kw+1)) om hi.cd hi.cq L om (by unfold big at hn;omega);rw[<-J] at F U;have e:=fun {β:Type}(K:Qb->Option β)=>Joj h B K;generalize (coQ vs.length t.Az w).getD i 0=base at F e;have A:K5 n (rF (s.co.getD i 0)) lim=some (decide ((qz (s.co.getD i 0):Int)<=lim)):=by unfold K5;rw[Qlf (k:=100000000) hn oz om,sbind]
 have v:co[i]?=some (co[i]' om):=oi om;generalize co[i]' om=old at v
 have hstep:∀ j,j<vs.length->(Yx (tI x) (s.co.getD i 0) (vs.getD i 0) vs s).co.getD j 0=accB (tT t).Code vs j i (s.co.getD i 0::cs) ((coQ vs.length t.Az w).getD j 0):=λj Z=>by
  have Q:(tT t).Code[i]?=some (tI x):=by show(t.Code.map tI)[i]?=_;exact Qav tI P
  rw[Jkt N om,hi.ac j Z];simp only[accB];rw[Q,Jej]
 have hlens:=Qkk (x:=tI x) (c:=s.co.getD i 0) (r:=vs.getD i 0) (vs:=vs) (s:=s);have eT:=Jmo (x:=tI x) (c:=s.co.getD i 0) (r:=vs.getD i 0) (vs:=vs) (s:=s);have eY:=Jmp (x:=tI x) (c:=s.co.getD i 0) (r:=vs.getD i 0) (vs:=vs) (s:=s);have eP:=Jmq (x:=tI x) (c:=s.co.getD i 0) (r:=vs.getD i 0) (vs:=vs) (s:=s);rw[show(tI x).Op=x.Op from rfl] at eT eY eP;rw[show(tI x).A=x.A from rfl] at eY eP;have O:=hi.tq;have m:=hi.yq;have l:=hi.pq;generalize Yx (tI x) (s.co.getD i 0) (vs.getD i 0) vs s=s' at hstep hlens eT eY eP |-;generalize s.co.getD i 0=c at *;unfold rbBody;simp only[jn_eq];rw[ol (show(0:Int)<=(i:Int) by omega),bifT,Qdl hn,sbind,e,w1 om,F,sbind,A,sbind];by_cases u:(qz c:Int)<=lim
 case neg=>rw[oo u,ow,bifT,oj u];exact⟨rfl,λg=>absurd g u⟩
 have hlm:=h.lm;have hc129:qw c<=129:=by have:=qw_qz (q:=c) (b:=4096) om;omega
 rw[ol u,ou,bifF,oq u,Q7 v,sbind,Q7 P,sbind,w64 (x:=(i:Int) - 1) om om,ya]
 have X:∀ {β:Type}(K:Qb->Option β),(bif decide (x.Op=2) then (Qz n (rF s.T) (rF c)).bind λr595=>K r595 else K (rF s.T))=K (rF s'.T):=λK=>by
  rw[eT];by_cases o:x.Op=2
  . rw[ol o,bifT,oq o,W3 (k:=b+129) hn om om om,sbind]
  . rw[oo o,bifF,oj o]
 have I:∀ {β:Type}(K:List Qb->Option β),(bif decide (x.Op=3) then (getI (rR s.Y) x.A).bind λy606=>(Qz n y606 (rF c)).bind λr608=>(getI (rR s.Y) x.A).bind λ_=>K ((rR s.Y).set x.A.toNat r608) else K (rR s.Y))=K (rR s'.Y):=λK=>by
  rw[eY];by_cases o:x.Op=3
  . obtain⟨a1,a2⟩:=Qxp N o
    have f:0<=x.A:=a1;have E:x.A<t.A0:=a2;have:=Vp (i:=x.A.toNat) m d;rw[ol o,bifT,oq o,Qk7 f om,sbind,W3 (k:=b+129) hn om om om,sbind,sbind,Jku];rfl
  . rw[oo o,bifF,oj o]
 have G:∀ {β:Type}(K:List Qb->Option β),(bif decide (x.Op=4) then (getI (rR s.P) x.A).bind λy612=>(Qz n y612 (rF c)).bind λr614=>(getI (rR s.P) x.A).bind λ_=>K ((rR s.P).set x.A.toNat r614) else K (rR s.P))=K (rR s'.P):=λK=>by
  rw[eP];by_cases o:x.Op=4
  . obtain⟨a1,a2⟩:=Qxq N o
    have f:0<=x.A:=a1;have E:x.A<t.A3:=a2;have:=Vp (i:=x.A.toNat) l d;rw[ol o,bifT,oq o,Qk7 f om,sbind,W3 (k:=b+129) hn om om om,sbind,sbind,Jku];rfl
  . rw[oo o,bifF,oj o]
 constructor
 . refine(X (λa=>bif decide (x.Op=3) then (getI (rR s.Y) x.A).bind λy606=>(Qz n y606 (rF c)).bind λr608=>(getI (rR s.Y) x.A).bind λ_=>bif decide (x.Op=4) then (getI (rR s.P) x.A).bind λy612=>(Qz n y612 (rF c)).bind λr614=>(getI (rR s.P) x.A).bind λ_=>some (Lp.go (co.set i (rF c),a,(rR s.Y).set x.A.toNat r608,(rR s.P).set x.A.toNat r614,(i:Int) - 1)) else some (Lp.go (co.set i (rF c),a,(rR s.Y).set x.A.toNat r608,rR s.P,(i:Int) - 1))
    else bif decide (x.Op=4) then (getI (rR s.P) x.A).bind λy612=>(Qz n y612 (rF c)).bind λr614=>(getI (rR s.P) x.A).bind λ_=>some (Lp.go (co.set i (rF c),a,rR s.Y,(rR s.P).set x.A.toNat r614,(i:Int) - 1)) else some (Lp.go (co.set i (rF c),a,rR s.Y,rR s.P,(i:Int) - 1)))).trans ?_
   refine(I (λy=>bif decide (x.Op=4) then (getI (rR s.P) x.A).bind λy612=>(Qz n y612 (rF c)).bind λr614=>(getI (rR s.P) x.A).bind λ_=>some (Lp.go (co.set i (rF c),rF s'.T,y,(rR s.P).set x.A.toNat r614,(i:Int) - 1)) else some (Lp.go (co.set i (rF c),rF s'.T,y,rR s.P,(i:Int) - 1)))).trans ?_;exact G (λp=>some (Lp.go (co.set i (rF c),rF s'.T,rR s'.Y,p,(i:Int) - 1)))
 . intro _
   refine⟨by rw[vw];exact M,by rw[Jek om,hi.cd];rfl,λq C=>?_,by rw[xn];omega,hstep,om,om,om,?_,?_,?_⟩
   . rcases xu.1 C with rfl | C
     . exact hc129
     . exact hi.cq q C
   . rw[eT];split
     . have:=Zx O hc129;omega
     . omega
   . rw[eY];split
     . exact Jb (Qud d m hc129) om
     . exact Jb m om
   . rw[eP];split
     . exact Jb (Qud d l hc129) om
     . exact Jb l om
theorem Jom(h:RbOK n kw t vs w lim)(K:RbT->Option (Jl×Jz)):∀(i a b:Nat) (co:List Qb) (cs:List Rat) (s:BkS),RbI t vs w b co cs s i->1<=b->b+i*131<=1000000->i<a ->
 match pullQ lim (tT t).Code vs i s with
 | .inl j=>(loopM (rbBody n t (rR w) (rR vs) lim g0) a (co,rF s.T,rR s.Y,rR s.P,(i:Int) - 1)).bind (lpK K)=some (g0,⟨6,2,(j:Int)⟩)
 | .inr z=>(loopM (rbBody n t (rR w) (rR vs) lim g0) a (co,rF s.T,rR s.Y,rR s.P,(i:Int) - 1)).bind (lpK K)=K (rF z.T,rR z.Y,rR z.P)/\qw z.T<=1000000/\QR 1000000 z.Y/\QR 1000000 z.P/\(z.Y.length:Int)=t.A0/\(z.P.length:Int)=t.A3:=by
 intro i
 induction i with
 | zero=>
   intro a b co cs s hi d hb f;simp only[pullQ];refine⟨?_,by have:=hi.tq;omega,Jb hi.yq om,Jb hi.pq om,hi.yl,hi.pl⟩;rw[Kz (t:=Lp.go (rF s.T,rR s.Y,rR s.P)) (by unfold rbBody;simp only[jn_eq];rw[oo om,bifF]) om,xq,Vn]
 | succ i u=>
   intro a b co cs s hi d hb f;obtain⟨n'',rfl⟩:∃ n'',a=n''+1:=⟨a - 1,om⟩
   have r:=hi.ci;have vl:=h.vl;have g:t.Code[i]?=some (t.Code[i]' om):=oi om;generalize t.Code[i]' om=x at g;have l:(tT t).Code[i]?=some (tI x):=by show(t.Code.map tI)[i]?=_;exact Qav tI g
   obtain⟨e,q⟩:=Jol (g0:=g0) h hi d om g;simp only[pullQ,l];rw[show((i+1:Nat):Int) - 1=(i:Int) by omega];by_cases m:(qz (s.co.getD i 0):Int)<=lim;rw[oq m] at e |-;rw[Qau e];exact u n'' (b+131) _ _ _ (q m) om om om;rw[oj m] at e |-;simp only[];rw[Kz e om,xq,Yz]
end
theorem Q61{n k kw:Nat}{t:Ja}{T:Rat}{Y P w:List Rat}{lim:Int}(hn:big<=n)(E:129<=k)(hk:k<1048576)(hkw:kw<=1000000)(y:tapeR (tT t))(L:∀ c∈t.Code,Fk k (tF c.N))
 (N:qw T<=k) (O:QR k Y) (M:QR k P) (X:QR kw w) (Z:(Y.length:Int)=t.A0) (hp:(P.length:Int)=t.A3) (A:w.length=t.Az.length) (u:lim<=4096) :
 Qbl n t ⟨rF T,rR Y,rR P⟩ (rR w) lim=some (match backQ (tT t) lim T Y P w with | .inl e=>(⟨rF 0,[],[]⟩,⟨e.1,e.2.1,(e.2.2:Int)⟩) | .inr z=>(⟨rF z.1,rR z.2.1,rR z.2.2⟩,⟨0,0,0⟩)) /\
 (∀ e,backQ (tT t) lim T Y P w=.inl e->e.1≠0)/\∀ z,backQ (tT t) lim T Y P w=.inr z->(z.2.1.length:Int)=t.A0/\(z.2.2.length:Int)=t.A3/\QR 129 z.2.1/\QR 129 z.2.2:=by
 have eC:(tT t).Code=t.Code.map tI:=rfl;have Q:Xe n 0 0=some (rF 0,[],[]):=Jgo (a:=0) (b:=0) hn om om;rw[Jq3];unfold backQ;rw[Q,sbind,Qvx hn E hk y L N O M Z hp u,sbind];cases g:runQ lim T Y P (tT t).Code 0 [] with
 | inl e=>
   have S:=Qoz g;simp only[];rw[oo (show ¬ e.1=0 by omega),ow,bifT];exact⟨rfl,λz h=>(by cases h;show e.1≠0;omega),λz h=>by cases h⟩
 | inr vs=>
 obtain⟨v1,v2⟩:=Qtb u (λ_ h=>by cases h) g;have x:=Joi y g;have vl:vs.length=t.Code.length:=by rw[v1,eC,ov,yr,xg]
 have ok:RbOK n kw t vs w lim:=⟨hn,hkw,y,x,vl,v2,X,A,u⟩
 obtain⟨C,V,U,⟨d1,d2⟩,⟨d3,d4⟩,mm1⟩:=ok.dims;obtain⟨d,eDim⟩:∃ d:Nat,t.A0=(d:Int):=⟨t.A0.toNat,om⟩
 obtain⟨f,ePar⟩:∃ f:Nat,t.A3=(f:Int):=⟨t.A3.toNat,om⟩
 simp only[];rw[ol trivial,ou,bifF,Kf,Qev om om,sbind,show Xe n t.A0 t.A3=some (rF 0,rR (List.replicate d 0),rR (List.replicate f 0)) by rw[eDim,ePar];exact Jgo hn om om,sbind];have eDn:(tT t).A0.toNat=d:=by show t.A0.toNat=d;omega
 have ePn:(tT t).A3.toNat=f:=by show t.A3.toNat=f;omega
 rw[eDn,ePn,show(tT t).Az=t.Az from rfl,w64 om om]
 have hI:RbI t vs w 1 (List.replicate vs.length ⟨false,[],[]⟩) [] ⟨coQ vs.length t.Az w,0,List.replicate d 0,List.replicate f 0⟩ vs.length:=
  ⟨oc,by rw[xj oc];rfl,λ_ h=>(by cases h),oc,λj R=>(by simp only[accB]),Q8c,by simp[eDim],by simp[ePar],by rw[Zo];exact xr _,Qmb _,Qmb _⟩
 have m:=Jom (g0:=⟨rF 0,[],[]⟩) ok (rbEnd n lim ⟨rF 0,[],[]⟩) vs.length n 1 _ _ _ hI (xr _) om (by unfold big at hn;omega);cases s:pullQ lim (tT t).Code vs vs.length ⟨coQ vs.length t.Az w,0,List.replicate d 0,List.replicate f 0⟩ with
 | inl j=>
   rw[s] at m;simp only[] at m |-;exact⟨m,λe h=>(by cases h;show(6:Int)≠0;decide),λz h=>by cases h⟩
 | inr z=>
   rw[s] at m;simp only[] at m |-;obtain⟨v,F,G,I,J,K⟩:=m;rw[v];unfold rbEnd;have eall:[rF z.T]++rR z.Y++rR z.P=rR (z.T::(z.Y++z.P)):=by unfold rR;simp
   have r:QR 1000000 (z.T::(z.Y++z.P)):=λq i=>by rcases xu.1 i with rfl | i;exact F;rcases yd.1 i with i | i;exact G q i;exact I q i
   simp only[];rw[J5 (by simp[Kf];omega) (by simp[Kf];omega),sbind,J5 (by simp[Kf];omega) (by simp[Kf];omega),sbind,eall,Qcl (lim:=lim) hn (show 1000000<274877906944 by decide) r oh,sbind];cases B:fitQ lim (z.T::(z.Y++z.P)) 0 with
   | some j=>
     have R:=Qj1 B;simp only[];rw[Kf,ol om,bifT];exact⟨rfl,λe h=>(by cases h;show(6:Int)≠0;decide),λz h=>by cases h⟩
   | none=>
     have i:=Qk6 u B;simp only[];rw[Kf,oo om,bifF];refine⟨rfl,λe h=>(by cases h),λz' h=>?_⟩;cases h;exact⟨J,K,λq l=>i q (by simp[l]),λq l=>i q (by simp[l])⟩
abbrev RcS:=(List (List Qb))×Qj×Int
def rcBody(n:Nat)(x0:Qu)(e x2:Qb)(x4:List Qb)(a:List (List Qb))(d:Int):RcS->Option (Lp RcS (Lp Qj (Qj×Jz))):=λ(s247:(List (List Qb))×Qj×Int)=>
 bif decide ((0:Int)<=s247.2.2) then (
  (loopM (λ(s289:(List Qb)×Int)=>
   bif decide (s289.2<(x4.length:Int)) then (
    (getI x0.Av.B s247.2.2).bind λy290=>
    (getI x4 s289.2).bind λy292=>
    (Jc n y290 y292).bind λr294=>
    (loopM (λ(s311:Qb×Int)=>
     bif decide (s311.2<(x0.Av.B.length:Int)) then (
      (getI x0.Av.A s311.2).bind λy312=>
      (getI y312 s247.2.2).bind λy314=>
      (getI s247.1 s311.2).bind λy316=>
      (getI y316 s289.2).bind λy318=>
      (Jc n y314 y318).bind λr320=>
      (Qz n s311.1 r320).bind λr322=>
      some (Lp.go (r322,wrap64 (s311.2+(1:Int)))))
     else (
      some (Lp.out s311.1))) n (r294,wrap64 (s247.2.2+(1:Int)))).bind λ(t309:Qb)=>
    (Jc n x2 t309).bind λr324=>
    (appM 56 s289.1 ([r324]:List Qb)).bind λy326=>
    some (Lp.go (y326,wrap64 (s289.2+(1:Int)))))
   else (
    some (Lp.out s289.1))) n (([]:List Qb),(0:Int))).bind λ(t287:(List Qb))=>
  (J0 n t287 d).bind λr328=>
  bif decide (r328<(t287.length:Int)) then (
   some (Lp.out (Lp.out (((⟨[],[]⟩:Qj),(⟨(6:Int),s247.2.2,wrap64 ((300:Int)+r328)⟩:Jz))))))
  else (
   (Wk n x0 e x2 s247.2.2).bind λr330=>
   (getI a s247.2.2).bind λy332=>
   (Wt n x0 r330 y332).bind λr334=>
   (Qbl n x0.Tape r334 t287 d).bind λr336=>
   bif !decide (r336.2.a0=(0:Int)) then (
    some (Lp.out (Lp.out (((⟨[],[]⟩:Qj),(⟨r336.2.a0,s247.2.2,r336.2.a2⟩:Jz))))))
   else (
    (getI s247.1 s247.2.2).bind λ_=>
    (Wz n s247.2.1.Y r336.1.Y).bind λr340=>
    (Wz n s247.2.1.P r336.1.P).bind λr342=>
    some (Lp.go ((List.set s247.1 (Int.toNat s247.2.2) r336.1.Y),(⟨r340,r342⟩:Qj),wrap64 (s247.2.2 - (1:Int)))))))
 else (
  some (Lp.out (Lp.go s247.2.1)))
def rcEnd(n:Nat)(x0:Qu)(a:Int):Qj->Option (Qj×Jz):=λ(t245:Qj)=>
    (J0 n t245.Y a).bind λr344=>
    bif decide (r344<(t245.Y.length:Int)) then (
     some ((⟨[],[]⟩:Qj),(⟨(6:Int),(x0.Av.B.length:Int),wrap64 ((300:Int)+r344)⟩:Jz)))
    else (
     (J0 n t245.P a).bind λr346=>
     bif decide (r346<(t245.P.length:Int)) then (
      some ((⟨[],[]⟩:Qj),(⟨(6:Int),wrap64 ((x0.Av.B.length:Int)+(1:Int)),wrap64 ((300:Int)+r346)⟩:Jz)))
     else (
      some (t245,(⟨0,0,0⟩:Jz))))
theorem Jq4{n:Nat}{x0:Qu}{d x2:Qb}{f x4:List Qb}:Yk n x0 d x2 f x4=(Vg x0.Ay).bind λe=>
 (Zs n x0 d x2 f).bind λa=>
 bif !decide (a.2.a0=(0:Int)) then (
  some ((⟨[],[]⟩:Qj),a.2))
 else (
  (mkM 24 ([]:(List Qb)) (x0.Av.B.length:Int)).bind λi=>
  (appM 56 ([]:List Qb) x4).bind λj=>
  (Vs n (x0.P.length:Int)).bind λg=>
  (loopM (rcBody n x0 d x2 x4 a.1.Ys e) n (i,(⟨j,g⟩:Qj),wrap64 ((x0.Av.B.length:Int) - (1:Int)))).bind (lpK (rcEnd n x0 e))):=wm (wm rfl)
structure RcOK(n k:Nat)(p:Qu)(T H:Rat)(W:List Rat)(yss:List (List Rat)):Prop where
 hn:big<=n
 h0:129<=k
 hk:k<8000
 hp:PrbWr k p
 hr:prbR (tP p)
 qT:qw T<=k
 qH:qw H<=k
 qW:QR k W
 wl:(W.length:Int)=p.Tape.A0
 ys:∀ a∈yss,QR 129 a/\a.length=W.length
 yl:yss.length=p.Av.B.length
section
variable {n k:Nat}{p:Qu}{T H:Rat}{W:List Rat}{yss:List (List Rat)}{lim:Int}
def coefQ(p:Qu)(i:Nat):List Rat:=(((tS p.Av).A.map rv).drop (i+1)).map λa=>a.getD i 0
theorem Jkv(h:RcOK n k p T H W yss){i:Nat}{b:Qb}{ls:List (List Rat)}{m:List (List Qb)}(hb:p.Av.B[i]?=some b)(hls:ls.length+(i+1)=p.Av.B.length)(e:∀ a∈ls,QR 129 a/\a.length=W.length)(V:m.drop (i+1)=rRR ls):
 (∀ {β:Type}(K:List Qb->Option β),(loopM (λ(s289:(List Qb)×Int)=>
      bif decide (s289.2<((rR W).length:Int)) then (
       (getI p.Av.B (i:Int)).bind λy290=>
       (getI (rR W) s289.2).bind λy292=>
       (Jc n y290 y292).bind λr294=>
       (loopM (λ(s311:Qb×Int)=>
        bif decide (s311.2<(p.Av.B.length:Int)) then (
         (getI p.Av.A s311.2).bind λy312=>
         (getI y312 (i:Int)).bind λy314=>
         (getI m s311.2).bind λy316=>
         (getI y316 s289.2).bind λy318=>
         (Jc n y314 y318).bind λr320=>
         (Qz n s311.1 r320).bind λr322=>
         some (Lp.go (r322,wrap64 (s311.2+(1:Int)))))
        else (
         some (Lp.out s311.1))) n (r294,wrap64 ((i:Int)+(1:Int)))).bind λ(t309:Qb)=>
       (Jc n (rF H) t309).bind λr324=>
       (appM 56 s289.1 ([r324]:List Qb)).bind λy326=>
       some (Lp.go (y326,wrap64 (s289.2+(1:Int)))))
      else (
       some (Lp.out s289.1))) n (([]:List Qb),(0:Int))).bind K=K (rR (bslQ ((tS p.Av).A.map rv) (fr b) H W i ls)))/\QR (21*k) (bslQ ((tS p.Av).A.map rv) (fr b) H W i ls)/\(bslQ ((tS p.Av).A.map rv) (fr b) H W i ls).length=W.length:=by
 have hn:=h.hn;have h0:=h.h0;have hk:=h.hk;obtain⟨U,S,hpl⟩:=h.hr;have s:schR (tS p.Av):=S;have J:tapeR (tT p.Tape):=U;obtain⟨⟨d1,d2⟩,_⟩:=J.1;have d2':p.Tape.A0<=6:=d2;have hwl:=h.wl;obtain⟨nA,nB,nC,nE⟩:=Q82 s;obtain⟨⟨⟨g1,g2⟩,g3,g4,g5⟩,g6⟩:=Qmg.1 s.2.1;have C:=Jm hb;have ebF:=Qti (nB b C);have X:qw (fr b)<=k:=qw_fr (Fk_wd (h.hp.s.b b C)) om;have r:(bslQ ((tS p.Av).A.map rv) (fr b) H W i ls).length=W.length:=Qza λa f=>(e a f).2;have eAl:((tS p.Av).A.map rv).length=p.Av.A.length:=by show((p.Av.A.map (·.map tF)).map rv).length=_;rw[ov,ov]
 have hcl:(coefQ p i).length=ls.length:=by unfold coefQ;rw[ov,uc,eAl];omega
 have F:∀ q,q<ls.length->∃ a x,p.Av.A[i+1+q]?=some a/\a[i]?=some x/\rF (fr x)=x/\(coefQ p i)[q]?=some (fr x)/\qw (fr x)<=k:=λq B=>by
  have f:p.Av.A[i+1+q]?=some (p.Av.A[i+1+q]' om):=oi om;have y:=xi (l:=p.Av.A) (n:=i+1+q) om;generalize p.Av.A[i+1+q]' om=a at f y;have hal:=g6 (i+1+q) om a f;have L:a[i]?=some (a[i]' om):=oi om;have A:=xi (l:=a) (n:=i) om;generalize a[i]' om=x at L A;refine⟨a,x,f,L,Qti (nA a y x A),?_,qw_fr (Fk_wd (h.hp.s.a a y x A)) om⟩;have M:((tS p.Av).A.map rv)[i+1+q]?=some (rvr a):=by
   show((p.Av.A.map (·.map tF)).map rv)[i+1+q]?=_;rw[xm,xm,f];exact yj some (Qek a)
  unfold coefQ;rw[xm,vc,M];have N:(rvr a)[i]?=some (fr x):=by unfold rvr;exact Qav fr L
  exact yj some (Qo2 N)
 have cQ:QR k (coefQ p i):=λz g=>by obtain⟨q,B,rfl⟩:=List.getElem_of_mem g;obtain⟨a,x,_,_,_,Z,L⟩:=F q om;rw[oi B] at Z;rw[Option.some.inj Z];exact L
 have h8:ls.length*(k+129+1)<=8*(k+129+1):=xh _ om;have zl:(scaleQ (fr b) W).length=W.length:=W6;have E:bslQ ((tS p.Av).A.map rv) (fr b) H W i ls=scaleQ H (mixQ (coefQ p i) ls (scaleQ (fr b) W)):=rfl;have qmix:=Qt7 (b:=k+k) cQ (λa f=>(e a f).1) (Qkj X h.qW);have qall:=Qkj h.qH qmix;refine⟨fun {β} K=>?_,?_,r⟩;rw[Wr (λd=>(rR ((bslQ ((tS p.Av).A.map rv) (fr b) H W i ls).take d),(d:Int))) W.length (rR (bslQ ((tS p.Av).A.map rv) (fr b) H W i ls))];intro d hd;have O:W[d]?=some W[d]:=oi hd;have v:=h.qW _ (xi hd);generalize W[d]=u at O v;have q0:=X0 X v;have P:(bslQ ((tS p.Av).A.map rv) (fr b) H W i ls)[d]?=some (H*mixI (coefQ p i) ls d (fr b*u)):=by
  have hm:=Q4u (cs:=coefQ p i) (l:=ls) (z:=scaleQ (fr b) W) hd (λa f=>(e a f).2) zl;have g:(scaleQ (fr b) W)[d]?=some (fr b*u):=by unfold scaleQ;rw[xm,O];rfl
  rw[Qo2 g] at hm;have hml:(mixQ (coefQ p i) ls (scaleQ (fr b) W)).length=W.length:=Qg7 (λa f=>(e a f).2) zl;have I:(mixQ (coefQ p i) ls (scaleQ (fr b) W))[d]?=some (mixI (coefQ p i) ls d (fr b*u)):=by rw[<-hm,ot,oi om];rfl
  rw[E];unfold scaleQ at I |-;rw[xm,I];rfl
 have hloop:∀ {γ:Type}(K':Qb->Option γ),(loopM (λ(s311:Qb×Int)=>
  bif decide (s311.2<(p.Av.B.length:Int)) then (
   (getI p.Av.A s311.2).bind λy312=>
   (getI y312 (i:Int)).bind λy314=>
   (getI m s311.2).bind λy316=>
   (getI y316 (d:Int)).bind λy318=>
   (Jc n y314 y318).bind λr320=>
   (Qz n s311.1 r320).bind λr322=>
   some (Lp.go (r322,wrap64 (s311.2+(1:Int)))))
  else (
   some (Lp.out s311.1))) n (rF (fr b*u),((i+1:Nat):Int))).bind K'=K' (rF (mixI (coefQ p i) ls d (fr b*u))):=λK'=>by
  rw[Wr (λq=>(rF (mixI ((coefQ p i).take q) (ls.take q) d (fr b*u)),((i+1+q:Nat):Int))) ls.length (rF (mixI (coefQ p i) ls d (fr b*u)))];intro q B;obtain⟨a,x,M,N,e3,e4,Y⟩:=F q B;have Q:ls[q]?=some ls[q]:=oi B;obtain⟨lq,ll⟩:=e _ (xi B);generalize ls[q]=l at Q lq ll;have hy:m[i+1+q]?=some (rR l):=by have:=yj (λz=>z[q]?) V;simp only[vc] at this;rw[this];exact Q8z Q
  have R:l[d]?=some (l.getD d 0):=by rw[ot,oi om];rfl
  have G:=Vp (i:=d) lq oz;have hpar:=Qtj (i:=d) (z:=fr b*u) (b:=k+k) (cs:=(coefQ p i).take q) (l:=ls.take q) (j:=k) (k:=129) om (λz g=>cQ z (ym g)) (λz g=>(e z (ym g)).1) om;have h8':(ls.take q).length*(k+129+1)<=8*(k+129+1):=xh _ (by rw[xa];omega);have hmul:=X0 Y G;rw[X4 e4,X4 Q,Q11 (by rw[xa,xa];omega)];simp only[];rw[ol (show((i+1+q:Nat):Int)<(p.Av.B.length:Int) by omega),bifT,Q7 M,sbind,Q7 N,sbind,Q7 hy,sbind,Q7 (Qih R),sbind]
  rw[show Jc n x (rF (l.getD d 0))=some (rF (fr x*l.getD d 0)) by
   have:=Qah (p:=fr x) (q:=l.getD d 0) (k:=k) hn om Y om
   rwa [e3] at this,sbind,W3 (k:=20*k) hn om om om,sbind,w1 om]
  rfl;simp only[];rw[oo om,bifF,xb om,xc];unfold big at hn;omega;rfl
 have hmI:=Qtj (i:=d) (z:=fr b*u) (b:=k+k) (cs:=coefQ p i) (l:=ls) (j:=k) (k:=129) om cQ (λz g=>(e z g).1) om;simp only[Kf];rw[ol (show(d:Int)<(W.length:Int) by omega),bifT,Q7 hb,sbind,Q7 (Qih O),sbind]
 rw[show Jc n b (rF u)=some (rF (fr b*u)) by
  have:=Qah (p:=fr b) (q:=u) (k:=k) hn om X v
  rwa [ebF] at this,sbind,w1 om,hloop,Qah (k:=20*k) hn om (by have:=h.qH;omega) om,sbind,J5 (by simp[Kf];omega) (by simp[Kf];omega),sbind,w1 om,X4 P,Qo0]
 simp only[Kf];rw[oo om,bifF,<-r,xc];unfold big at hn;omega;rfl;rw[E];exact Jb qall om
structure RcI(p:Qu)(W:List Rat)(b:Nat)(ysr:List (List Qb))(z:BdS)(i:Nat):Prop where
 cl:ysr.length=p.Av.B.length
 cd:ysr.drop i=rRR z.ls
 ci:z.ls.length+i=p.Av.B.length
 lq:∀ a∈z.ls,QR 129 a/\a.length=W.length
 yl:z.Y.length=W.length
 pl:z.P.length=p.P.length
 yq:QR b z.Y
 pq:QR b z.P
theorem Jon(h:RcOK n k p T H W yss)(B:lim<=4096){b0 i:Nat}{d:List (List Qb)}{z:BdS}(hi:RcI p W b0 d z (i+1))(u:129<=b0)(hb:b0<=1000000):
 match bstageQ (tT p.Tape) lim T H (rvr p.P) (yss.getD i []) ((rv (tS p.Av).C).getD i 0) (bslQ ((tS p.Av).A.map rv) ((rv (tS p.Av).B).getD i 0) H W i z.ls) i with
 | .inl f=>rcBody n p (rF T) (rF H) (rR W) (rRR yss) lim (d,⟨rR z.Y,rR z.P⟩,(i:Int))=some (.out (.out (⟨[],[]⟩,⟨f.Ax,f.A4,f.At⟩)))
 | .inr g=>rcBody n p (rF T) (rF H) (rR W) (rRR yss) lim (d,⟨rR z.Y,rR z.P⟩,(i:Int))=some (.go (d.set i (rR g.1),⟨rR (addQ z.Y g.1),rR (addQ z.P g.2)⟩,(i:Int) - 1))/\RcI p W (b0+130) (d.set i (rR g.1)) ⟨g.1::z.ls,addQ z.Y g.1,addQ z.P g.2⟩ i:=by
 have hn:=h.hn;have h0:=h.h0;have hk:=h.hk;obtain⟨U,S,Q⟩:=h.hr;have q:schR (tS p.Av):=S;have r:tapeR (tT p.Tape):=U;obtain⟨⟨d1,d2⟩,⟨d3,d4⟩,d5,d6⟩:=r.1;have d1':1<=p.Tape.A0:=d1;have d2':p.Tape.A0<=6:=d2;have d4':p.Tape.A3<=6:=d4;have d5':(p.Tape.Az.length:Int)=p.Tape.A0:=d5;have hwl:=h.wl;obtain⟨nA,nB,nC,nE⟩:=Q82 q;obtain⟨⟨⟨g1,g2⟩,g3,g4,g5⟩,g6⟩:=Qmg.1 q.2.1;have E:(p.P.length:Int)=p.Tape.A3:=by
  have e:((tP p).P.length:Int)=(p.P.length:Int):=by unfold tP;simp
  rw[<-e];exact Q
 have L:QR k (rvr p.P):=Qn3 (λf A=>Fk_wd (h.hp.pk f A)) om;have J:((rvr p.P).length:Int)=p.Tape.A3:=by rw[Qel];exact E
 have hNorm:V5 n p.P=some (rR (rvr p.P)):=Qg9 hn om (λf A=>Fk_wd (h.hp.pk f A)) h.hp.pl;have hci:=hi.ci;have O:=hi.cl;have hyl:=h.yl;have hil:i<p.Av.B.length:=om
 have F:p.Av.B[i]?=some (p.Av.B[i]' om):=oi om;have G:p.Av.C[i]?=some (p.Av.C[i]' om):=oi om;have M:yss[i]?=some (yss[i]' om):=oi om;obtain⟨yq,yl⟩:=h.ys _ (xi (l:=yss) (n:=i) om);have s:=xi (l:=p.Av.C) (n:=i) om;generalize p.Av.B[i]' om=b at F;generalize p.Av.C[i]' om=c at G s;have eYd:yss.getD i []=yss[i]' om:=by rw[ot,M];rfl
 rw[eYd];generalize yss[i]' om=yi at M yq yl;have eB:(rv (tS p.Av).B).getD i 0=fr b:=by have:rv (tS p.Av).B=rvr p.Av.B:=Qek _;rw[this];exact Qo2 (by unfold rvr;exact Qav fr F)
 have eC:(rv (tS p.Av).C).getD i 0=fr c:=by have:rv (tS p.Av).C=rvr p.Av.C:=Qek _;rw[this];exact Qo2 (by unfold rvr;exact Qav fr G)
 rw[eB,eC];obtain⟨s1,X,s3⟩:=Jkv h F om hi.lq hi.cd;have R:=Qti (nC c s);have y:qw (fr c)<=k:=qw_fr (Fk_wd (h.hp.s.c c s)) om;have m:=Qcl (lim:=lim) hn (show 21*k<274877906944 by omega) X om;generalize bslQ ((tS p.Av).A.map rv) (fr b) H W i z.ls=sl at s1 X s3 m |-;unfold bstageQ rcBody;simp only[];rw[ol (show(0:Int)<=(i:Int) by omega),bifT,s1,m,sbind];cases A:fitQ lim sl 0 with
 | some j=>
   have hj:=Qj1 A;simp only[];rw[Kf,ol om,bifT,w64 om om]
 | none=>
   simp only[];have C:=X0 h.qH y;have Z:=Zx h.qT C;have qT:=h.qT;have I:Wk n p (rF T) (rF H) (i:Int)=some (rF (T+H*fr c)):=by unfold Wk;rw[Q7 G,sbind,<-R,Qah (k:=k) hn om h.qH y,sbind,fr_rF,W3 (k:=4*k) hn om om om,sbind]
   have K:Wt n p (rF (T+H*fr c)) (rR yi)=some ⟨rF (T+H*fr c),rR yi,rR (rvr p.P)⟩:=by unfold Wt;rw[hNorm,sbind]
   obtain⟨b1,b2,b3⟩:=Q61 (k:=22*k) (kw:=21*k) (t:=p.Tape) (T:=T+H*fr c) (Y:=yi) (P:=rvr p.P) (w:=sl) (lim:=lim) hn om om om r (λx hx=>Wg (h.hp.t x hx) om) om (Jb yq om) (Jb L om) X om J om B;rw[Kf,oo om,bifF,I,sbind,Q7 (Q8z M),sbind,K,sbind,b1,sbind];cases v:backQ (tT p.Tape) lim (T+H*fr c) yi (rvr p.P) sl with
   | inl e=>
     have:=b2 e v;simp only[];rw[oo this,ow,bifT]
   | inr g=>
     obtain⟨l1,l2,V,q2⟩:=b3 g v;have hold:d[i]?=some (d[i]' om):=oi om;have hyl':=hi.yl;have hpl2:=hi.pl;simp only[];rw[ol trivial,ou,bifF,Q7 hold,sbind,Qrc (k:=b0) hn om hi.yq (Jb V u) om om,sbind,Qrc (k:=b0) hn om hi.pq (Jb q2 u) om om,sbind,ya,w64 (x:=(i:Int) - 1) om om];refine⟨rfl,by rw[vw];exact O,?_,by simp only[xn];omega,λa N=>?_,by simp only[Zl];omega,by simp only[Zl];omega,Jb (Qn0 hi.yq V) om,Jb (Qn0 hi.pq q2) om⟩;rw[Jek om,hi.cd];rfl;rcases xu.1 N with rfl | N;exact⟨V,om⟩;exact hi.lq a N
theorem Joo(h:RcOK n k p T H W yss)(j:lim<=4096)(K:Qj->Option (Qj×Jz)):∀(i d b0:Nat) (a:List (List Qb)) (z:BdS),RcI p W b0 a z i->129<=b0->b0+i*130<=1000000->i<d ->
 match bstagesQ (tT p.Tape) (tS p.Av) lim T H (rvr p.P) W yss i z with
 | .inl f=>(loopM (rcBody n p (rF T) (rF H) (rR W) (rRR yss) lim) d (a,⟨rR z.Y,rR z.P⟩,(i:Int) - 1)).bind (lpK K)=some (⟨[],[]⟩,⟨f.Ax,f.A4,f.At⟩)
 | .inr g=>(loopM (rcBody n p (rF T) (rF H) (rR W) (rRR yss) lim) d (a,⟨rR z.Y,rR z.P⟩,(i:Int) - 1)).bind (lpK K)=K ⟨rR g.Y,rR g.P⟩/\QR 1000000 g.Y/\QR 1000000 g.P/\g.Y.length=W.length/\g.P.length=p.P.length:=by
 intro i
 induction i with
 | zero=>
   intro d b0 a z hi e hb m;simp only[bstagesQ];refine⟨?_,Jb hi.yq om,Jb hi.pq om,hi.yl,hi.pl⟩;rw[Kz (t:=Lp.go ⟨rR z.Y,rR z.P⟩) (by unfold rcBody;simp only[];rw[oo om,bifF]) om,xq,Vn]
 | succ i s=>
   intro d b0 a z hi e hb m;obtain⟨n'',rfl⟩:∃ n'',d=n''+1:=⟨d - 1,om⟩
   have hs:=Jon h j hi e om;simp only[bstagesQ];rw[show((i+1:Nat):Int) - 1=(i:Int) by omega];cases l:bstageQ (tT p.Tape) lim T H (rvr p.P) (yss.getD i []) ((rv (tS p.Av).C).getD i 0) (bslQ ((tS p.Av).A.map rv) ((rv (tS p.Av).B).getD i 0) H W i z.ls) i with
   | inl f=>
     rw[l] at hs;simp only[] at hs |-;rw[Kz hs om,xq,Yz]
   | inr g=>
     rw[l] at hs;simp only[] at hs |-;obtain⟨q,r⟩:=hs;rw[Qau q];exact s n'' (b0+130) _ _ r om om om
end
theorem Q13{n k:Nat}{p:Qu}{T H:Rat}{Y W:List Rat}(hn:big<=n)(h0:129<=k)(hk:k<8000)(hp:PrbWr k p)(hr:prbR (tP p))(B:qw T<=k)(A:qw H<=k)(Q:QR k Y)(F:(Y.length:Int)=p.Tape.A0)(C:QR k W)(v:W.length=Y.length):
 Yk n p (rF T) (rF H) (rR Y) (rR W)=some (match backThQ (tP p) T H Y W with | .inl f=>(⟨[],[]⟩,⟨f.Ax,f.A4,f.At⟩) | .inr z=>(⟨rR z.2.1,rR z.2.2⟩,⟨0,0,0⟩)):=by
 have i:=Jee (T:=T) (H:=H) hr F;have eL:Vg p.Ay=some (limQ p.Ay):=rfl;have hlim4:limQ p.Ay<=4096:=by unfold limQ;omega
 have r:rv (tP p).P=rvr p.P:=Qek p.P;have l:schR (tS p.Av):=hr.2.1;have q:tapeR (tT p.Tape):=hr.1;obtain⟨⟨⟨g1,g2⟩,g3,g4,g5⟩,g6⟩:=Qmg.1 l.2.1;obtain⟨⟨X,J⟩,⟨Z,L⟩,d5,d6⟩:=q.1;have K:p.Tape.A0<=6:=J;have M:p.Tape.A3<=6:=L;have G:(p.P.length:Int)=p.Tape.A3:=by
  have e:((tP p).P.length:Int)=(p.P.length:Int):=by unfold tP;simp
  rw[<-e];exact hr.2.2
 rw[Jq4];unfold backThQ;rw[eL,sbind,Qz1 hn h0 hk hp hr B A Q F,sbind,i];cases hd:doQ (tT p.Tape) (tS p.Av) (limQ p.Ay) T H Y (rvr p.P) with
 | inl f=>
   have u:=Jda hd;have U:f.Ax≠2:=by have:=(doQ_f hd).1;omega
   simp only[];rw[oo u,ow,bifT,oj (by rintro(g | g)<;>contradiction)]
 | inr z=>
 rw[hd] at i;obtain⟨I,V⟩:=Qy7 i;have y:z.ys.length=p.Av.B.length:=by rw[V];show(tS p.Av).B.length=_;unfold tS;simp
 simp only[];rw[ol trivial,ou,bifF,oj (by intro g;exact g v),r];rw[show(tP p).Tape=tT p.Tape from rfl,show(tP p).Av=tS p.Av from rfl,show(tP p).Ay=p.Ay from rfl,show(toMr z).Ys=rRR z.ys from rfl];have ok:RcOK n k p T H W z.ys:=⟨hn,h0,hk,hp,hr,B,A,C,om,λa E=>⟨(I a E).1,by rw[(I a E).2];omega⟩,y⟩
 have eZ:Vs n (p.P.length:Int)=some (rR (List.replicate p.P.length 0)):=Qii hn om;rw[Qev om om,sbind,J5 (by simp[Kf];omega) (by simp[Kf];omega),sbind,eZ,sbind,yw,w64 om om]
 have hI:RcI p W k (List.replicate p.Av.B.length []) ⟨[],W,List.replicate p.P.length 0⟩ p.Av.B.length:=
  ⟨oc,by rw[xj oc];rfl,oc,λ_ h=>(by cases h),rfl,oc,C,Jb (Qmb _) om⟩
 have d:=Joo ok hlim4 (rcEnd n p (limQ p.Ay)) p.Av.B.length n k _ _ hI h0 om (by unfold big at hn;omega);have eBl:(tS p.Av).B.length=p.Av.B.length:=by unfold tS;simp
 have ePl:(rvr p.P).length=p.P.length:=Qel _;unfold bdoQ;rw[eBl,ePl];cases m:bstagesQ (tT p.Tape) (tS p.Av) (limQ p.Ay) T H (rvr p.P) W z.ys p.Av.B.length ⟨[],W,List.replicate p.P.length 0⟩ with
 | inl f=>
   rw[m] at d;simp only[] at d |-;exact d
 | inr g=>
   rw[m] at d;simp only[] at d |-;obtain⟨N,O,P,e4,e5⟩:=d;rw[N];unfold rcEnd;simp only[];rw[Qcl (lim:=limQ p.Ay) hn (show 1000000<274877906944 by decide) O om,sbind];cases R:fitQ (limQ p.Ay) g.Y 0 with
   | some j=>
     have S:=Qj1 R;simp only[];rw[Kf,ol om,bifT,w64 om om]
   | none=>
     simp only[];rw[Kf,oo om,bifF,Qcl (lim:=limQ p.Ay) hn (show 1000000<274877906944 by decide) P om,sbind];cases s:fitQ (limQ p.Ay) g.P 0 with
     | some j=>
       have S:=Qj1 s;simp only[];rw[Kf,ol om,bifT,w64 (x:=300+(j:Int)) om om,w1 om];rfl
     | none=>
       simp only[];rw[Kf,oo om,bifF]
set_option maxRecDepth 100000
theorem Jkw{n k:Nat}{a b:List Rat}(hn:big<=n)(hk:k<274877906944)(d:QR k a)(hb:QR k b)(la:a.length<=1000000)(lb:b.length<=1000000):((Zt n ⟨toR a,toR b⟩).bind λr=>Yu n r ⟨rR a,rR b⟩)=some true:=by unfold Zt Yu;simp only[jn_eq];rw[Qz0 hn (by rw[Jj];exact la),sbind,Qz0 hn (by rw[Jj];exact lb),sbind,sbind,Jkp,Jkp];simp only[];rw[Qol hn la hk d,sbind,ol rfl,bifT,Qol hn lb hk hb,sbind,ol rfl]
theorem FRr_q{k:Nat}{l:List Rat}(h:QR k l):FRr k (rR l):=λf a=>by obtain⟨q,d,rfl⟩:=xz.1 a;have g:=Qf9 q;have e:=Qga q;have:=h q d;exact⟨Jo _,Jo _,by show(toL _).length<=k;omega,by show(toL _).length<=k;omega⟩
theorem Q40{n k:Nat}{q:Rat}(hn:big<=n)(hk:k<1099511627776)(h:qw q<=k):Kg n (rF q)=some (rF q):=by have a:=FRr_q (k:=k) (l:=[q]) (λx d=>by rw[xk.1 d];exact h) (rF q) (by simp[rR]);rw[Qbs hn a.1 a.2.1 (by have:=a.2.2.1;omega) (by have:=a.2.2.2;omega),fr_rF]
theorem Jkx{n k:Nat}{l:List Rat}(hn:big<=n)(hk:k<1099511627776)(h:QR k l)(a:l.length<=1000000):V5 n (rR l)=some (rR l):=by rw[Qg9 hn hk (FRr_q h) (by rw[Kf];exact a),Jqz]
theorem Jgp{h:Q2}(hp:∀ t∈h.Aw,P1 t):
 (okR h.Aw).map (·.T)=rR ((tri (tHis h)).map (·.1))/\(okR h.Aw).map (·.H)=rR ((tri (tHis h)).map (·.2.1))/\(okR h.Aw).map (·.Y)=rRR ((tri (tHis h)).map (·.2.2)):=by
 have e:tri (tHis h)=(okR h.Aw).map λt=>triT (tTry t):=by show(okT (h.Aw.map tTry)).map triT=_;rw[Jog,yo];rfl
 have d:∀ t∈okR h.Aw,P1 t:=λt a=>hp t (dm.1 a).1;rw[e];unfold rR rRR;rw[yo,yo,yo,yo,yo,yo];refine⟨vt λt a=>?_,vt λt a=>?_,vt λt a=>?_⟩;exact(Qd2.2 ((d t a).2 t.T oc)).symm;exact(Qd2.2 ((d t a).2 t.H oc)).symm;show t.Y=rR (rv (t.Y.map tF));rw[Qek];exact(Q12.2 (d t a).1).symm
def kepR(A:List Tri)(c:Nat):Xp:=⟨(c:Int),rR (A.map (·.2.1)),rR ((mrk A.length c).map λm=>(A.getD m (0,0,[])).1),rRR ((mrk A.length c).map λm=>(A.getD m (0,0,[])).2.2)⟩
theorem Jgq{A:List Tri}{m:Nat}(f:Tri->Rat)(e:Qb)(a:m<A.length):(rR (A.map f)++[e])[m]?=some (rF (f (A.getD m (0,0,[])))):=by rw[yh (by rw[Kf];simp;omega)];unfold rR;rw[xm,xm,oi a,ot,oi a];rfl
theorem Jmr{A:List Tri}{m:Nat}(f:Tri->List Rat)(e:List Qb)(a:m<A.length):(rRR (A.map f)++[e])[m]?=some (rR (f (A.getD m (0,0,[])))):=by rw[yh (by rw[Qmx];simp;omega)];unfold rRR;rw[xm,xm,oi a,ot,oi a];rfl
theorem Jbe{n:Nat}{h:Q2}{x:Int}(hn:big<=n)(v:h.Aw.length<=200)(hp:∀ t∈h.Aw,P1 t):Qed n h x=some (kepR (tri (tHis h)) (cutI x)):=by
 obtain⟨c1,u⟩:=cut_b x;obtain⟨q,r,s⟩:=Jgp hp;have l:(tri (tHis h)).length<=200:=by
  have:=Qn1 (tHis h).Aw;rw[Qte];have e:(tHis h).Aw.length=h.Aw.length:=by show(h.Aw.map tTry).length=_;simp
  omega
 unfold Qed;rw[Q6q,sbind,Qus hn om,sbind,Qur hn om,sbind,q,r,s];generalize tri (tHis h)=A at l |-;have eL:((rR (A.map (·.2.1))).length:Int)=((A.length:Nat):Int):=by rw[Kf];simp
 rw[eL,Q1y hn l,sbind];have d:∀ m∈mrk A.length (cutI x),m<A.length:=λm f=>by obtain⟨_,_,_,h⟩:=Q2g c1 f;exact h
 have j:(mrk A.length (cutI x)).length<=200:=by rw[Qmo];have:=Qp6 (n:=A.length) c1;omega
 unfold kepR;generalize mrk A.length (cutI x)=ms at d j |-;have g:(iL ms).length=ms.length:=by simp[iL]
 rw[g,Wr (λi=>(rR ((ms.take i).map λm=>(A.getD m (0,0,[])).1),rRR ((ms.take i).map λm=>(A.getD m (0,0,[])).2.2),(i:Int))) ms.length (rR (ms.map λm=>(A.getD m (0,0,[])).1),rRR (ms.map λm=>(A.getD m (0,0,[])).2.2))];intro i hi;have f:ms[i]?=some ms[i]:=oi hi;have a:=d _ (xi hi);generalize ms[i]=m at f a;have g1:getI (iL ms) (i:Int)=some (m:Int):=Q7 (by unfold iL;rw[xm,f];rfl);simp only[];rw[ol (show(i:Int)<((ms.length:Nat):Int) by omega),bifT,g1,sbind,Q7 (Jgq (·.1) _ a),sbind,J5 (by simp[Kf];omega) (by simp[Kf];omega),sbind,sbind,Q7 (Jmr (·.2.2) _ a),sbind,J5 (by simp[Qmx];omega) (by simp[Qmx];omega),sbind,w1 om,X4 f];simp[rR,rRR];simp only[];rw[oo om,bifF,xc];unfold big at hn;omega;rfl
theorem Jop{A:List Tri}{c j:Nat}(a:j<cnt A.length c):getI (kepR A c).Ts (j:Int)=some (rF (A.getD (j*c) (0,0,[])).1):=by refine Q7 ?_;show(rR _)[j]?=_;unfold rR;rw[xm,xm,Qqy a];rfl
theorem Joq{A:List Tri}{c j:Nat}(a:j<cnt A.length c):getI (kepR A c).Ys (j:Int)=some (rR (A.getD (j*c) (0,0,[])).2.2):=by refine Q7 ?_;show(rRR _)[j]?=_;unfold rRR;rw[xm,xm,Qqy a];rfl
theorem Qx6{A:List Tri}{c i:Nat}{x:Tri}(hi:A[i]?=some x):getI (kepR A c).A5 (i:Int)=some (rF x.2.1):=by refine Q7 ?_;show(rR _)[i]?=_;unfold rR;rw[xm,xm,hi];rfl
theorem Jh8{n k d c:Nat}{p:Qu}{A:List Tri}{to:Nat}{e:Rat}(hn:big<=n)(h0:129<=k)(hk:k<8000)(R:PrbWr k p)(hr:prbR (tP p))(hd:(d:Int)=p.Tape.A0)(Q:to<=200):∀(l:List Tri) (i v:Nat) (t:Rat) (y:List Rat) (m:List (List Rat)),ChT t l e->(∀ x∈l,TriK k d x)->(∀(j:Nat) x,l[j]?=some x->A[i+j]?=some x)->QR k y->y.length=d->i+1+l.length=to->l.length<v->m.length+l.length<=400 ->
 (loopM (λ(g:Qb×(List Qb)×(List (List Qb))×Int)=>
 bif decide ((wrap64 (g.2.2.2+(1:Int)))<(to:Int)) then (
  (getI (kepR A c).A5 g.2.2.2).bind λI=>
  (Kg n I).bind λC=>
  (Zs n p g.1 C g.2.1).bind λq=>
  bif !decide (q.2.a0=(0:Int)) then (
   some (Lp.out (Lp.out ((([]:List (List Qb)),(⟨q.2.a0,wrap64 (g.2.2.2+(1:Int)),q.2.a1,q.2.a2⟩:Xx))))))
  else (
   (Qz n g.1 C).bind λF=>
   (appM 24 g.2.2.1 ([q.1.Next]:List (List Qb))).bind λJ=>
   some (Lp.go (F,q.1.Next,J,wrap64 (g.2.2.2+(1:Int))))))
 else (
  some (Lp.out (Lp.go g.2.2.1)))) v (rF t,rR y,rRR m,(i:Int))).bind (lpK λ(G:(List (List Qb)))=>
 some (G,(⟨0,0,0,0⟩:Xx))) =
  some (match anewQ (tP p) l i y with | .inl f=>([],⟨f.Ax,f.Ba,f.A4,f.At⟩) | .inr r=>(rRR (m++r),⟨0,0,0,0⟩)):=by
 intro l
 induction l with
 | nil=>
   intro i v t y m _ _ _ _ _ hi B _;simp only[yr] at hi;rw[Kz (t:=Lp.go (rRR m)) (by simp only[];rw[w1 om,oo om,bifF]) om,sbind,Vn];simp only[anewQ,uh]
 | cons x l V=>
   intro i v t y m M K L S U hi B E;obtain⟨n'',rfl⟩:∃ n'',v=n''+1:=⟨v - 1,om⟩
   obtain⟨X,Z⟩:=M;obtain⟨a1,a2,a3,a4,a5⟩:=K x oc;simp only[xn] at hi E B;subst X;have u:=L 0 x rfl;rw[xp] at u;have s:=Qz1 (T:=x.1) (H:=x.2.1) (Y:=y) hn h0 hk R hr a1 a2 S om;rw[<-Jee (T:=x.1) (H:=x.2.1) hr om] at s;simp only[anewQ];cases hs:stepQ (tP p) x.1 x.2.1 y with
   | inl f=>
     rw[hs] at s;have N:=Qs4 hs
     rw[Kz (t:=Lp.out ([],⟨f.Ax,((i+1:Nat):Int),f.A4,f.At⟩)) (by
      simp only[];rw[w1 om,ol om,bifT,Qx6 u,sbind,Q40 hn om a2,sbind,s,sbind];simp only[]
      rw[oo N,ow,bifT]) om,sbind,Yz]
   | inr z=>
     rw[hs] at s;obtain⟨_,_,z1,z2,_⟩:=Qg8 hs
     rw[Qau (s':=(rF (x.1+x.2.1),rR z.next,rRR (m++[z.next]),((i+1:Nat):Int))) (by
      simp only[];rw[w1 om,ol om,bifT,Qx6 u,sbind,Q40 hn om a2,sbind,s,sbind];simp only[];rw[ol trivial,ou,bifF,W3 (k:=k) hn om a1 a2,sbind,J5 (by simp[Qmx];omega) (by simp[Qmx];omega),sbind]
      simp[rRR,toMr])]
     rw[V (i+1) n'' (x.1+x.2.1) z.next (m++[z.next]) Z (λa E=>K a (by simp[E])) (λj x O=>by have:=L (j+1) x (by simpa using O);rw[show i+(j+1)=i+1+j by omega] at this;exact this) (Jb z1 h0) om om om oh];simp only[];cases P:anewQ (tP p) l (i+1) z.next with
     | inl f=>rfl
     | inr r=>simp only[];rw[xf];rfl
theorem Jms{A:List Tri}{c m i j:Nat}{x:Tri}(h:((segA A c m).take i)[j]?=some x):A[m+j]?=some x:=by have a:=(ug.1 h).1;rw[xa,Qcb] at a;rw[jz om] at h;unfold segA at h;rw[vc,jz om] at h;exact h
theorem Q62{n k d j:Nat}{p:Qu}{A:List Tri}{x:Int}{t0 G:Rat}(hn:big<=n)(h0:129<=k)(hk:k<8000)(L:PrbWr k p)(hr:prbR (tP p))(hd:(d:Int)=p.Tape.A0)(u:∀ t∈A,TriK k d t)(P:A.length<=200)(I:ChT t0 A G)(l:j<cnt A.length (cutI x)):
 Qbm n p (kepR A (cutI x)) ((j*cutI x:Nat):Int) ((min (j*cutI x+cutI x) A.length:Nat):Int)=some (match anewQ (tP p) ((segA A (cutI x) (j*cutI x)).take (min (j*cutI x+cutI x) A.length - 1 - j*cutI x)) (j*cutI x) (A.getD (j*cutI x) (0,0,[])).2.2 with
  | .inl f=>([],⟨f.Ax,f.Ba,f.A4,f.At⟩)
  | .inr r=>(rRR ((A.getD (j*cutI x) (0,0,[])).2.2::r),⟨0,0,0,0⟩)):=by
 obtain⟨c1,O⟩:=cut_b x;have v:=(Qf7 c1).1 l;unfold Qbm;generalize J:cutI x=c at *;obtain⟨y,M,N,s,B⟩:=u _ (Qug v);obtain⟨e,g⟩:=Qzc I v c1;have K:d<=6:=by obtain⟨⟨⟨_,C⟩,_⟩,_⟩:=hr.1;have E:p.Tape.A0<=6:=C;omega
 show((grd (((c:Nat):Int) != 0)).bind λ_=>_)=_;rw[Q1n c1,sbind];show((getI (kepR A c).Ts (wrap64 (Int.tdiv ((j*c:Nat):Int) ((c:Nat):Int)))).bind λ_=>_)=_;rw[Que c1 om,Jop l,sbind,Q40 hn om y,sbind];show((grd (((c:Nat):Int) != 0)).bind λ_=>_)=_;rw[Q1n c1,sbind];show((getI (kepR A c).Ys (wrap64 (Int.tdiv ((j*c:Nat):Int) ((c:Nat):Int)))).bind λ_=>_)=_;rw[Que c1 om,Joq l,sbind,Jkx hn (show k<1099511627776 by omega) s om,sbind];obtain⟨F,a⟩:=Jdi (min (j*c+c) A.length - 1 - j*c) g;have m:=Jh8 (n:=n) (k:=k) (d:=d) (c:=c) (p:=p) (A:=A) (to:=min (j*c+c) A.length) (e:=F) hn h0 hk L hr hd om ((segA A c (j*c)).take (min (j*c+c) A.length - 1 - j*c)) (j*c) n (A.getD (j*c) (0,0,[])).1 (A.getD (j*c) (0,0,[])).2.2 [(A.getD (j*c) (0,0,[])).2.2] a (λx q=>u x (Quf x (ym q))) (λi x q=>Jms q) s B (by rw[xa,Qcb];omega) (by rw[xa,Qcb];unfold big at hn;omega) (by rw[xa,Qcb];simp;omega);exact m
theorem Jor{k:Nat}{p:Qg}{T H:Rat}{Y W:List Rat}(h0:129<=k)(hk:k<8000)(l:PrbW k p)(g:qw T<=k)(e:qw H<=k)(j:QR k Y)(i:QR k W):
 (∀ f,backThQ p T H Y W=.inl f->f.Ax≠0)/\∀ z,backThQ p T H Y W=.inr z->QR 129 z.2.1/\QR 129 z.2.2/\z.2.1.length=Y.length/\z.2.2.length=p.P.length:=by
 obtain⟨_,a,d⟩:=Qsl (n:=big) (k:=k) (p:=p) (t:=toF T) (h:=toF H) (y:=toR Y) (w:=toR W) (xr _) h0 hk l (Jq g) (Jq e) (Vd j) (Vd i);rw[Jf,Jf,Wn,Wn] at a d;refine⟨a,λz m=>?_⟩;obtain⟨_,q,r,z3,z4,_⟩:=d z m;exact⟨q,r,by rw[z3,Jj],z4⟩
theorem Jky{n k d m:Nat}{idx:Int}{p:Qu}{A:List Tri}{c:Nat}{xs:List Tri}{ys:List (List Rat)}{eT:Qb}(hn:big<=n)(h0:129<=k)(hk:k<8000)(hw:PrbWr k p)(Q:PrbW k (tP p))(hr:prbR (tP p))(hd:(d:Int)=p.Tape.A0)(hm:m+xs.length<=200)(hyl:ys.length=xs.length)
 (hx:∀(i:Nat) x,xs[i]?=some x->TriK k d x/\A[m+i]?=some x) (hy:∀ y∈ys,QR k y/\y.length=d) :
 ∀(j C:Nat) (w sum:List Rat),j<=xs.length->j<C->QR k w->w.length=d->QR 129 sum->sum.length=p.P.length ->
 (loopM (λ(s125:Qj×Int)=>
  bif decide ((m:Int)<=s125.2) then (
   (getI (rR (A.map (·.1))++[eT]) s125.2).bind λy126=>
   (getI (kepR A c).A5 s125.2).bind λy128=>
   (getI (rRR ys) (wrap64 (s125.2 - (m:Int)))).bind λy130=>
   (Yk n p y126 y128 y130 s125.1.Y).bind λr132=>
   bif !decide (r132.2.a0=(0:Int)) then (
    some (Lp.out (Lp.out (Lp.out (Lp.out (((⟨[],[]⟩:Qj),(⟨r132.2.a0,wrap64 (s125.2+(1:Int)),r132.2.a1,r132.2.a2⟩:Xx))))))))
   else (
    (Wz n s125.1.P r132.1.P).bind λr134=>
    (Vg p.Ay).bind λr136=>
    (J0 n r134 r136).bind λr138=>
    bif decide (r138<(r134.length:Int)) then (
     some (Lp.out (Lp.out (Lp.out (Lp.out (((⟨[],[]⟩:Qj),(⟨(6:Int),wrap64 (s125.2+(1:Int)),(10:Int),wrap64 ((300:Int)+r138)⟩:Xx))))))))
    else (
     some (Lp.go ((⟨r132.1.Y,r134⟩:Qj),wrap64 (s125.2 - (1:Int)))))))
  else (
   some (Lp.out (Lp.go s125.1)))) C ((⟨rR w,rR sum⟩:Qj),((m+j:Nat):Int) - 1)).bind (lpK λ(t123:Qj)=>
  some (Lp.go (t123,wrap64 (idx - (1:Int))))) =
  some (match swQ (tP p) m xs ys j (w,sum) with
   | .inl f=>(Lp.out (Lp.out (((⟨[],[]⟩:Qj),(⟨f.Ax,f.Ba,f.A4,f.At⟩:Xx)))):Lp (Qj×Int) (Lp Qj (Qj×Xx)))
   | .inr z=>Lp.go ((⟨rR z.1,rR z.2⟩:Qj),wrap64 (idx - 1))) /\
  ∀ z,swQ (tP p) m xs ys j (w,sum)=.inr z->QR k z.1/\QR 129 z.2/\z.1.length=d/\z.2.length=p.P.length:=by
 intro j
 induction j with
 | zero=>
   intro C w sum _ P s F hs E;rw[Kz (t:=Lp.go ⟨rR w,rR sum⟩) (by simp only[];rw[oo om,bifF]) om,sbind,Vn];exact⟨rfl,λz h=>by cases h;exact⟨s,hs,F,E⟩⟩
 | succ j ih=>
   intro C w sum hj P s F hs E;obtain⟨n'',rfl⟩:∃ n'',C=n''+1:=⟨C - 1,om⟩
   have v:xs[j]?=some (xs[j]' om):=oi om;have B:ys[j]?=some (ys[j]' om):=oi om;have G:=xi (l:=ys) (n:=j) om;generalize xs[j]' om=x at v;generalize ys[j]' om=y at B G;obtain⟨⟨R,x2,_⟩,q⟩:=hx j x v;obtain⟨S,y2⟩:=hy y G;have L:=(ug.1 q).1;have K:A.getD (m+j) (0,0,[])=x:=by rw[ot,q];rfl
   have g1:getI (rR (A.map (·.1))++[eT]) ((m+j:Nat):Int)=some (rF x.1):=by have:=Jgq (A:=A) (·.1) eT L;rw[K] at this;exact Q7 this
   have J:getI (rRR ys) (j:Int)=some (rR y):=Q7 (by unfold rRR;rw[xm,B];rfl);have r:=Q13 (T:=x.1) (H:=x.2.1) (Y:=y) (W:=w) hn h0 hk hw hr R x2 S om s om;obtain⟨V,X⟩:=Jor (T:=x.1) (H:=x.2.1) (Y:=y) (W:=w) h0 hk Q R x2 S s;have M:(tP p).P.length=p.P.length:=by unfold tP;simp
   have hPl:p.P.length<=300:=by have h3:=hr.2.2;obtain⟨⟨⟨_,_⟩,⟨d3,d4⟩,_⟩,_⟩:=hr.1;rw[M] at h3;omega
   have Z:((m+(j+1):Nat):Int) - 1=((m+j:Nat):Int):=om
   have I:wrap64 (((m+j:Nat):Int) - (m:Int))=(j:Int):=by rw[w64 om om];omega
   simp only[swQ];rw[ot,v,ot,B,Z];simp only[gz,bstQ];cases hb:backThQ (tP p) x.1 x.2.1 y w with
   | inl f=>
     rw[hb] at r;have hf:=V f hb
     rw[Kz (t:=Lp.out (Lp.out (Lp.out (⟨[],[]⟩,⟨f.Ax,((m+j+1:Nat):Int),f.A4,f.At⟩)))) (by
      simp only[];rw[ol om,bifT,g1,sbind,Qx6 q,sbind,I,J,sbind,r,sbind];simp only[]
      rw[oo hf,ow,bifT,w1 om]) om,sbind,Yz]
     exact⟨rfl,λz h=>by cases h⟩
   | inr z=>
     rw[hb] at r;obtain⟨z1,U,z3,z4⟩:=X z hb;have hq:QR 259 (addQ sum z.2.2):=Qn0 hs U;have N:(addQ sum z.2.2).length=p.P.length:=by rw[Zl];omega
     have e:=Qcl (lim:=limQ p.Ay) hn oz hq om;have u:=Qrc (a:=sum) (b:=z.2.2) hn (show 129<274877906944 by decide) hs U om om;have eB:limQ (tP p).Ay=limQ p.Ay:=rfl;simp only[];rw[eB];cases g:fitQ (limQ p.Ay) (addQ sum z.2.2) 0 with
     | some a=>
       have ha:=Jdk g;rw[g] at e;simp only[] at e
       rw[Kz (t:=Lp.out (Lp.out (Lp.out (⟨[],[]⟩,⟨6,((m+j+1:Nat):Int),10,300+(a:Int)⟩)))) (by
        simp only[];rw[ol om,bifT,g1,sbind,Qx6 q,sbind,I,J,sbind,r,sbind];simp only[]
        rw[ol trivial,ou,bifF,u,sbind,show Vg p.Ay=some (limQ p.Ay) from rfl,sbind,e,sbind,Kf,ol om,bifT,w1 om,w64 (x:=300+(a:Int)) om om]) om,sbind,Yz]
       exact⟨rfl,λz h=>by cases h⟩
     | none=>
       rw[g] at e;simp only[] at e;have O:limQ p.Ay<=4096:=by unfold limQ;omega
       rw[Qau (s':=(⟨rR z.2.1,rR (addQ sum z.2.2)⟩,((m+j:Nat):Int) - 1)) (by
        simp only[];rw[ol om,bifT,g1,sbind,Qx6 q,sbind,I,J,sbind,r,sbind];simp only[]
        rw[ol trivial,ou,bifF,u,sbind,show Vg p.Ay=some (limQ p.Ay) from rfl,sbind,e,sbind,Kf,oo om,bifF,w64 (x:=((m+j:Nat):Int) - 1) om om])]
       exact ih n'' z.2.1 (addQ sum z.2.2) om om (Jb z1 h0) om (Qk6 O g) N
theorem Q63{n k d:Nat}{p:Qu}{h:Q2}{x:Int}{W:List Rat}(hn:big<=n)(h0:129<=k)(hk:k<8000)(Y:PrbWr k p)(O:PrbW k (tP p))(hr:prbR (tP p))(hp:Qkr (tHis h))(hd:(d:Int)=p.Tape.A0)(G:∀ t∈tri (tHis h),TriK k d t)(hW:QR k W)(u:W.length=d):
 Qc9 n p h (rR W) x=some (match allQ (tP p) (tri (tHis h)) (cutI x) (mrk (tri (tHis h)).length (cutI x)).reverse (W,List.replicate p.P.length 0) with
  | .inl f=>(⟨[],[]⟩,⟨f.Ax,f.Ba,f.A4,f.At⟩)
  | .inr z=>(⟨rR z.1,rR z.2⟩,⟨0,0,0,0⟩)):=by
 obtain⟨c1,c2⟩:=cut_b x;have C:∀ t∈h.Aw,P1 t:=λt ht=>((Qzi.1 hp).2.1 t ht).1;have hl:h.Aw.length<=200:=(Qzi.1 hp).2.2.2.1;obtain⟨e1,e2,e3⟩:=Jgp C;have K:=Q9w hp;have U:(tri (tHis h)).length<=200:=by
  have:=Qn1 (tHis h).Aw;rw[Qte];have e:(tHis h).Aw.length=h.Aw.length:=by show(h.Aw.map tTry).length=_;simp
  omega
 have J:(tP p).P.length=p.P.length:=by unfold tP;simp
 have I:p.P.length<=300:=by have h3:=hr.2.2;obtain⟨⟨⟨_,_⟩,⟨d3,d4⟩,_⟩,_⟩:=hr.1;rw[J] at h3;omega
 unfold Qc9;rw[Jbe hn hl C,sbind,Qur hn om,sbind,Qii hn I,sbind,e1];generalize atI (tHis h) 0=t0 at K;generalize fv (tHis h).T=e0 at K;generalize tri (tHis h)=A at *;have eL:((kepR A (cutI x)).A5.length:Int)=((A.length:Nat):Int):=by show((rR (A.map (·.2.1))).length:Int)=_;rw[Kf];simp
 rw[eL,Q1y hn U,sbind]
 have Q:∀(q B:Nat) (w sum:List Rat),q<=cnt A.length (cutI x)->q<B->QR k w->w.length=d->QR 129 sum->sum.length=p.P.length ->
  (loopM (λ(s102:Qj×Int)=>
  bif decide ((0:Int)<=s102.2) then (
   (getI (iL (mrk A.length (cutI x))) s102.2).bind λy103=>
   (Qbm n p (kepR A (cutI x)) y103 (min (wrap64 (y103+(kepR A (cutI x)).A9)) ((A.length:Nat):Int))).bind λr105=>
   bif !decide (r105.2.a0=(0:Int)) then (
    some (Lp.out (Lp.out (((⟨[],[]⟩:Qj),r105.2)))))
   else (
    (some (wrap64 ((min (wrap64 (y103+(kepR A (cutI x)).A9)) ((A.length:Nat):Int)) - (1:Int)))).bind λz107=>
    (loopM (λ(s125:Qj×Int)=>
     bif decide (y103<=s125.2) then (
      (getI (rR (A.map (·.1))++[h.T]) s125.2).bind λy126=>
      (getI (kepR A (cutI x)).A5 s125.2).bind λy128=>
      (getI r105.1 (wrap64 (s125.2 - y103))).bind λy130=>
      (Yk n p y126 y128 y130 s125.1.Y).bind λr132=>
      bif !decide (r132.2.a0=(0:Int)) then (
       some (Lp.out (Lp.out (Lp.out (Lp.out (((⟨[],[]⟩:Qj),(⟨r132.2.a0,wrap64 (s125.2+(1:Int)),r132.2.a1,r132.2.a2⟩:Xx))))))))
      else (
       (Wz n s125.1.P r132.1.P).bind λr134=>
       (Vg p.Ay).bind λr136=>
       (J0 n r134 r136).bind λr138=>
       bif decide (r138<(r134.length:Int)) then (
        some (Lp.out (Lp.out (Lp.out (Lp.out (((⟨[],[]⟩:Qj),(⟨(6:Int),wrap64 (s125.2+(1:Int)),(10:Int),wrap64 ((300:Int)+r138)⟩:Xx))))))))
       else (
        some (Lp.go ((⟨r132.1.Y,r134⟩:Qj),wrap64 (s125.2 - (1:Int)))))))
     else (
      some (Lp.out (Lp.go s125.1)))) n (s102.1,z107)).bind (lpK λ(t123:Qj)=>
    some (Lp.go (t123,wrap64 (s102.2 - (1:Int)))))))
  else (
   some (Lp.out (Lp.go s102.1)))) B ((⟨rR w,rR sum⟩:Qj),(q:Int) - 1)).bind (lpK λ(t100:Qj)=>
 some (t100,(⟨0,0,0,0⟩:Xx)))=some (match allQ (tP p) A (cutI x) ((mrk A.length (cutI x)).take q).reverse (w,sum) with
  | .inl f=>(⟨[],[]⟩,⟨f.Ax,f.Ba,f.A4,f.At⟩)
  | .inr z=>(⟨rR z.1,rR z.2⟩,⟨0,0,0,0⟩)):=by
  intro q
  induction q with
  | zero=>
    intro B w sum _ L _ _ _ _;rw[Kz (t:=Lp.go ⟨rR w,rR sum⟩) (by simp only[];rw[oo om,bifF]) om,sbind,Vn];rfl
  | succ q ih=>
    intro B w sum X L P u hs N;obtain⟨n'',rfl⟩:∃ n'',B=n''+1:=⟨B - 1,om⟩
    have hq200:=Qp6 (n:=A.length) c1;have a:=Q62 (x:=x) hn h0 hk Y hr hd G U K (show q<cnt A.length (cutI x) by omega);have V:=Qqy (n:=A.length) (c:=cutI x) (show q<cnt A.length (cutI x) by omega);have hm:=(Qf7 c1).1 (show q<cnt A.length (cutI x) by omega);have j:getI (iL (mrk A.length (cutI x))) (q:Int)=some ((q*cutI x:Nat):Int):=Q7 (by unfold iL;rw[xm,V];rfl);have s:min (wrap64 (((q*cutI x:Nat):Int)+(kepR A (cutI x)).A9)) ((A.length:Nat):Int)=((min (q*cutI x+cutI x) A.length:Nat):Int):=by
     show min (wrap64 (((q*cutI x:Nat):Int)+((cutI x:Nat):Int))) ((A.length:Nat):Int)=_;rw[w64 om om];omega
    rw[X4 V,List.reverse_append];simp only[List.reverse_cons,List.reverse_nil,yw,dq,allQ,segQ];have F:((q+1:Nat):Int) - 1=(q:Int):=om
    rw[F];have Z:wrap64 (((min (q*cutI x+cutI x) A.length:Nat):Int) - 1)=((q*cutI x+(min (q*cutI x+cutI x) A.length - q*cutI x):Nat):Int) - 1:=by rw[w64 om om];omega
    obtain⟨b1,b2,b3,b4,R⟩:=G _ (Qug hm);cases E:anewQ (tP p) ((segA A (cutI x) (q*cutI x)).take (min (q*cutI x+cutI x) A.length - 1 - q*cutI x)) (q*cutI x) (A.getD (q*cutI x) (0,0,[])).2.2 with
    | inl f=>
      have hf:=Q1m (λx y f h=>Qs4 h) E;rw[E] at a;simp only[] at a
      rw[Kz (t:=Lp.out (⟨[],[]⟩,⟨f.Ax,f.Ba,f.A4,f.At⟩)) (by
       simp only[];rw[ol (show(0:Int)<=(q:Int) by omega),bifT,j,sbind,s,a,sbind];simp only[]
       rw[oo hf,ow,bifT]) om,sbind,Yz]
    | inr r=>
      obtain⟨r1,r2⟩:=Q8e E;rw[E] at a;simp only[] at a;have M:r.length=min (q*cutI x+cutI x) A.length - 1 - q*cutI x:=by rw[r1,xa,Qcb];omega
      obtain⟨v,i2⟩:=Jky (n:=n) (k:=k) (d:=d) (m:=q*cutI x) (idx:=(q:Int)) (p:=p) (A:=A) (c:=cutI x) (xs:=segA A (cutI x) (q*cutI x)) (ys:=(A.getD (q*cutI x) (0,0,[])).2.2::r) (eT:=h.T) hn h0 hk Y O hr hd (by rw[Qcb];omega) (by rw[xn,M,Qcb];omega)
       (λi y g=>⟨G y (Quf y (ud g)),by
        have hi:=(ug.1 g).1;rw[Qcb] at hi;unfold segA at g;rw[vc,jz om] at g
        exact g⟩)
       (λy g=>by
        rcases xu.1 g with rfl | g;exact⟨b4,R⟩
        have:=r2 y g;exact⟨Jb this.1 h0,by rw[this.2,R]⟩)
       (min (q*cutI x+cutI x) A.length - q*cutI x) n w sum (by rw[Qcb];omega) (by unfold big at hn;omega) P u hs N
      simp only[];cases l:swQ (tP p) (q*cutI x) (segA A (cutI x) (q*cutI x)) ((A.getD (q*cutI x) (0,0,[])).2.2::r) (min (q*cutI x+cutI x) A.length - q*cutI x) (w,sum) with
      | inl f=>
        rw[l] at v;simp only[] at v
        rw[Kz (t:=Lp.out (⟨[],[]⟩,⟨f.Ax,f.Ba,f.A4,f.At⟩)) (by
         simp only[];rw[ol (show(0:Int)<=(q:Int) by omega),bifT,j,sbind,s,a,sbind];simp only[]
         rw[ol trivial,ou,bifF,sbind,Z,v]) om,sbind,Yz]
      | inr z=>
        rw[l] at v;simp only[] at v;obtain⟨l1,l2,l3,l4⟩:=i2 z l
        rw[Qau (s':=(⟨rR z.1,rR z.2⟩,(q:Int) - 1)) (by
         simp only[];rw[ol (show(0:Int)<=(q:Int) by omega),bifT,j,sbind,s,a,sbind];simp only[]
         rw[ol trivial,ou,bifF,sbind,Z,v,w64 (x:=(q:Int) - 1) om om])]
        exact ih n'' z.1 z.2 om om l1 l3 l2 l4
 have S:=Q (cnt A.length (cutI x)) n W (List.replicate p.P.length 0) (xr _) (by have:=Qp6 (n:=A.length) c1;unfold big at hn;omega) hW u (λq X=>by rw[List.eq_of_mem_replicate X,Zo];decide) oc;rw[show cnt A.length (cutI x)=(mrk A.length (cutI x)).length from(Qmo _ _).symm,xc] at S;have eI:wrap64 (((iL (mrk A.length (cutI x))).length:Int) - 1)=(((mrk A.length (cutI x)).length:Nat):Int) - 1:=by
  have:=Qp6 (n:=A.length) c1;rw[show(iL (mrk A.length (cutI x))).length=(mrk A.length (cutI x)).length by simp[iL],Qmo,w64 om om]
 rw[eI];exact S
theorem w44:Qaq big=some true:=ox
theorem Q83(p:Qu)(h:Q2)(w:List Qb)(x:Int)(Y:Yh p)(hH:Qk9 h)(B:Ka w):∃ n,Qae n p h w x=some true:=by
 refine⟨big,?_⟩;have hn:big<=big:=xr _;unfold Qae;simp only[jn_eq];obtain⟨v,e1,F⟩:=Q6z (p:=p) (h:=h) hn;rw[e1,sbind];cases v
 case true=>rw[bifT,bifT,w44];rfl
 obtain⟨⟨⟨t1,t2,t3⟩,⟨s1,s2,s3,s4,s5,s6⟩,p1⟩,hbits,g1,V,g3,g4⟩:=F rfl;obtain⟨v,U,e6⟩:=Xi (l:=w) (many:=6) (k:=2) hn oz;rw[show((6:Nat):Int)=6 from rfl,show((2:Nat):Int)=2 from rfl] at U;rw[bifF,U,sbind];cases v
 case true=>rw[bifT,w44];rfl
 have Q:=e6 rfl;rw[bifF];obtain⟨b1,R,S,_⟩:=hH;have Z:=Q79 (bits:=p.Ay) Y oz (F rfl).1;have C:=Jmm Y oz oz oz (F rfl).1;have u:∀ t∈h.Aw,FT 6 (tTry t):=λt j=>Jmn (b1.2 t j) (g4 t j)
 have i:∀ t∈h.Aw,FTr 129 t:=λt j=>by
  obtain⟨q1,q2,q3⟩:=Jgj (u t j) (show 6<=129 by decide);refine⟨λf s=>?_,λf s=>?_,?_⟩
  . have:Fk 129 (tF f):=q1 (tF f) (by show _∈[tF t.T,tF t.A1,tF t.H,tF t.A8];simp at s |-;rcases s with rfl | rfl | rfl | rfl<;>simp)
    exact Fk_wd this
  . exact Fk_wd (q2 (tF f) (vf s))
  . have:=q3
    rw[show(tTry t).Y.length=t.Y.length from ov _] at this;exact this
 have hyl:=g3.1
 have L:FRr 129 [h.T]:=λf s=>by rw[xk.1 s];exact Fk_wd (Wg (Fk_tF R V) oz)
 have M:FRr 129 h.Y:=Q39 (Q58 S g3) oz;have hU:FR 129 (w.map tF):=Vf (FR_tF B Q) oz;have A:FRr 129 w:=Q39 (Q58 B Q) oz;have u4:=Q.1;have lU:(w.map tF).length<=6:=by rw[ov];omega
 rw[Qsj hn om om om (by have:=s3.1;omega) (by have:=s4.1;omega) (by have:=s5.1;omega) (λr hr=>by have:=(s6 r hr).1;omega) (by have:=p1.1;omega),sbind,Jbc hn om om (λt j=>(i t j).2.2),sbind,Z8 hn om,sbind];have hTl:(tHis h).Aw.length<=5:=by show(h.Aw.map tTry).length<=5;rw[ov];exact g1
 have y:∀ t∈(tHis h).Aw,FT 129 t:=λx hx=>by obtain⟨t,j,rfl⟩:=xz.1 hx;exact Jgj (u t j) oz
 have I:Fk 129 (tHis h).T:=Wg (Fk_tF R V) oz;have J:FR 129 (tHis h).Y:=Vf (FR_tF S g3) oz;have eYl:(tHis h).Y.length=h.Y.length:=by show(h.Y.map tF).length=_;rw[ov]
 have G:(tP p).P.length=p.P.length:=by unfold tP;simp
 obtain⟨a1,a2,a3⟩:=Qif (n:=big) (k:=129) (p:=tP p) (h:=tHis h) (w:=w.map tF) (x:=x) hn oz oz Z om y I J om hU om;rw[Qek] at a1 a2 a3;rw[a1,sbind,Q4y (k:=129) hn oz oz C om i L M om,sbind,bifnP];have E:=Jkw (n:=big) (k:=1) (a:=[]) (b:=[]) hn oz (λ_ h=>by cases h) (λ_ h=>by cases h) oz oz
 have e:∀ {β:Type}(K:Bool->Option β),((Zt big ⟨[],[]⟩).bind λq=>(Yu big q ⟨[],[]⟩).bind K)=K true:=λK=>by have:=yj (λz=>z.bind K) E;simp only[Option.bind_assoc] at this;exact this
 have m:¬ SwR (tP p) (tHis h) (rvr w)->sweepQ (tP p) (tHis h) (rvr w) (cutI x)=.inl ⟨2,0,0,0⟩:=λg=>by unfold sweepQ;rw[oj g]
 by_cases hr:AlR (tP p) (tHis h)
 case neg=>
  rw[oj hr,bifT,m λg=>hr ⟨g.1,g.2.1,g.2.2.1⟩];simp only[];rw[e,bifT,Kk,bifT,w44];rfl
 rw[oq hr];by_cases P:(w.length:Int)=(h.Y.length:Int)
 case neg=>
  rw[oo P,ow,bifT,m λg=>P (by have:=g.2.2.2;rw[Qel,eYl] at this;omega)];simp only[];rw[e,bifT,Kk,bifT,w44];rfl
 clear m;have good:SwR (tP p) (tHis h) (rvr w):=⟨hr.1,hr.2.1,hr.2.2,by rw[Qel,eYl];omega⟩
 have O:sweepQ (tP p) (tHis h) (rvr w) (cutI x)=allQ (tP p) (tri (tHis h)) (cutI x) (mrk (tri (tHis h)).length (cutI x)).reverse (rvr w,List.replicate p.P.length 0):=by unfold sweepQ;rw[oq good,G]
 have hd:((h.Y.length:Nat):Int)=p.Tape.A0:=by have:=hr.2.2;rw[eYl] at this;exact this
 have X:=Jjp (h:=tHis h) (k:=129) oz hr.2.1 y;rw[eYl] at X;have qU:=Qn3 A oz;rw[ol P,ou,bifF,Qg9 hn (show 129<1099511627776 by decide) A om,sbind,Q63 (k:=129) (d:=h.Y.length) (x:=x) hn oz oz C Z hr.1 hr.2.1 hd X qU (by rw[Qel];omega),sbind,<-O];unfold Qeo;cases hM:sweepQ (tP p) (tHis h) (rvr w) (cutI x) with
 | inl g=>
   simp only[];rw[e,bifT,sbind,Kk,bifT,w44];rfl
 | inr z=>
   obtain⟨z1,z2,z3,z4⟩:=a3 z hM;have hs:=Jkw (n:=big) (k:=129) (a:=z.1) (b:=z.2) hn oz z1 z2 om (by have:=p1.1;omega)
   have N:∀ {β:Type}(K:Bool->Option β),((Zt big ⟨toR z.1,toR z.2⟩).bind λq=>(Yu big q ⟨rR z.1,rR z.2⟩).bind K)=K true:=λK=>by have:=yj (λz=>z.bind K) hs;simp only[Option.bind_assoc] at this;exact this
   simp only[];rw[N,bifT,sbind,Kk,bifT,w44];rfl
end Go.Proofs.YtbdgngdpkdagoaaGreatDoor
