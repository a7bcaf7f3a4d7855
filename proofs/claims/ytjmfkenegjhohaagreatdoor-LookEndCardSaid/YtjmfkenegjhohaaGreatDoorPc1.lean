import Derived.Test.YtjmfkenegjhohaaGreatDoorModc
import Derived.Test.YtjmfkenegjhohaaGreatDoorP2
namespace Go.Proofs.YtjmfkenegjhohaaGreatDoor
open Go Go.RowKit
theorem Jhu{α:Type}{l:List α}{x:α}(h:l.length<9223372036854775807):sub (l++[x]) (0:Int) (wrap64 (((l++[x]).length:Int) - 1))=some l:=by rw[yd,vm,w64 om om,show(((l.length+1:Nat):Int) - 1)=((l.length:Nat):Int) by omega,Ja5 oc];simp
def cutI(x:Int):Nat:=(min (max x 1) 200).toNat
theorem Jjl(x:Int):min (max x (1:Int)) (200:Int)=((cutI x:Nat):Int):=by unfold cutI;omega
theorem cut_b(x:Int):1<=cutI x/\cutI x<=200:=by unfold cutI;omega
theorem Jhv(x:Int):cutI ((cutI x:Nat):Int)=cutI x:=by unfold cutI;omega
theorem Qyb(x:Int):Qf2 x=some ((cutI x:Nat):Int):=by unfold Qf2;rw[Jjl]
def cnt(n c:Nat):Nat:=(n+c - 1) / c
def mrk(n c:Nat):List Nat:=(List.range (cnt n c)).map λj=>j*c
theorem Qsk(n c:Nat):(mrk n c).length=cnt n c:=by simp[mrk]
theorem Qnm{n c j:Nat}(a:1<=c):j<cnt n c↔j*c<n:=by unfold cnt;rw[Nat.lt_iff_add_one_le,Nat.le_div_iff_mul_le om,ud];omega
theorem cnt_0{c:Nat}(a:1<=c):cnt 0 c=0:=by have:=(Qnm (n:=0) (j:=0) a).1;rcases wo (cnt 0 c) with h | h;exact h;have:=this h;omega
theorem Q5m{n c:Nat}(a:1<=c):cnt n c<=n:=by rcases wo (cnt n c) with h | h;omega;have:=(Qnm (n:=n) (j:=cnt n c - 1) a).1 om;have d:(cnt n c - 1)*1<=(cnt n c - 1)*c:=uq _ a;omega
theorem Q1f{n c j:Nat}(a:j<cnt n c):(mrk n c)[j]?=some (j*c):=by simp[mrk,List.getElem?_range a]
theorem Q7d{n c m:Nat}(a:1<=c)(h:m∈mrk n c):∃ j,j<cnt n c/\m=j*c/\m<n:=by obtain⟨j,d,rfl⟩:=xy.1 h;have:=List.mem_range.1 d;exact⟨j,this,rfl,(Qnm a).1 this⟩
def mk0(c j:Nat):List Int:=(List.range j).map λi=>((i*c:Nat):Int)
theorem Jjm(c j:Nat):mk0 c (j+1)=mk0 c j++[((j*c:Nat):Int)]:=by unfold mk0;rw[List.range_succ,yx];rfl
theorem Q7e(c j:Nat):(mk0 c j).length=j:=by simp[mk0]
def iL(l:List Nat):List Int:=l.map λi:Nat=>(i:Int)
theorem Jhw(n c:Nat):iL (mrk n c)=mk0 c (cnt n c):=by simp[iL,mrk,mk0]
theorem Qyc{n N:Nat}{x:Int}(hn:big<=n)(u:N<=200):Qgn n (N:Int) x=some (iL (mrk N (cutI x))):=by
 obtain⟨c1,l⟩:=cut_b x;unfold Qgn;simp only[jn_eq];rw[Jhw];generalize e:cutI x=c at c1 l;by_cases h0:(N:Int)<1;rw[oo h0,bifT,bifT];obtain rfl:N=0:=om
 rw[cnt_0 c1];rfl;rw[oj h0,bifF,oj (show ¬(200:Int)<N by omega),bifF]
 have key:∀(m j d:Nat),j+m=cnt N c->m<d->(loopM (λ(a:(List Int)×Int)=>
  bif decide (a.2<(N:Int)) then (
   (appM 8 a.1 ([a.2]:List Int)).bind λi=>
   (Qf2 x).bind λg=>
   some (Lp.go (i,wrap64 (a.2+g))))
  else (
   some (Lp.out a.1))) d (mk0 c j,((j*c:Nat):Int)))=some (mk0 c (cnt N c)):=by
  intro m
  induction m with
  | zero=>
    intro j d p f;have:¬ j*c<N:=λh=>by have:=(Qnm c1).2 h;omega
    rw[Vv (t:=mk0 c j) (by simp only[];rw[oj (show ¬((j*c:Nat):Int)<(N:Int) by omega),bifF]) om];rw[show j=cnt N c by omega]
  | succ m s=>
    intro j d p f;obtain⟨n'',rfl⟩:∃ n'',d=n''+1:=⟨d - 1,om⟩
    have r:=(Qnm (n:=N) (j:=j) c1).1 om;have q:=Q5m (n:=N) c1
    rw[Qbp (s':=(mk0 c (j+1),(((j+1)*c:Nat):Int))) (by
     simp only[]
     rw[oo (show((j*c:Nat):Int)<(N:Int) by omega),bifT,J9 (by rw[Q7e];simp;omega) (by rw[Q7e];simp;omega),sbind,Qyb,sbind,e,Jjm,w64 om om,ud,Int.natCast_add])]
    exact s (j+1) n'' om om
 have k:=key (cnt N c) 0 n om (by have:=Q5m (n:=N) c1;unfold big at hn;omega);rw[Nat.zero_mul] at k;rw[show(([]:List Int),(0:Int))=(mk0 c 0,((0:Nat):Int)) from rfl,k];rfl
def sgm(N c m:Nat):Q0:=⟨(m:Int),((min (m+c) N:Nat):Int)⟩
theorem Jhx{l:List Q0}{x:Q0}(h:l.length<=1000000):Yl l [x]=some (l++[x]):=by unfold Yl;rw[J9 oh oh,sbind]
theorem Jhy:Vb []=some (⟨0,0⟩,false,[]):=rfl
theorem Jfn{l:List Q0}{x:Q0}(h:l.length<=1000000):Vb (l++[x])=some (x,true,l):=by
 unfold Vb Qaw;simp only[jn_eq];have a:=Qr8 (l:=l) (x:=x) om;have e:wrap64 (((l++[x]).length:Int) - 1)=((l.length:Nat):Int):=by simp only[yd,xn,ye];rw[w64 om om];omega
 rw[oj (show ¬((l++[x]).length:Int)=0 by simp;omega),bifF,a,sbind,sbind,bifT,sbind,e];have d:List.set (l++[x]) (Int.toNat ((l.length:Nat):Int)) (⟨0,0⟩:Q0)=l++[⟨0,0⟩]:=by rw[yh,List.set_append_right _ _ (xm _),gc,List.set_cons_zero]
 rw[d,Jhu om,sbind,sbind,sbind]
theorem Qyw{n N:Nat}{x:Int}(hn:big<=n)(A:N<=200):Qfh n (N:Int) x=some ((mrk N (cutI x)).reverse.map (sgm N (cutI x))):=by
 obtain⟨c1,C⟩:=cut_b x;unfold Qfh;rw[Qyc hn A,sbind];have v:(mrk N (cutI x)).length<=200:=by rw[Qsk];have:=Q5m (n:=N) c1;omega
 have q:∀ m∈mrk N (cutI x),m<N:=λm d=>by obtain⟨_,_,_,h⟩:=Q7d c1 d;exact h
 generalize p:cutI x=c at *;generalize mrk N c=ms at *;rw[Qbe (s:=([]:List Q0)) (F:=λi=>(ms.take i).map (sgm N c)) (iL ms) (λi y f=>?_) rfl,Wv]
 rotate_left
 . unfold iL at f
   rw[xr] at f;cases d:ms[i]? with
   | none=>rw[d] at f;cases f
   | some m=>
     rw[d] at f;cases f;have w:=q m (uj d);have hi:=(List.getElem?_eq_some_iff.1 d).1;simp only[];rw[Qyb,sbind,p,sbind,w64 om om,Jhx oh,sbind,vj,d,yx];simp only[Option.toList_some,yz,List.map_nil,sgm];rw[show min ((m:Int)+(c:Int)) (N:Int)=((min (m+c) N:Nat):Int) by omega]
 have eT:(ms.take (iL ms).length).map (sgm N c)=(ms.map (sgm N c)):=by rw[show(iL ms).length=ms.length by simp[iL],xh]
 rw[eT]
 have key:∀(ys out:List Q0) (g:Nat),ys.length<g->ys.length+out.length<=200->∃ r,Vb ys.reverse=some r/\(loopM (λ(a:(List Q0)×(List Q0)×Q0×Bool)=>
  bif a.2.2.2 then (
   (appM 16 a.2.1 ([a.2.2.1]:List Q0)).bind λu=>
   (Vb a.1).bind λe=>
   some (Lp.go (e.2.2,u,e.1,e.2.1)))
  else (
   some (Lp.out a.2.1))) g (r.2.2,out,r.1,r.2.1))=some (out++ys):=by
  intro ys
  induction ys with
  | nil=>
    intro out g j _;exact⟨_,Jhy,by rw[Vv (t:=out) rfl om,ua]⟩
  | cons y ys B=>
    intro out g j v;simp only[xn] at j v;obtain⟨n'',rfl⟩:∃ n'',g=n''+1:=⟨g - 1,om⟩
    rw[List.reverse_cons];refine⟨_,Jfn oh,?_⟩;obtain⟨r,k,l⟩:=B (out++[y]) n'' om oh;rw[Qbp (s':=(r.2.2,out++[y],r.1,r.2.1)) (by simp only[];rw[bifT,J9 oh oh,sbind,k,sbind]),l,xf];rfl
 obtain⟨r,k,l⟩:=key (ms.map (sgm N c)).reverse [] n (by simp;unfold big at hn;omega) oh;rw[List.reverse_reverse] at k;rw[k,sbind,l,sbind,yw,List.map_reverse]
def absQ(q:Rat):Rat:=if q.num<0 then -q else q
theorem Jlf(q:Rat):toF (absQ q)=⟨⟨false,(toF q).Num.A3⟩,(toF q).Den⟩:=by unfold absQ toF toW;split;rw[Q1a,Jds,Int.natAbs_neg,oj om];rw[oj om]
theorem Q9m{n k:Nat}{f:Qa}(hn:big<=n)(hk:k<1099511627776)(a:Fk k f):Qoy n f=some (toF (absQ (fv f))):=by unfold Qoy;rw[Vs hn (Fk_Fw a om),sbind,Jlf]
def maxQ(a b:Rat):Rat:=if 0<(b - a).num.sign then b else a
theorem Q7f{n k:Nat}{f g:Qa}(hn:big<=n)(a:1<=k)(hk:k<1099511627776)(d:Fk k f)(e:Fk k g):Qoz n [f,g]=some (toF (maxQ (fv f) (fv g))):=by unfold Qoz;simp only[jn_eq,rangeL];have i:Fk k (toF (fv f)):=Jq (qw_fv d a);rw[X4 hn,sbind,show decide (((0:Nat):Int)=0)=true from rfl,bifT,bifT,Vs hn (Fk_Fw d om),sbind,sbind];simp only[];rw[show decide (((0+1:Nat):Int)=0)=false from rfl,bifF,Qrn hn a hk e i,sbind,Jc,bifd];unfold maxQ;split;rw[Vs hn (Fk_Fw e om),sbind];rfl;rfl
def normQ(l:List Rat):Rat:=l.foldl (λb x=>maxQ b (absQ x)) 0
theorem Jch(q:Rat):qw (absQ q)=qw q:=by unfold absQ;split;exact Qjk q;rfl
theorem Jhz{a b:Rat}{k:Nat}(d:qw a<=k)(hb:qw b<=k):qw (maxQ a b)<=k:=by unfold maxQ;split<;>assumption
theorem Q9n{n k:Nat}{a:List Qa}(hn:big<=n)(e:1<=k)(hk:k<1099511627776)(g:FR k a):Qjy n a=some (toF (normQ (rv a))):=by
 unfold Qjy;have f:∀(l:List Rat) (b:Rat),QR k l->qw b<=k->qw (l.foldl (λb x=>maxQ b (absQ x)) b)<=k:=by
  intro l
  induction l with
  | nil=>intro b _ hb;exact hb
  | cons x l t=>intro b j hb;exact t _ (λq f=>j q (.tail _ f)) (Jhz hb (by rw[Jch];exact j x (.head _)))
 rw[X4 hn,sbind,Qbe (λi=>toF ((rv (a.take i)).foldl (λb x=>maxQ b (absQ x)) 0)) a,Wv,xh];rfl;intro i x m;have p:a.take (i+1)=a.take i++[x]:=by rw[vj,m];rfl
 have r:rv (a.take (i+1))=rv (a.take i)++[fv x]:=by unfold rv;rw[p,yx];rfl
 have d:=g x (Jw m);have hb:=f (rv (a.take i)) 0 (QR_rv (λy s=>g y (ym s)) e) (by rw[Y8];exact e);rw[Q9m hn hk d,sbind,Q7f hn e hk (Jq hb) (Jq (by rw[Jch];exact qw_fv d e)),sbind,r,jj,Jc,Jc];rfl;rfl
structure TryQ where
 T:Rat
 H:Rat
 A4:Rat
 Y:List Rat
noncomputable def marchQ(p:Qg):List Rat->Nat->Rat->List Rat->List TryQ->Qe ⊕ (List TryQ×Rat×List Rat)
 | [],_,T,Y,tr=>.inr (tr,T,Y)
 | h::hs,i,T,Y,tr=>match stepQ p T h Y with
   | .inl f=>.inl ⟨f.Au,(i:Int)+1,f.A0,f.At⟩
   | .inr z=>marchQ p hs (i+1) (T+h) z.next (tr++[⟨T,h,normQ z.err,Y⟩])
def toTry(t:TryQ):Jg:=⟨toF t.T,toF t.H,toF t.H,toF t.A4,toR t.Y,true⟩
def noH:Qy:=⟨[],⟨⟨false,[]⟩,[]⟩,[]⟩
def posQ(hs:List Rat):Prop:=(∀ h∈hs,0<h.num.sign)/\hs.length<=200
def mayQ(p:Qg)(Y hs:List Rat):Prop:=prbR p/\(Y.length:Int)=p.Tape.Ax/\posQ hs
theorem Q7g{n k:Nat}{hs:List Qa}(hn:big<=n)(f:1<=k)(hk:k<1048576)(j:FR k hs):Qm7 n hs=some (dP (posQ (rv hs))):=by
 classical
 unfold Qm7;rw[Qag (λ_ (x:Qa)=>0<(fv x).num.sign) (r:=false),Qii];have e:(∀ a∈hs,0<(fv a).num.sign)↔∀ h∈rv hs,0<h.num.sign:=by constructor;intro g h l;obtain⟨x,d,rfl⟩:=xy.1 l;exact g x d;intro g x d;exact g (fv x) (ur d)
 by_cases g:∀ a∈hs,0<(fv a).num.sign;rw[oq g];exact Qed ⟨λh=>⟨e.1 g,by rw[Jn];omega⟩,λh=>by have:=h.2;rw[Jn] at this;omega⟩;rw[ol g,dP_f λh=>g (e.2 h.1)];intro i x d;rw[Qdu hn f om (j x (Jw d)),sbind];constructor;intro h;rw[oj om];rfl;intro h;rw[oo om];rfl
theorem Jh0{k:Nat}{l:List Rat}(d:1<=k)(h:QR k l):qw (normQ l)<=k:=by
 have key:∀(l:List Rat) (b:Rat),QR k l->qw b<=k->qw (l.foldl (λb x=>maxQ b (absQ x)) b)<=k:=by
  intro l
  induction l with
  | nil=>intro b _ hb;exact hb
  | cons x l f=>intro b a hb;exact f _ (λq e=>a q (.tail _ e)) (Jhz hb (by rw[Jch];exact a x (.head _)))
 exact key l 0 h (by rw[Y8];exact d)
theorem Q3r{n j k a:Nat}{p:Qg}{t:Qa}{y hs:List Qa}(hn:big<=n)(F:1<=a)(V:1<=j)(hk:a+200*(j+1)+129<=k)(B:k<8000)(O:PrbW k p)(N:Fk a t)(P:FR a y)(hyl:y.length<=1000)(w:FR j hs):
 Qej n p t y hs=some (@ite _ (mayQ p (rv y) (rv hs)) (Classical.propDecidable _) (match marchQ p (rv hs) 0 (fv t) (rv y) [] with | .inl f=>(noH,f) | .inr z=>(⟨z.1.map toTry,toF z.2.1,toR z.2.2⟩,⟨0,0,0,0⟩)) (noH,⟨2,0,0,0⟩))/\(mayQ p (rv y) (rv hs)->∀ f,marchQ p (rv hs) 0 (fv t) (rv y) []=.inl f->f.Au≠0):=by
 unfold Qej mayQ;simp only[jn_eq];rw[Qmg hn om B O,sbind,bifnP,Jn];by_cases hr:prbR p
 case neg=>rw[ol hr,ol (λh=>hr h.1),bifT];exact⟨rfl,λh=>absurd h.1 hr⟩
 rw[oq hr];by_cases v:(y.length:Int)=p.Tape.Ax
 case neg=>rw[oj v,ol (λh=>v h.2.1),ow,bifT,bifT];exact⟨rfl,λh=>absurd h.2.1 v⟩
 rw[oo v,ov,bifF,Q7g (k:=j) hn om om w,sbind];by_cases hp:posQ (rv hs)
 case neg=>rw[dP_f hp,ol (λh=>hp h.2.2),ow,bifT];exact⟨rfl,λh=>absurd h.2.2 hp⟩
 rw[dP_t hp,oq ⟨hr,v,hp⟩,ov,bifF];have C:=hp.2;rw[Jn] at C;have H:=QR_rv P F;have X:=qw_fv N F;rw[Vs hn (Fk_Fw N om),sbind,Qg8 hn,sbind,Qab (k:=a) hn om om (Jq (by rw[Q0g];exact F)) P om,sbind,Jc,Qwu]
 have key:∀(hs:List Qa) (i:Nat) (T:Rat) (Y:List Rat) (l:List TryQ),FR j hs->i+hs.length<=200->l.length=i->qw T<=a+i*(j+1)->QR (max a 129) Y->(Y.length:Int)=p.Tape.Ax ->
  (rangeL (λ(I:Nat) (J:Qa) (e:(List Jg)×Qa×(List Qa))=>
   (Vl n J).bind λm=>
   (Qgb n p e.2.1 m e.2.2).bind λd=>
   bif !(Qx d.2 (⟨0,0,0,0⟩:Qe)) then (
    some (Lp.out (((⟨[],(⟨(⟨false,[]⟩:Qk),[]⟩:Qa),[]⟩:Qy),(⟨d.2.Au,wrap64 ((I:Int)+(1:Int)),d.2.A0,d.2.At⟩:Qe)))))
   else (
    (Qjy n d.1.A4).bind λq=>
    (appM 256 e.1 ([(⟨e.2.1,m,m,q,e.2.2,true⟩:Jg)]:List Jg)).bind λu=>
    (Vi n e.2.1 m).bind λr=>
    some (Lp.go (u,r,d.1.Next)))) hs i (l.map toTry,toF T,toR Y)).bind (lpK λ(s:(List Jg)×Qa×(List Qa))=>
  some ((⟨s.1,s.2.1,s.2.2⟩:Qy),(⟨0,0,0,0⟩:Qe)))=some (match marchQ p (rv hs) i T Y l with | .inl f=>(noH,f) | .inr z=>(⟨z.1.map toTry,toF z.2.1,toR z.2.2⟩,⟨0,0,0,0⟩))/\∀ f,marchQ p (rv hs) i T Y l=.inl f->f.Au≠0:=by
  intro hs
  induction hs with
  | nil=>
    intro i T Y l _ _ _ _ _ _;exact⟨rfl,λf h=>by cases h⟩
  | cons h hs ih=>
    intro i T Y l w hi Z R S G;rw[xn] at hi;have A:=w h (.head _);have hb:i*(j+1)<=199*(j+1):=xc _ om;have W:=qw_fv A V;simp only[rangeL,rv,yz,marchQ];rw[Vs hn (Fk_Fw A om),sbind];obtain⟨K,L⟩:=Qpp (p:=p) (t:=toF T) (h:=toF (fv h)) (y:=toR Y) hn om B O (Jq om) (Jq om) (K2 (Q8 S om));rw[Jc,Jc,Vj] at K L;rw[K,sbind];cases E:stepQ p T (fv h) Y with
    | inl f=>
      have M:=L f E;obtain⟨f1,f2,f3,f4⟩:=f;simp only[];rw[K9 M,ow,bifT,sbind,w1 om];exact⟨rfl,λg U=>by cases U;exact M⟩
    | inr z=>
      obtain⟨_,_,z1,z2,z3⟩:=Qex E;simp only[];rw[Kz,ov,bifF];show(((Qjy n (toR z.err)).bind λq=>(appM 256 (l.map toTry) [(⟨toF T,toF (fv h),toF (fv h),q,toR Y,true⟩:Jg)]).bind λu=>(Vi n (toF T) (toF (fv h))).bind λr=>some (Lp.go (u,r,toR z.next))).bind _).bind _=_/\_;rw[Q9n (k:=129) hn om om (K2 z3),sbind,Vj,J9 oh oh,sbind,Vy (k:=k) hn om om (Jq om) (Jq om),sbind,sbind,Jc,Jc];have Q:l.map toTry++[(⟨toF T,toF (fv h),toF (fv h),toF (normQ z.err),toR Y,true⟩:Jg)]=(l++[(⟨T,fv h,normQ z.err,Y⟩:TryQ)]).map toTry:=by rw[yx];rfl
      rw[Q];refine ih (i+1) (T+fv h) z.next (l++[⟨T,fv h,normQ z.err,Y⟩]) (λx hx=>w x (.tail _ hx)) om oh ?_ (Q8 z1 om) (by rw[z2];exact G)
      have:=Yz R W;rw[ud];omega
 have:=key hs 0 (fv t) (rv y) [] w om rfl om (Q8 H om) (by rw[Jn];exact v);exact⟨this.1,λ_=>this.2⟩
theorem Jci{p:Qg}{a j:Nat}:∀ {hs:List Rat}{i:Nat}{T:Rat}{Y:List Rat}{e:List TryQ}{z},qw T<=a+i*(j+1)->QR j hs->QR (max a 129) Y->(Y.length:Int)=p.Tape.Ax->marchQ p hs i T Y e=.inr z ->
 qw z.2.1<=a+(i+hs.length)*(j+1)/\QR (max a 129) z.2.2/\(z.2.2.length:Int)=p.Tape.Ax/\z.1.length=e.length+hs.length
 | [],i,T,Y,e,z,f,k,m,l,h=>by cases h;exact⟨f,m,l,rfl⟩
 | x::hs,i,T,Y,e,z,f,k,m,l,h=>by
   simp only[marchQ] at h;cases d:stepQ p T x Y with
   | inl g=>rw[d] at h;cases h
   | inr w=>
     rw[d] at h;obtain⟨_,_,s,t,z3⟩:=Qex d;have u:=Yz f (k x (.head _));obtain⟨g1,n,g3,g4⟩:=Jci (a:=a) (j:=j) (by rw[ud];omega) (λq r=>k q (.tail _ r)) (Q8 s om) (by rw[t];exact l) h;rw[xn];refine⟨by rw[show i+(hs.length+1)=i+1+hs.length by omega];exact g1,n,g3,by rw[g4];simp;omega⟩
set_option maxRecDepth 100000
def TQ(k m:Nat)(t:TryQ):Prop:=qw t.T<=k/\qw t.H<=k/\qw t.A4<=k/\QR k t.Y/\t.Y.length=m
theorem Q2g{p:Qg}{a j K m:Nat}(E:1<=a):∀ {hs:List Rat}{i:Nat}{T:Rat}{Y:List Rat}{r:List TryQ}{z},a+(i+hs.length)*(j+1)+129<=K->j<=K->qw T<=a+i*(j+1)->QR j hs->QR (max a 129) Y->Y.length=m->(∀ t∈r,TQ K m t)->marchQ p hs i T Y r=.inr z->∀ t∈z.1,TQ K m t
 | [],i,T,Y,r,z,s,f,v,u,y,B,e,h=>by cases h;exact e
 | x::hs,i,T,Y,r,z,s,f,v,u,y,B,e,h=>by
   simp only[marchQ] at h;cases d:stepQ p T x Y with
   | inl g=>rw[d] at h;cases h
   | inr w=>
     rw[d] at h;obtain⟨_,_,H,I,z3⟩:=Qex d;have G:=u x (.head _);have A:=Yz v G;rw[xn] at s;have C:i*(j+1)<=(i+(hs.length+1))*(j+1):=xc _ om;have hn129:=Jh0 (k:=129) (l:=w.err) oz z3;refine Q2g E (m:=m) (i:=i+1) (by rw[show i+1+hs.length=i+(hs.length+1) by omega];exact s) f (by rw[ud];omega) (λq F=>u q (.tail _ F)) (Q8 H om) om (λt n=>?_) h;rcases yr.1 n with n | n;exact e t n;rw[xj.1 n];exact⟨by show qw T<=K;omega,by show qw x<=K;omega,by show qw (normQ w.err)<=K;omega,Q8 y om,B⟩
set_option maxRecDepth 100000
def begT(h:Qy):Rat:=match okT h.Ar with | []=>fv h.T | t::_=>fv t.T
def begY(h:Qy):List Rat:=match okT h.Ar with | []=>rv h.Y | t::_=>rv t.Y
theorem Q1u{n k:Nat}{p:Qg}{h:Qy}(hn:big<=n)(d:1<=k)(hk:k<1099511627776)(m:h.Ar.length<=1000000)(q:∀ t∈h.Ar,FT k t)(u:Fk k h.T)(v:FR k h.Y)(j:h.Y.length<=1000000):
 Qi7 n p h=Qej n p (toF (begT h)) (toR (begY h)) (toR (szs h)):=by
 have w:=Qkg h.Ar;have eN:Qfb n h=some (((okT h.Ar).map nT).map (·.T)++[toF (fv h.T)],((okT h.Ar).map nT).map (·.Y)++[toR (rv h.Y)]):=by
  unfold Qfb;rw[Qdv hn d hk m q,sbind];generalize f:(okT h.Ar).map nT=A;have g:A.length<=1000000:=by rw[<-f,ot];omega
  rw[Qbe (λi=>((A.take i).map (·.T),(A.take i).map (·.Y))) A];rw[xh];show((Vl n h.T).bind _)=_;rw[Vs hn (Fk_Fw u om),sbind,J9 oh oh,sbind,Qj8 hn d hk v j,sbind,J9 oh oh,sbind];intro i x a;have hi:=J8 a;rw[J9 oh oh,sbind,J9 oh oh,sbind,Xe (·.T) a,Xe (·.Y) a];rfl
 have eS:Qd3 n h=some (toR (szs h)):=by
  unfold Qd3;rw[Qdv hn d hk m q,sbind];have e:toR (szs h)=((okT h.Ar).map nT).map (·.H):=by unfold toR szs;rw[yt,yt];rfl
  rw[e];generalize f:(okT h.Ar).map nT=A;have g:A.length<=1000000:=by rw[<-f,ot];omega
  rw[Qbe (λi=>(A.take i).map (·.H)) A];rw[xh];rfl;intro i x a;have hi:=J8 a;rw[J9 oh oh,sbind,Xe (·.H) a];rfl
 unfold Qi7;rw[eN,sbind,eS];have r:getI (((okT h.Ar).map nT).map (·.T)++[toF (fv h.T)]) 0=some (toF (begT h)):=by
  unfold begT;cases okT h.Ar with
  | nil=>rfl
  | cons t l=>exact Jd (i:=0) rfl
 have s:getI (((okT h.Ar).map nT).map (·.Y)++[toR (rv h.Y)]) 0=some (toR (begY h)):=by
  unfold begY;cases okT h.Ar with
  | nil=>rfl
  | cons t l=>exact Jd (i:=0) rfl
 rw[r,sbind,s,sbind,sbind];cases Qej n p (toF (begT h)) (toR (begY h)) (toR (szs h))<;>rfl
set_option maxRecDepth 100000
theorem Jlg(q:Rat):0<=(absQ q).num:=by unfold absQ;split;show 0<=-q.num;omega;omega
theorem Jjn(l:List Rat):0<=(normQ l).num:=by
 have key:∀(l:List Rat) (b:Rat),0<=b.num->0<=(l.foldl (λb x=>maxQ b (absQ x)) b).num:=by
  intro l
  induction l with
  | nil=>intro b hb;exact hb
  | cons x l a=>
    intro b hb;refine a _ ?_;show 0<=(maxQ b (absQ x)).num;unfold maxQ;split;exact Jlg x;exact hb
 exact key l 0 (Int.le_refl _)
theorem Jh1{α R:Type}{f:Nat->α->Unit->Option (Lp Unit R)}{K:Unit->Option R}(xs:List α)(hb:∀ i x,xs[i]?=some x->f i x ()=some (.go ())):(rangeL f xs 0 ()).bind (lpK K)=K ():=Qbe (λ_=>()) xs hb rfl
def ChT:Rat->List Tri->Rat->Prop
 | t,[],e=>e=t
 | t,x::l,e=>x.1=t/\ChT (x.1+x.2.1) l e
theorem Q1g:∀ {f a:List Tri}{t e:Rat},ChT t (f++a) e->∃ d,ChT t f d/\ChT d a e
 | [],a,t,e,h=>⟨t,rfl,h⟩
 | x::f,a,t,e,h=>by obtain⟨g,i⟩:=h;obtain⟨d,j,k⟩:=Q1g i;exact⟨d,⟨g,j⟩,k⟩
def atI(h:Qy)(i:Nat):Rat:=match h.Ar[i]? with
 | some t=>fv t.T
 | none=>fv h.T
theorem Jjo(h:Qy)(i:Nat):fv (nextT h i)=atI h (i+1):=by unfold nextT atI;cases h.Ar[i+1]?<;>rfl
theorem Q5n{h:Qy}(hp:Qee h):∀(m i:Nat),i+m=h.Ar.length->ChT (atI h i) ((okT (h.Ar.drop i)).map triT) (fv h.T)
 | 0,i,hi=>by have e:h.Ar[i]?=none:=xz om;rw[xl om];show fv h.T=atI h i;unfold atI;rw[e]
 | m+1,i,hi=>by
   have a:h.Ar[i]?=some (h.Ar[i]' om):=oi om;generalize h.Ar[i]' om=x at a;obtain⟨c1,d⟩:=hp.n i x a;have g:=Q5n hp m (i+1) om;rw[Jjo] at c1 d;have f:atI h i=fv x.T:=by unfold atI;rw[a]
   rw[Qtf a];unfold okT;rw[List.filter_cons];cases hk:x.Ok with
   | true=>
     rw[oq rfl,yz];refine⟨f.symm,?_⟩;show ChT (fv x.T+fv x.H) _ _;rw[<-c1 hk];exact g
   | false=>
     rw[ol oz,f,<-(d hk).1];exact g
theorem Jh2{h:Qy}(hp:Qee h):ChT (atI h 0) (tri h) (fv h.T):=Q5n hp h.Ar.length 0 om
theorem Q7h(h:Qy):szs h=(tri h).map (·.2.1):=by unfold szs tri;rw[yt];rfl
def kepQ(A:List Tri)(c:Nat):Vw:=⟨(c:Int),toR (A.map (·.2.1)),toR ((mrk A.length c).map λm=>(A.getD m (0,0,[])).1),toRR ((mrk A.length c).map λm=>(A.getD m (0,0,[])).2.2)⟩
theorem Jlh{n k:Nat}{h:Qy}{x:Int}(hn:big<=n)(p:1<=k)(hk:k<1099511627776)(C:h.Ar.length<=200)(q:∀ t∈h.Ar,FT k t)(v:Fk k h.T)(w:FR k h.Y)(j:h.Y.length<=1000000):
 Qqy n h x=some (kepQ (tri h) (cutI x)):=by
 obtain⟨c1,B⟩:=cut_b x;have A:=Qkg h.Ar;unfold Qqy;rw[Qyb,sbind,Qup hn p hk om q,sbind,Q43 hn p hk om q v w j,sbind];have r:((toR (szs h)).length:Int)=(((tri h).length:Nat):Int):=by rw[Jl,Q7h];simp
 have u:(tri h).length<=200:=by rw[Qmj];omega
 rw[r,Qyc hn u,sbind];have g:∀ m∈mrk (tri h).length (cutI x),m<(tri h).length:=λm a=>by obtain⟨_,_,_,h⟩:=Q7d c1 a;exact h
 have l:(mrk (tri h).length (cutI x)).length<=200:=by rw[Qsk];have:=Q5m (n:=(tri h).length) c1;omega
 unfold kepQ;rw[Q7h];generalize mrk (tri h).length (cutI x)=ms at g l |-
 have gT:∀ m,m<(tri h).length->getI (((okT h.Ar).map nT).map (·.T)++[toF (fv h.T)]) (m:Int)=some (toF ((tri h).getD m (0,0,[])).1):=λm a=>by
  have d:m<(okT h.Ar).length:=by rw[Qmj] at a;exact a
  refine Jd ?_;rw[yp oh,xr,xr,oi d,ou];simp[tri,oi d,triT,nT]
 have gY:∀ m,m<(tri h).length->getI (((okT h.Ar).map nT).map (·.Y)++[toR (rv h.Y)]) (m:Int)=some (toR ((tri h).getD m (0,0,[])).2.2):=λm a=>by
  have d:m<(okT h.Ar).length:=by rw[Qmj] at a;exact a
  refine Jd ?_;rw[yp oh,xr,xr,oi d,ou];simp[tri,oi d,triT,nT]
 rw[Qbe (s:=(([]:List Qa),([]:List (List Qa)))) (F:=λi=>(toR ((ms.take i).map λm=>((tri h).getD m (0,0,[])).1),toRR ((ms.take i).map λm=>((tri h).getD m (0,0,[])).2.2))) (iL ms) (λi y f=>?_) rfl,Wv];rw[show(iL ms).length=ms.length by simp[iL],xh];unfold iL at f;rw[xr] at f;cases a:ms[i]? with
 | none=>rw[a] at f;cases f
 | some m=>
   rw[a] at f;cases f;have e:=g m (uj a);have hi:=(List.getElem?_eq_some_iff.1 a).1;simp only[];rw[gT m e,sbind,J9 (by simp[Jl];omega) (by simp[Jl];omega),sbind,gY m e,sbind,J9 (by simp[Qbg];omega) (by simp[Qbg];omega),sbind,vj,a];simp[toR,toRR]
theorem Qw7{A:List Tri}{c:Nat}:(kepQ A c).Sizes.length=A.length/\(kepQ A c).Ts.length=cnt A.length c/\(kepQ A c).Ys.length=cnt A.length c:=by refine⟨?_,?_,?_⟩;show(toR _).length=_;rw[Jl,ot];show(toR _).length=_;rw[Jl,ot,Qsk];show(toRR _).length=_;rw[Qbg,ot,Qsk]
theorem Q7i{n k d:Nat}{A:List Tri}{x:Int}(hn:big<=n)(e:1<=k)(hk:k<1099511627776)(f:∀ t∈A,TriK k d t)(g:A.length<=200):Qlq n (kepQ A (cutI x))=some true:=by
 obtain⟨c1,v⟩:=cut_b x;obtain⟨r,s,u⟩:=Qw7 (A:=A) (c:=cutI x);unfold Qlq;simp only[jn_eq];rw[Jh1]
 case hb=>
  intro i y m;have a:=uj m;obtain⟨q,j,rfl⟩:=xy.1 a;obtain⟨t,l,rfl⟩:=xy.1 j;obtain⟨_,k2,p,_⟩:=f t l;rw[Qdu hn e hk (Jq k2),sbind,Jc,oj (λh=>Qqe.1 h p)];rfl
 rw[r,show(kepQ A (cutI x)).Every=((cutI x:Nat):Int) from rfl,Qyc hn g,sbind,Qyb,sbind,Jhv,s,u];have a:((iL (mrk A.length (cutI x))).length:Int)=((cnt A.length (cutI x):Nat):Int):=by rw[Jhw,Q7e]
 rw[a,oo rfl,bifT,oo (show((A.length:Nat):Int)<=200 by omega),bifT,oo rfl,bifT]
theorem Jh3(a:Q0):Qew a a=true:=by unfold Qew;simp
theorem Jh4{a b:Q0}(h:¬ a=b):Qew a b=false:=by obtain⟨a1,a2⟩:=a;obtain⟨f,g⟩:=b;unfold Qew;by_cases d:a1=f;have i:¬ a2=g:=λe=>h (by rw[d,e]);simp[i];simp[d]
theorem Jfo{n j:Nat}{A:List Tri}{x:Int}(hn:big<=n)(a:A.length<=200)(d:j<cnt A.length (cutI x)):Qlr n (kepQ A (cutI x)) (sgm A.length (cutI x) (j*cutI x))=some true:=by obtain⟨f,g,k⟩:=Qw7 (A:=A) (c:=cutI x);unfold Qlr;rw[f,show(kepQ A (cutI x)).Every=((cutI x:Nat):Int) from rfl,Qyw hn a,sbind,Jhv];have e:sgm A.length (cutI x) (j*cutI x)∈(mrk A.length (cutI x)).reverse.map (sgm A.length (cutI x)):=ur (List.mem_reverse.2 (uj (Q1f d)));obtain⟨i,hi⟩:=vc e;rw[Qag (P:=λ_ y=>¬ y=sgm A.length (cutI x) (j*cutI x)) (r:=true)];rw[ol λh=>h i _ hi rfl];intro i y _;constructor;intro h;rw[Jh4 h];rfl;intro h;obtain rfl:=Classical.not_not.1 h;rw[Jh3];rfl
noncomputable def anewQ(p:Qg):List Tri->Nat->List Rat->Qe ⊕ List (List Rat)
 | [],_,_=>.inr []
 | x::l,i,y=>match stepQ p x.1 x.2.1 y with
   | .inl f=>.inl ⟨f.Au,((i+1:Nat):Int),f.A0,f.At⟩
   | .inr z=>match anewQ p l (i+1) z.next with
     | .inl f=>.inl f
     | .inr r=>.inr (z.next::r)
theorem Jed{p:Qg}:∀ {l:List Tri}{i:Nat}{y:List Rat}{r:List (List Rat)},anewQ p l i y=.inr r->r.length=l.length/\∀ a∈r,QR 129 a/\a.length=y.length
 | [],i,y,r,h=>by simp only[anewQ] at h;cases h;exact⟨rfl,λ_ h=>by cases h⟩
 | x::l,i,y,r,h=>by
   simp only[anewQ] at h;cases hs:stepQ p x.1 x.2.1 y with
   | inl f=>rw[hs] at h;cases h
   | inr z=>
     rw[hs] at h;simp only[] at h;cases hr:anewQ p l (i+1) z.next with
     | inl f=>rw[hr] at h;cases h
     | inr j=>
       rw[hr] at h;cases h;obtain⟨_,_,g,e,_⟩:=Qex hs;obtain⟨a1,a2⟩:=Jed hr;refine⟨by simp[a1],λa d=>?_⟩;rcases xu.1 d with rfl | d
       . exact⟨g,e⟩
       . have:=a2 a d;exact⟨this.1,by rw[this.2,e]⟩
theorem Q8p{p:Qg}(hp:∀(x:Tri) y f,stepQ p x.1 x.2.1 y=.inl f->f.Au≠0):∀ {l:List Tri}{i:Nat}{y:List Rat}{f},anewQ p l i y=.inl f->f.Au≠0
 | [],i,y,f,h=>by simp only[anewQ] at h;cases h
 | x::l,i,y,f,h=>by
   simp only[anewQ] at h;cases hs:stepQ p x.1 x.2.1 y with
   | inl g=>rw[hs] at h;cases h;exact hp x y g hs
   | inr z=>
     rw[hs] at h;simp only[] at h;cases hr:anewQ p l (i+1) z.next with
     | inl g=>rw[hr] at h;cases h;exact Q8p hp hr
     | inr a=>rw[hr] at h;cases h
theorem Jh5{n k d:Nat}{p:Qg}{m:Nat}{e:Rat}(hn:big<=n)(h0:129<=k)(hk:k<8000)(L:PrbW k p)(R:m<=200):∀(l:List Tri) (i:Nat) (t:Rat) (y:List Rat) (g:List (List Rat)),ChT t l e->(∀ x∈l,TriK k d x)->QR k y->i+l.length<=200->g.length+l.length<=400 ->
 (rangeL (λ(v:Nat) (s:Qa) (q:Qa×(List Qa)×(List (List Qa)))=>
  (Qgb n p q.1 s q.2.1).bind λj=>
  bif !(Qx j.2 (⟨0,0,0,0⟩:Qe)) then (
   some (Lp.out ((([]:List (List Qa)),(⟨j.2.Au,wrap64 ((wrap64 ((m:Int)+(v:Int)))+(1:Int)),j.2.A0,j.2.At⟩:Qe)))))
  else (
   (Vi n q.1 s).bind λw=>
   (appM 24 q.2.2 ([j.1.Next]:List (List Qa))).bind λB=>
   some (Lp.go (w,j.1.Next,B)))) (toR (l.map (·.2.1))) i (toF t,toR y,toRR g)).bind (lpK λ(A:Qa×(List Qa)×(List (List Qa)))=>
  some (A.2.2,(⟨0,0,0,0⟩:Qe))) =
  some (match anewQ p l (m+i) y with | .inl f=>([],f) | .inr r=>(toRR (g++r),⟨0,0,0,0⟩)):=by
 intro l
 induction l with
 | nil=>intro i t y g _ _ _ _ _;simp only[anewQ,ua];rfl
 | cons x l N=>
   intro i t y g J F M hi u;obtain⟨c1,G⟩:=J;obtain⟨a1,a2,a3,a4,a5⟩:=F x oc;simp only[xn] at hi u;subst c1;obtain⟨C,E⟩:=Qpp (t:=toF x.1) (h:=toF x.2.1) (y:=toR y) hn h0 hk L (Jq a1) (Jq a2) (K2 M);rw[Jc,Jc,Vj] at C E;have H:toR ((x::l).map (·.2.1))=toF x.2.1::toR (l.map (·.2.1)):=rfl;rw[H];simp only[rangeL,anewQ];rw[C,sbind];cases hs:stepQ p x.1 x.2.1 y with
   | inl f=>
     have K:=E f hs;simp only[];rw[show Qx f ⟨0,0,0,0⟩=false by obtain⟨P,Q,f3,f4⟩:=f;exact K9 K,ow,bifT,sbind,sbind,Qap,w64 (x:=(m:Int)+(i:Int)) om om,w64 (x:=(m:Int)+(i:Int)+1) om om];rw[show(m:Int)+(i:Int)+1=((m+i+1:Nat):Int) by omega]
   | inr z=>
     obtain⟨_,_,O,S,_⟩:=Qex hs;simp only[];rw[Kz,ov,bifF,Vy (k:=k) hn om om (Jq a1) (Jq a2),sbind,Jc,Jc,J9 (by simp[Qbg];omega) (by simp[Qbg];omega),sbind,sbind];simp only[];have I:toRR g++[(toM z).Next]=toRR (g++[z.next]):=by simp[toRR,toM]
     rw[I,show(toM z).Next=toR z.next from rfl,N (i+1) (x.1+x.2.1) z.next (g++[z.next]) G (λa u=>F a (by simp[u])) (Q8 O h0) om oh,show m+(i+1)=m+i+1 by omega];cases hr:anewQ p l (m+i+1) z.next with
     | inl f=>rfl
     | inr r=>simp only[];rw[xf];rfl
theorem Jcj{c:Nat}(h:1<=c):grd (((c:Nat):Int) != 0)=some ():=by unfold grd;rw[show(((c:Nat):Int) != 0)=true by simp;omega];rfl
theorem Q3s{j c:Nat}(a:1<=c)(f:j*c<=1000000):wrap64 (Int.tdiv ((j*c:Nat):Int) ((c:Nat):Int))=(j:Int):=by
 have e:Int.tdiv ((j*c:Nat):Int) ((c:Nat):Int)=(j:Int):=by rw[Int.natCast_mul,Int.mul_tdiv_cancel _ om]
 have d:j*1<=j*c:=uq _ a;rw[e,w64 om om]
def segA(A:List Tri)(c m:Nat):List Tri:=(A.take (min (m+c) A.length)).drop m
theorem Ql5{A:List Tri}{c m:Nat}:(segA A c m).length=min (m+c) A.length - m:=by unfold segA;simp
theorem Jh6{A:List Tri}{c m:Nat}(d:m<A.length)(a:1<=c):(A.take (min (m+c) A.length - 1)).drop m=(segA A c m).take (min (m+c) A.length - 1 - m):=by unfold segA;rw[List.take_drop,List.take_take];congr 2;omega
theorem Q3t{A:List Tri}{c m:Nat}:∀ x∈segA A c m,x∈A:=λ_ a=>ym (vv a)
theorem Q5o{A:List Tri}{c m:Nat}{t0 i:Rat}(f:ChT t0 A i)(g:m<A.length)(q:1<=c):∃ e,ChT (A.getD m (0,0,[])).1 (segA A c m) e:=by
 have j:A=A.take m++A.drop m:=(uc m A).symm;rw[j] at f;obtain⟨p,_,a⟩:=Q1g f;have k:A.drop m=segA A c m++A.drop (min (m+c) A.length):=by unfold segA;rw[List.drop_take];have:=uc (min (m+c) A.length - m) (A.drop m);rw[List.drop_drop,show m+(min (m+c) A.length - m)=min (m+c) A.length by omega] at this;exact this.symm
 have d:=a;rw[xe g] at d;have l:(A.getD m (0,0,[])).1=p:=by rw[ou,oi g];exact d.1
 rw[k] at a;obtain⟨e,n,_⟩:=Q1g a;exact⟨e,by rw[l];exact n⟩
theorem Jjp{l:List Tri}{t e:Rat}(i:Nat)(h:ChT t l e):∃ a,ChT t (l.take i) a:=by rw[<-uc i l] at h;obtain⟨a,d,_⟩:=Q1g h;exact⟨a,d⟩
theorem Jh7{A:List Tri}{c j:Nat}(a:j<cnt A.length c):getI (kepQ A c).Ts (j:Int)=some (toF (A.getD (j*c) (0,0,[])).1):=by refine Jd ?_;show(toR _)[j]?=_;unfold toR;rw[xr,xr,Q1f a];rfl
theorem Jnp{A:List Tri}{c j:Nat}(a:j<cnt A.length c):getI (kepQ A c).Ys (j:Int)=some (toR (A.getD (j*c) (0,0,[])).2.2):=by refine Jd ?_;show(toRR _)[j]?=_;unfold toRR;rw[xr,xr,Q1f a];rfl
theorem Jh8{n k d j:Nat}{p:Qg}{A:List Tri}{x:Int}{t0 E:Rat}(hn:big<=n)(h0:129<=k)(hk:k<8000)(B:PrbW k p)(hr:prbR p)(hd:(d:Int)=p.Tape.Ax)(l:∀ t∈A,TriK k d t)(y:A.length<=200)(H:ChT t0 A E)(i:j<cnt A.length (cutI x)):
 Qm8 n p (kepQ A (cutI x)) (sgm A.length (cutI x) (j*cutI x))=some (match anewQ p ((segA A (cutI x) (j*cutI x)).take (min (j*cutI x+cutI x) A.length - 1 - j*cutI x)) (j*cutI x) (A.getD (j*cutI x) (0,0,[])).2.2 with
  | .inl f=>([],f)
  | .inr r=>(toRR ((A.getD (j*cutI x) (0,0,[])).2.2::r),⟨0,0,0,0⟩)):=by
 obtain⟨c1,N⟩:=cut_b x;have u:=(Qnm c1).1 i;have G:=Q7i (x:=x) hn (show 1<=k by omega) om l y;have F:=Jfo (x:=x) hn y i;unfold Qm8;simp only[jn_eq];rw[Qmg hn h0 hk B,sbind,dP_t hr,ov,bifF,G,sbind,ov,bifF,F,sbind,ov,bifF];generalize I:cutI x=c at *;obtain⟨K,L,M,v,w⟩:=l _ (Qti u);obtain⟨e,q⟩:=Q5o H u c1;show((grd (((c:Nat):Int) != 0)).bind λ_=>_)=_;rw[Jcj c1,sbind];show((getI (kepQ A c).Ts (wrap64 (Int.tdiv ((j*c:Nat):Int) ((c:Nat):Int)))).bind λ_=>_)=_;rw[Q3s c1 om,Jh7 i,sbind];show((grd (((c:Nat):Int) != 0)).bind λ_=>_)=_;rw[Jcj c1,sbind];show((getI (kepQ A c).Ys (wrap64 (Int.tdiv ((j*c:Nat):Int) ((c:Nat):Int)))).bind λ_=>_)=_;rw[Q3s c1 om,Jnp i,sbind,Jl,w,oo hd,ov,bifF,Qg8 hn,sbind,Qab (k:=k) hn om om (Jq (by rw[Q0g];omega)) (K2 v) (by rw[Jl,w];obtain⟨g,_⟩:=hr;have:=g.1.1.2;omega),sbind,Jc,Vj,Qwu];have eT:wrap64 ((sgm A.length c (j*c)).To - 1)=((min (j*c+c) A.length - 1:Nat):Int):=by
  show wrap64 (((min (j*c+c) A.length:Nat):Int) - 1)=_;rw[w64 om om];omega
 have eS:sub (kepQ A c).Sizes ((j*c:Nat):Int) ((min (j*c+c) A.length - 1:Nat):Int)=some (toR (((segA A c (j*c)).take (min (j*c+c) A.length - 1 - j*c)).map (·.2.1))):=by rw[Q6e om (by rw[Qw7.1];omega),<-Jh6 u c1];show some (((toR (A.map (·.2.1))).take _).drop _)=_;unfold toR;rw[<-wh,<-wh,<-gn,<-gn]
 rw[eT];show((sub (kepQ A c).Sizes ((j*c:Nat):Int) _).bind λ_=>_)=_;rw[eS,sbind];obtain⟨C,a⟩:=Jjp (min (j*c+c) A.length - 1 - j*c) q;have s:=Jh5 (n:=n) (k:=k) (d:=d) (p:=p) (m:=j*c) (e:=C) hn h0 hk B om ((segA A c (j*c)).take (min (j*c+c) A.length - 1 - j*c)) 0 (A.getD (j*c) (0,0,[])).1 (A.getD (j*c) (0,0,[])).2.2 [(A.getD (j*c) (0,0,[])).2.2] a (λx J=>l x (Q3t x (ym J))) v (by rw[xi,Ql5];omega) (by rw[xi,Ql5];simp;omega);refine s.trans ?_;rw[xp];rfl
theorem Jck{n k d j:Nat}{p:Qg}{w sum:List Qa}{g:Qj}{A:List Tri}{x:Int}{t0 r:Rat}(hn:big<=n)(J:1<=k)(hk:k<1099511627776)(q:∀ t∈A,TriK k d t)(V:A.length<=200)(u:ChT t0 A r)(G:j<cnt A.length (cutI x)):
 Qc7 n p (kepQ A (cutI x)) w sum g (sgm A.length (cutI x) (j*cutI x))=some (toR ((segA A (cutI x) (j*cutI x)).map (·.1))):=by
 obtain⟨c1,U⟩:=cut_b x;have H:=(Qnm c1).1 G;unfold Qc7;generalize K:cutI x=c at *;obtain⟨P,Q,R,S,T⟩:=q _ (Qti H);obtain⟨e,v⟩:=Q5o u H c1;show((grd (((c:Nat):Int) != 0)).bind λ_=>_)=_;rw[Jcj c1,sbind];show((getI (kepQ A c).Ts (wrap64 (Int.tdiv ((j*c:Nat):Int) ((c:Nat):Int)))).bind λ_=>_)=_;rw[Q3s c1 om,Jh7 G,sbind];have eS:sub (kepQ A c).Sizes ((j*c:Nat):Int) ((min (j*c+c) A.length:Nat):Int)=some (toR ((segA A c (j*c)).map (·.2.1))):=by
  rw[Q6e om (by rw[Qw7.1];omega)];show some (((toR (A.map (·.2.1))).take _).drop _)=_;unfold toR segA;rw[<-wh,<-wh,<-gn,<-gn]
 show((sub (kepQ A c).Sizes ((j*c:Nat):Int) ((min (j*c+c) A.length:Nat):Int)).bind λ_=>_)=_;rw[eS,sbind]
 have key:∀(l:List Tri) (i:Nat) (t:Rat) (f:List Rat),ChT t l e->(∀ x∈l,TriK k d x)->f.length+l.length<=400 ->
  (rangeL (λ(_:Nat) (E:Qa) (m:Qa×(List Qa))=>
  (appM 56 m.2 ([m.1]:List Qa)).bind λF=>
  (Vi n m.1 E).bind λB=>
  some (Lp.go (B,F))) (toR (l.map (·.2.1))) i (toF t,toR f)).bind (lpK λ(C:Qa×(List Qa))=>
 some C.2)=some (toR (f++l.map (·.1))):=by
  intro l
  induction l with
  | nil=>intro i t f _ _ _;show some (toR f)=some (toR (f++[]));rw[ua]
  | cons y l M=>
    intro i t f u q s;obtain⟨N,O⟩:=u;obtain⟨a1,a2,_⟩:=q y oc;simp only[xn] at s;subst N;have r:toR ((y::l).map (·.2.1))=toF y.2.1::toR (l.map (·.2.1)):=rfl;rw[r];simp only[rangeL];rw[J9 (by simp[Jl];omega) (by simp[Jl];omega),sbind,Vy (k:=k) hn J hk (Jq a1) (Jq a2),sbind,Jc,Jc,sbind];have I:toR f++[toF y.1]=toR (f++[y.1]):=by simp[toR]
    rw[I];refine(M (i+1) (y.1+y.2.1) (f++[y.1]) O (λa s=>q a (by simp[s])) oh).trans ?_;rw[yz,xf];rfl
 exact(key (segA A c (j*c)) 0 _ [] v (λx L=>q x (Q3t x L)) (by rw[Ql5];simp;omega)).trans rfl
noncomputable def bstQ(p:Qg)(i:Nat)(x:Tri)(y:List Rat)(g:List Rat×List Rat):Qe ⊕ (List Rat×List Rat):=
 match backThQ p x.1 x.2.1 y g.1 with
 | .inl f=>.inl ⟨f.Au,((i+1:Nat):Int),f.A0,f.At⟩
 | .inr z=>match fitQ (limQ p.Av) (addQ g.2 z.2.2) 0 with
   | some a=>.inl ⟨6,((i+1:Nat):Int),10,300+(a:Int)⟩
   | none=>.inr (z.2.1,addQ g.2 z.2.2)
theorem Jh9{lim:Int}:∀ {l:List Rat}{i a:Nat},fitQ lim l i=some a->a<i+l.length
 | [],i,a,h=>by cases h
 | q::l,i,a,h=>by simp only[fitQ] at h;split at h;have:=Jh9 h;simp only[xn];omega;cases h;simp
theorem Jfp{n k d i:Nat}{p:Qg}{kept:Vw}{w sum y:List Rat}{g:Qj}{x:Tri}(hn:big<=n)(h0:129<=k)(hk:k<8000)(J:PrbW k p)(hr:prbR p)(q:getI kept.Sizes (i:Int)=some (toF x.2.1))(hi:i<=200)(K:TriK k d x)(L:QR k y)(v:y.length=d)(u:QR k w)(hs:QR 129 sum)(I:sum.length=p.P.length)(j:g.limit=limQ p.Av):
 ∃ R,Qcv n p kept (toR w) (toR sum) g (i:Int) (toF x.1) (toR y)=some R/\match bstQ p i x y (w,sum) with
   | .inl f=>R.1=f/\f.Au≠0
   | .inr z=>∃ l,l.limit=limQ p.Av/\R=(⟨0,0,0,0⟩,p,kept,toR z.1,toR z.2,l)/\QR 129 z.1/\QR 129 z.2/\z.1.length=d/\z.2.length=p.P.length:=by
 obtain⟨M,x2,_⟩:=K;have G:p.P.length<=1000000:=by have S:=hr.2.2;obtain⟨⟨⟨_,_⟩,⟨m,O⟩,_⟩,_⟩:=hr.1;omega
 obtain⟨A,B,m⟩:=Qmu (n:=n) (k:=k) (p:=p) (t:=toF x.1) (h:=toF x.2.1) (y:=toR y) (w:=toR w) hn h0 hk J (Jq M) (Jq x2) (K2 L) (K2 u);rw[Jc,Jc,Vj,Vj] at A B m;have s:limQ p.Av<=4096:=by unfold limQ;omega
 unfold Qcv bstQ;rw[q,sbind,A,sbind];cases hb:backThQ p x.1 x.2.1 y w with
 | inl f=>
   have C:=B f hb;simp only[];rw[show Qx f ⟨0,0,0,0⟩=false by obtain⟨P,Q,f3,f4⟩:=f;exact K9 C,ow,bifT,w1 om];exact⟨_,rfl,rfl,C⟩
 | inr z=>
   obtain⟨_,N,E,z3,z4,z5⟩:=m z hb;simp only[];rw[Kz,ov,bifF,Qb2 (k:=129) hn oz oz (K2 hs) (K2 E) (by rw[Jl];omega),sbind,oq (by rw[Jl,Jl];omega),Vj,Vj];have H:QR 1099511627775 (addQ sum z.2.2):=Q8 (Ql1 hs E) oz;have r:(addQ sum z.2.2).length=p.P.length:=by rw[Zu];omega
   obtain⟨l,g1,F⟩:=Qtd (g:=g) hn H;simp only[];rw[F,j,sbind];cases e:fitQ (limQ p.Av) (addQ sum z.2.2) 0 with
   | some a=>
     have T:=Jh9 e;simp only[];rw[ow,bifT,w1 om,w64 (x:=300+(a:Int)) om om];exact⟨_,rfl,rfl,oz⟩
   | none=>
     simp only[];rw[ov,bifF];exact⟨_,rfl,l,by rw[g1,j],rfl,N,Qmh s e,by rw[z3,Jl,v],r⟩
noncomputable def swQ(p:Qg)(m:Nat)(xs:List Tri)(ys:List (List Rat)):Nat->List Rat×List Rat->Qe ⊕ (List Rat×List Rat)
 | 0,g=>.inr g
 | d+1,g=>match bstQ p (m+d) (xs.getD d (0,0,[])) (ys.getD d []) g with
   | .inl f=>.inl f
   | .inr z=>swQ p m xs ys d z
noncomputable def segQ(p:Qg)(A:List Tri)(c m:Nat)(g:List Rat×List Rat):Qe ⊕ (List Rat×List Rat):=
 match anewQ p ((segA A c m).take (min (m+c) A.length - 1 - m)) m (A.getD m (0,0,[])).2.2 with
 | .inl f=>.inl f
 | .inr r=>swQ p m (segA A c m) ((A.getD m (0,0,[])).2.2::r) (min (m+c) A.length - m) g
theorem Jda{σ τ:Type}{f:Nat->σ->Option (Lp σ τ)}{L:Nat}{s:σ}:rangeN f (L:Int) s=rangeD f L s:=by unfold rangeN;rw[oo (show(-9223372036854775808:Int)<(L:Int) by omega),yh];rfl
theorem Jli{n k d m:Nat}{p:Qg}{kept:Vw}{xs:List Tri}{ys:List (List Rat)}(hn:big<=n)(h0:129<=k)(hk:k<8000)(H:PrbW k p)(hr:prbR p)(hm:m+xs.length<=200)(W:ys.length=xs.length)
 (U:∀(i:Nat) x,xs[i]?=some x->TriK k d x/\getI kept.Sizes ((m+i:Nat):Int)=some (toF x.2.1)) (V:∀ y∈ys,QR k y/\y.length=d) :
 ∀(j:Nat) (w sum:List Rat) (g:Qj),j<=xs.length->QR k w->QR 129 sum->sum.length=p.P.length->g.limit=limQ p.Av ->
 ∃ o,rangeD (λ(u:Nat) (r:Qg×Vw×(List Qa)×(List Qa)×Qj)=>
   (getI (toR (xs.map (·.1))) (u:Int)).bind λJ=>
   (getI (toRR ys) (u:Int)).bind λK=>
   (Qcv n r.1 r.2.1 r.2.2.1 r.2.2.2.1 r.2.2.2.2 (wrap64 ((m:Int)+(u:Int))) J K).bind λa=>
   bif !(Qx a.1 (⟨0,0,0,0⟩:Qe)) then (
    some (Lp.out (a.2.1,a.2.2.1,a.2.2.2.1,a.2.2.2.2.1,a.2.2.2.2.2,a.1)))
   else (
    some (Lp.go (a.2.1,a.2.2.1,a.2.2.2.1,a.2.2.2.2.1,a.2.2.2.2.2)))) j (p,kept,toR w,toR sum,g)=some o /\
   match swQ p m xs ys j (w,sum) with
   | .inl f=>∃ q,o=.out q/\q.2.2.2.2.2=f/\f.Au≠0
   | .inr z=>∃ B,o=.go (p,kept,toR z.1,toR z.2,B)/\B.limit=limQ p.Av/\QR k z.1/\QR 129 z.2/\z.1.length=(if j=0 then w.length else d)/\z.2.length=p.P.length:=by
 intro j
 induction j with
 | zero=>
   intro w sum g _ H hs G e;exact⟨_,rfl,g,rfl,e,H,hs,rfl,G⟩
 | succ j X=>
   intro w sum g hj I hs G e;have s:xs[j]?=some (xs[j]' om):=oi om;have t:ys[j]?=some (ys[j]' om):=oi om;have A:=xa (l:=ys) (n:=j) om;generalize xs[j]' om=x at s;generalize ys[j]' om=y at t A;obtain⟨x1,x2⟩:=U j x s;obtain⟨y1,y2⟩:=V y A;obtain⟨R,r1,E⟩:=Jfp (n:=n) (k:=k) (d:=d) (i:=m+j) (p:=p) (kept:=kept) (w:=w) (sum:=sum) (y:=y) (g:=g) (x:=x) hn h0 hk H hr x2 om x1 y1 y2 I hs G e;have g1:getI (toR (xs.map (·.1))) (j:Int)=some (toF x.1):=Jd (by unfold toR;rw[xr,xr,s];rfl);have F:getI (toRR ys) (j:Int)=some (toR y):=Jd (by unfold toRR;rw[xr,t];rfl);simp only[rangeD,swQ];rw[g1,sbind,F,sbind,w64 (x:=(m:Int)+(j:Int)) om om,show(m:Int)+(j:Int)=((m+j:Nat):Int) by omega,r1,sbind,ou,s,ou,t];simp only[ut];cases hb:bstQ p (m+j) x y (w,sum) with
   | inl f=>
     rw[hb] at E;obtain⟨L,M⟩:=E;rw[show Qx R.1 ⟨0,0,0,0⟩=false by rw[L];obtain⟨f1,f2,f3,f4⟩:=f;exact K9 M,ow,bifT,sbind];exact⟨_,rfl,_,rfl,L,M⟩
   | inr z=>
     rw[hb] at E;obtain⟨B,Y,rfl,Z,l4,l5,l6⟩:=E;rw[Kz,ov,bifF,sbind];obtain⟨o,o1,C⟩:=X z.1 z.2 B om (Q8 Z h0) l4 l6 Y;refine⟨o,o1,?_⟩;simp only[];cases v:swQ p m xs ys j z with
     | inl f=>rw[v] at C;exact C
     | inr z'=>
       rw[v] at C;obtain⟨F,N,O,P,Q,S,T⟩:=C;refine⟨F,N,O,P,Q,?_,T⟩;rw[ol (Nat.succ_ne_zero j),S];split;exact l5;rfl
theorem Jcl{n k d j:Nat}{p:Qg}{A:List Tri}{x:Int}{t0 S:Rat}{w sum:List Rat}{g:Qj}(hn:big<=n)(h0:129<=k)(hk:k<8000)(P:PrbW k p)(hr:prbR p)(hd:(d:Int)=p.Tape.Ax)(u:∀ t∈A,TriK k d t)(L:A.length<=200)(N:ChT t0 A S)(E:j<cnt A.length (cutI x))
 (H:QR k w) (_:w.length=d) (hs:QR 129 sum) (G:sum.length=p.P.length) (e:g.limit=limQ p.Av) :
 ∃ R,Qbb n p (kepQ A (cutI x)) (toR w) (toR sum) g (sgm A.length (cutI x) (j*cutI x))=some R/\match segQ p A (cutI x) (j*cutI x) (w,sum) with
   | .inl f=>R.1=f/\f.Au≠0
   | .inr z=>∃ s,s.limit=limQ p.Av/\R=(⟨0,0,0,0⟩,p,kepQ A (cutI x),toR z.1,toR z.2,s)/\QR k z.1/\QR 129 z.2/\z.1.length=d/\z.2.length=p.P.length:=by
 obtain⟨c1,c2⟩:=cut_b x;have V:=(Qnm c1).1 E;have B:=Jh8 (x:=x) hn h0 hk P hr hd u L N E;have C:=Jck (n:=n) (k:=k) (d:=d) (p:=p) (w:=toR w) (sum:=toR sum) (g:=g) (x:=x) hn om om u L N E;unfold Qbb segQ;rw[B,sbind];generalize U:cutI x=c at *;obtain⟨b1,b2,b3,Q,K⟩:=u _ (Qti V);cases M:anewQ p ((segA A c (j*c)).take (min (j*c+c) A.length - 1 - j*c)) (j*c) (A.getD (j*c) (0,0,[])).2.2 with
 | inl f=>
   have O:=Q8p (λx y f h=>Q42 h) M;simp only[];rw[show Qx f ⟨0,0,0,0⟩=false by obtain⟨f1,f2,f3,f4⟩:=f;exact K9 O,ow,bifT];exact⟨_,rfl,rfl,O⟩
 | inr r=>
   obtain⟨r1,r2⟩:=Jed M;simp only[];rw[Kz,ov,bifF,C,sbind];have T:wrap64 ((sgm A.length c (j*c)).To - (sgm A.length c (j*c)).From)=((min (j*c+c) A.length - j*c:Nat):Int):=by show wrap64 (((min (j*c+c) A.length:Nat):Int) - ((j*c:Nat):Int))=_;rw[w64 om om];omega
   rw[T,Jda];have F:r.length=min (j*c+c) A.length - 1 - j*c:=by rw[r1,xi,Ql5];omega
   obtain⟨o,W,v⟩:=Jli (n:=n) (k:=k) (d:=d) (m:=j*c) (p:=p) (kept:=kepQ A c) (xs:=segA A c (j*c)) (ys:=(A.getD (j*c) (0,0,[])).2.2::r) hn h0 hk P hr (by rw[Ql5];omega) (by rw[xn,F,Ql5];omega)
    (λi y a=>⟨u y (Q3t y (uj a)),Jd (by
     have hi:=(List.getElem?_eq_some_iff.1 a).1;rw[Ql5] at hi;show(toR _)[j*c+i]?=_;unfold toR;rw[xr,xr];unfold segA at a;rw[vk,List.getElem?_take_of_lt om] at a
     rw[a];rfl)⟩)
    (λy a=>by
     rcases xu.1 a with rfl | a;exact⟨Q,K⟩
     have:=r2 y a;exact⟨Q8 this.1 h0,by rw[this.2,K]⟩)
    (min (j*c+c) A.length - j*c) w sum g (by rw[Ql5];omega) H hs G e
   erw [W]
   rw[sbind];cases l:swQ p (j*c) (segA A c (j*c)) ((A.getD (j*c) (0,0,[])).2.2::r) (min (j*c+c) A.length - j*c) (w,sum) with
   | inl f=>
     rw[l] at v;obtain⟨q,rfl,I,J⟩:=v;exact⟨_,rfl,I,J⟩
   | inr z=>
     rw[l] at v;obtain⟨s,rfl,I,J,X,Y,Z⟩:=v;refine⟨_,rfl,s,I,rfl,J,X,?_,Z⟩;rw[Y,ol om]
noncomputable def allQ(p:Qg)(A:List Tri)(c:Nat):List Nat->List Rat×List Rat->Qe ⊕ (List Rat×List Rat)
 | [],g=>.inr g
 | m::l,g=>match segQ p A c m g with
   | .inl f=>.inl f
   | .inr z=>allQ p A c l z
def SwR(p:Qg)(h:Qy)(w:List Rat):Prop:=prbR p/\Qee h/\(h.Y.length:Int)=p.Tape.Ax/\w.length=h.Y.length
open Classical in
noncomputable def sweepQ(p:Qg)(h:Qy)(w:List Rat)(c:Nat):Qe ⊕ (List Rat×List Rat):=
 if SwR p h w then allQ p (tri h) c (mrk (tri h).length c).reverse (w,List.replicate p.P.length 0) else .inl ⟨2,0,0,0⟩
theorem Jjq{n k d:Nat}{p:Qg}{A:List Tri}{x:Int}{t0 H:Rat}(hn:big<=n)(h0:129<=k)(hk:k<8000)(y:PrbW k p)(hr:prbR p)(hd:(d:Int)=p.Tape.Ax)(J:∀ t∈A,TriK k d t)(K:A.length<=200)(L:ChT t0 A H):
 ∀(l:List Nat) (i:Nat) (w sum:List Rat) (g:Qj),(∀ m∈l,∃ j,j<cnt A.length (cutI x)/\m=j*cutI x)->QR k w->w.length=d->QR 129 sum->sum.length=p.P.length->g.limit=limQ p.Av ->
 (rangeL (λ(_:Nat) (E:Q0) (e:Qg×Vw×(List Qa)×(List Qa)×Qj)=>
  (Qbb n e.1 e.2.1 e.2.2.1 e.2.2.2.1 e.2.2.2.2 E).bind λa=>
  bif !(Qx a.1 (⟨0,0,0,0⟩:Qe)) then (
   some (Lp.out (((⟨[],[]⟩:Q7),a.1))))
  else (
   some (Lp.go (a.2.1,a.2.2.1,a.2.2.2.1,a.2.2.2.2.1,a.2.2.2.2.2)))) (l.map (sgm A.length (cutI x))) i (p,kepQ A (cutI x),toR w,toR sum,g)).bind (lpK λ(s:Qg×Vw×(List Qa)×(List Qa)×Qj)=>
  some ((⟨s.2.2.1,s.2.2.2.1⟩:Q7),(⟨0,0,0,0⟩:Qe))) =
  some (match allQ p A (cutI x) l (w,sum) with | .inl f=>(⟨[],[]⟩,f) | .inr z=>(⟨toR z.1,toR z.2⟩,⟨0,0,0,0⟩)) /\
  (∀ f,allQ p A (cutI x) l (w,sum)=.inl f->f.Au≠0)/\∀ z,allQ p A (cutI x) l (w,sum)=.inr z->QR k z.1/\QR 129 z.2/\z.1.length=d/\z.2.length=p.P.length:=by
 intro l
 induction l with
 | nil=>intro i w sum g _ y u hs q _;exact⟨rfl,(λf h=>by cases h),λz h=>by cases h;exact⟨y,hs,u,q⟩⟩
 | cons m l O=>
   intro i w sum g u C B hs q r;obtain⟨j,M,rfl⟩:=u m oc;obtain⟨R,V,v⟩:=Jcl (n:=n) (k:=k) (d:=d) (j:=j) (p:=p) (A:=A) (x:=x) (w:=w) (sum:=sum) (g:=g) hn h0 hk y hr hd J K L M C B hs q r;simp only[yz,rangeL,allQ];rw[V,sbind];cases hb:segQ p A (cutI x) (j*cutI x) (w,sum) with
   | inl f=>
     rw[hb] at v;obtain⟨F,G⟩:=v;rw[show Qx R.1 ⟨0,0,0,0⟩=false by rw[F];obtain⟨X,Y,f3,f4⟩:=f;exact K9 G,ow,bifT,sbind,sbind,Qap,F];exact⟨rfl,(λW h=>by cases h;exact G),λz h=>by cases h⟩
   | inr z=>
     rw[hb] at v;obtain⟨I,P,rfl,Q,S,T,U⟩:=v;rw[Kz,ov,bifF,sbind];exact O (i+1) z.1 z.2 I (λm N=>u m (by simp[N])) Q T S U P
theorem Q5p{n k:Nat}{p:Qg}{h:Qy}{w:List Qa}{x:Int}(hn:big<=n)(h0:129<=k)(hk:k<8000)(E:PrbW k p)(H:h.Ar.length<=200)(u:∀ t∈h.Ar,FT k t)(B:Fk k h.T)(C:FR k h.Y)(e:h.Y.length<=1000000)(l:FR k w)(v:w.length<=1000000):
 Qls n p h w x=some (match sweepQ p h (rv w) (cutI x) with | .inl f=>(⟨[],[]⟩,f) | .inr z=>(⟨toR z.1,toR z.2⟩,⟨0,0,0,0⟩)) /\
  (∀ f,sweepQ p h (rv w) (cutI x)=.inl f->f.Au≠0)/\∀ z,sweepQ p h (rv w) (cutI x)=.inr z->QR k z.1/\QR 129 z.2/\z.1.length=h.Y.length/\z.2.length=p.P.length:=by
 obtain⟨c1,K⟩:=cut_b x;unfold Qls sweepQ;simp only[jn_eq];rw[Qmg hn h0 hk E,sbind,bifnP];by_cases hr:prbR p
 case neg=>rw[ol hr,ol (λg=>hr g.1),bifT];exact⟨rfl,(λf h=>by cases h;decide),λz h=>by cases h⟩
 rw[oq hr,Qpq hn om om om u B C e,sbind,bifnP];by_cases hp:Qee h
 case neg=>rw[ol hp,ol (λg=>hp g.2.1),bifT];exact⟨rfl,(λf h=>by cases h;decide),λz h=>by cases h⟩
 rw[oq hp];by_cases hd:(h.Y.length:Int)=p.Tape.Ax
 case neg=>rw[oj hd,ol (λg=>hd g.2.2.1),ow,bifT,bifT];exact⟨rfl,(λf h=>by cases h;decide),λz h=>by cases h⟩
 rw[oo hd,ov,bifF];by_cases a:(w.length:Int)=(h.Y.length:Int)
 case neg=>rw[oj a,ol (λg=>a (by have:=g.2.2.2;rw[Jn] at this;omega)),ow,bifT];exact⟨rfl,(λf h=>by cases h;decide),λz h=>by cases h⟩
 have i:w.length=h.Y.length:=om
 rw[oo a,oq ⟨hr,hp,hd,by rw[Jn];exact i⟩,ov,bifF];have r:p.P.length<=300:=by have N:=hr.2.2;obtain⟨⟨⟨_,_⟩,⟨L,M⟩,_⟩,_⟩:=hr.1;omega
 have y:(tri h).length<=200:=by have:=Qkg h.Ar;rw[Qmj];omega
 rw[Jlh (x:=x) hn om om H u B C e,sbind,Qg8 hn,sbind,Qab (k:=k) hn om om (Jq (by rw[Q0g];omega)) l v,sbind,Jc,Qwu,Qb6 hn r,sbind];unfold X5;rw[sbind,Qw7.1,Qyw hn y,sbind]
 have s:=Jjq (n:=n) (k:=k) (d:=h.Y.length) (p:=p) (A:=tri h) (x:=x) hn h0 hk E hr hd (Jbt om hp u) y (Jh2 hp) (mrk (tri h).length (cutI x)).reverse 0 (rv w) (List.replicate p.P.length 0) ⟨⟨0,0⟩,min (max p.Av 0) 4096⟩
  (λm I=>by obtain⟨j,F,G,_⟩:=Q7d c1 (List.mem_reverse.1 I);exact⟨j,F,G⟩) (QR_rv l om) (by rw[Jn];exact i) (λq J=>by rw[List.eq_of_mem_replicate J,Y8];decide) oc rfl
 exact s
def MCh(p:Qg):Rat->List Rat->List Tri->Rat->List Rat->Prop
 | T,Y,[],E,Z=>E=T/\Z=Y
 | T,Y,x::l,E,Z=>x.1=T/\x.2.2=Y/\∃ z,stepQ p T x.2.1 Y=.inr z/\MCh p (T+x.2.1) z.next l E Z
theorem Qvx{p:Qg}:∀ {hs:List Rat}{i:Nat}{T:Rat}{Y:List Rat}{d:List TryQ}{z},marchQ p hs i T Y d=.inr z->∃ l:List TryQ,z.1=d++l/\l.map (·.H)=hs/\MCh p T Y (l.map λt=>(t.T,t.H,t.Y)) z.2.1 z.2.2
 | [],i,T,Y,d,z,h=>by simp only[marchQ] at h;cases h;exact⟨[],oc,rfl,rfl,rfl⟩
 | x::hs,i,T,Y,d,z,h=>by
   simp only[marchQ] at h;cases a:stepQ p T x Y with
   | inl f=>rw[a] at h;cases h
   | inr m=>
     rw[a] at h;obtain⟨l,e,g,j⟩:=Qvx h;exact⟨⟨T,x,normQ m.err,Y⟩::l,by rw[e,xf];rfl,by simp[g],rfl,rfl,m,a,j⟩
theorem Jcm{p:Qg}:∀(m:Nat) {A:List Tri}{T E:Rat}{Y Z:List Rat},MCh p T Y A E Z->m<A.length->MCh p (A.getD m (0,0,[])).1 (A.getD m (0,0,[])).2.2 (A.drop m) E Z
 | 0,x::l,T,E,Y,Z,h,a=>by obtain⟨d,e,f⟩:=h;show MCh p x.1 x.2.2 (x::l) E Z;rw[d,e];exact⟨d,e,f⟩
 | m+1,x::l,T,E,Y,Z,h,a=>by obtain⟨_,_,z,_,g⟩:=h;exact Jcm m g (by simp only[xn] at a;omega)
 | _,[],_,_,_,_,_,a=>by simp at a
theorem Q5q{p:Qg}:∀(L:Nat) {l:List Tri}{i:Nat}{T E:Rat}{Y Z:List Rat},MCh p T Y l E Z->L<l.length->anewQ p (l.take L) i Y=.inr (((l.take (L+1)).drop 1).map (·.2.2))
 | 0,x::l,i,T,E,Y,Z,h,a=>by simp[anewQ]
 | L+1,x::y::l,i,T,E,Y,Z,h,a=>by obtain⟨e,k,z,f,g⟩:=h;obtain⟨g1,d,g3⟩:=g;simp only[vp,anewQ];rw[e,f];simp only[];have j:=Q5q L (i:=i+1) (show MCh p (T+x.2.1) z.next (y::l) E Z from⟨g1,d,g3⟩) (by simp only[xn] at a |-;omega);rw[j];simp only[vp,dv,dy,yz];rw[<-d]
 | L+1,[x],_,_,_,_,_,_,a=>by simp at a
 | _,[],_,_,_,_,_,_,a=>by simp at a
theorem Jia{p:Qg}{A:List Tri}{c m:Nat}{T E:Rat}{Y Z:List Rat}(h:MCh p T Y A E Z)(a:m<A.length)(l:1<=c)(g:List Rat×List Rat):segQ p A c m g=swQ p m (segA A c m) ((segA A c m).map (·.2.2)) (min (m+c) A.length - m) g:=by
 have j:=Jcm m h a;have k:=Q5q (p:=p) (min (m+c) A.length - 1 - m) (i:=m) j (by rw[uz];omega);have d:(segA A c m).take (min (m+c) A.length - 1 - m)=(A.drop m).take (min (m+c) A.length - 1 - m):=by unfold segA;rw[List.drop_take,List.take_take];congr 1;omega
 have e:segA A c m=(A.drop m).take (min (m+c) A.length - 1 - m+1):=by unfold segA;rw[List.drop_take];congr 1;omega
 unfold segQ;rw[d,k];simp only[];have f:(A.getD m (0,0,[])).2.2::List.map (·.2.2) (List.drop 1 ((A.drop m).take (min (m+c) A.length - 1 - m+1)))=(segA A c m).map (·.2.2):=by rw[e,xe a,vp,yz,dv,dy,ou,oi a];rfl
 rw[f]
theorem Jee{p:Qg}{A:List Tri}{c m:Nat}(i:m<=A.length):∀(L:Nat) (g:List Rat×List Rat),L<=min (m+c) A.length - m->swQ p 0 A (A.map (·.2.2)) (m+L) g=match swQ p m (segA A c m) ((segA A c m).map (·.2.2)) L g with | .inl f=>.inl f | .inr z=>swQ p 0 A (A.map (·.2.2)) m z
 | 0,g,_=>rfl
 | L+1,g,j=>by
   have e:(segA A c m)[L]?=A[m+L]?:=by unfold segA;rw[vk,List.getElem?_take_of_lt om]
   have a:(segA A c m).getD L (0,0,[])=A.getD (m+L) (0,0,[]):=by rw[ou,ou,e]
   have d:((segA A c m).map (·.2.2)).getD L []=(A.map (·.2.2)).getD (m+L) []:=by rw[ou,ou,xr,xr,e]
   show swQ p 0 A (A.map (·.2.2)) (m+L+1) g=_;simp only[swQ];rw[a,d,xg];cases hb:bstQ p (m+L) (A.getD (m+L) (0,0,[])) ((A.map (·.2.2)).getD (m+L) []) g with
   | inl f=>rfl
   | inr z=>exact Jee i L z om
theorem Q8q{p:Qg}{A:List Tri}{c:Nat}{T E:Rat}{Y Z:List Rat}(h:MCh p T Y A E Z)(a:1<=c):∀(q:Nat) (g:List Rat×List Rat),q<=cnt A.length c->allQ p A c ((mrk A.length c).take q).reverse g=swQ p 0 A (A.map (·.2.2)) (min (q*c) A.length) g
 | 0,g,_=>by simp[allQ,swQ]
 | q+1,g,e=>by
   have d:=(Qnm a).1 (show q<cnt A.length c by omega);rw[Yn (Q1f (show q<cnt A.length c by omega)),List.reverse_append];simp only[List.reverse_cons,List.reverse_nil,yw,jb,allQ];rw[Jia h d a,show min ((q+1)*c) A.length=q*c+(min (q*c+c) A.length - q*c) by rw[ud];omega,Jee (c:=c) (show q*c<=A.length by omega) _ g (xm _)];cases hs:swQ p (q*c) (segA A c (q*c)) ((segA A c (q*c)).map (·.2.2)) (min (q*c+c) A.length - q*c) g with
   | inl f=>rfl
   | inr z=>
     simp only[];rw[Q8q h a q z om,yy om]
theorem Jfq{p:Qg}{A:List Tri}{c:Nat}{T E:Rat}{Y Z:List Rat}(h:MCh p T Y A E Z)(a:1<=c)(g:List Rat×List Rat):allQ p A c (mrk A.length c).reverse g=swQ p 0 A (A.map (·.2.2)) A.length g:=by
 have:=Q8q h a (cnt A.length c) g (xm _);rw[show cnt A.length c=(mrk A.length c).length from(Qsk _ _).symm,xh,Qsk] at this;rw[this];have d:¬ cnt A.length c*c<A.length:=λh=>by have:=(Qnm a).2 h;omega
 rw[Nat.min_eq_right om]
theorem Jib{l:List TryQ}{T:Qa}{Y:List Qa}:tri ⟨l.map toTry,T,Y⟩=l.map λt=>(t.T,t.H,t.Y):=by unfold tri okT;rw[List.filter_eq_self.2 (λa d=>by obtain⟨t,_,rfl⟩:=xy.1 d;rfl),yt];refine wg λt _=>?_;show(fv (toF t.T),fv (toF t.H),rv (toR t.Y))=_;rw[Jc,Jc,Vj]
theorem FT_TQ{k m:Nat}{t:TryQ}(h:TQ k m t)(n:m<=1000000):FT k (toTry t):=by
 obtain⟨e,d,g,i,j⟩:=h;refine⟨λf l=>?_,K2 i,by show(toR t.Y).length<=_;rw[Jl,j];exact n⟩;have a:f=toF t.T\/f=toF t.H\/f=toF t.H\/f=toF t.A4:=by simpa [toTry] using l
 rcases a with rfl | rfl | rfl | rfl;exact Jq e;exact Jq d;exact Jq d;exact Jq g
theorem Jcn{p:Qg}{A:List Tri}{W:Int->List (List Rat)}:∀(i:Nat) (g z e:List Rat×List Rat),(∀ j:Nat,j<i->W (j:Int)=[])->lookQ p A W i g=.inr z->swQ p 0 A (A.map (·.2.2)) i (foldA g.1 (W (i:Int)),g.2)=.inr e->i<=A.length->z=e
 | 0,g,z,e,_,h,d,_=>by simp only[lookQ] at h;simp only[swQ] at d;cases h;cases d;rfl
 | i+1,g,z,e,l,h,d,hi=>by
   have k:A[i]?=some (A[i]' om):=oi om;generalize A[i]' om=x at k;simp only[lookQ] at h;simp only[swQ] at d;rw[ou,k,ut] at h;rw[ou,k,ou,xr,k] at d;simp only[ut,Option.map_some,bstQ] at d;generalize foldA g.1 (W ((i+1:Nat):Int))=G at h d;cases hb:backThQ p x.1 x.2.1 x.2.2 G with
   | inl f=>rw[hb] at h;cases h
   | inr b=>
     rw[hb] at h d;simp only[] at h d;cases m:fitQ (limQ p.Av) (addQ g.2 b.2.2) 0 with
     | some a=>rw[m] at d;cases d
     | none=>
       rw[m] at d;simp only[] at d;refine Jcn i (b.2.1,addQ g.2 b.2.2) z e (λj n=>l j om) h ?_ om;rw[l i om];exact d
theorem Q5r{t:Qp}{s:Q1}{lim:Int}{T H:Rat}{P W:List Rat}{yss:List (List Rat)}:∀ {i:Nat}{a f},bstagesQ t s lim T H P W yss i a=.inl f->f.Au=3\/f.Au=6
 | 0,a,f,h=>by simp only[bstagesQ] at h;cases h
 | i+1,a,f,h=>by
   simp only[bstagesQ] at h;cases hs:bstageQ t lim T H P (yss.getD i []) ((rv s.C).getD i 0) (bslQ (s.A.map rv) ((rv s.B).getD i 0) H W i a.ls) i with
   | inl g=>
     rw[hs] at h;cases h;unfold bstageQ at hs;revert hs;cases fitQ lim (bslQ (s.A.map rv) ((rv s.B).getD i 0) H W i a.ls) 0 with
     | some j=>intro hs;cases hs;exact .inr rfl
     | none=>
       simp only[];cases hb:backQ t lim (T+H*(rv s.C).getD i 0) (yss.getD i []) P (bslQ (s.A.map rv) ((rv s.B).getD i 0) H W i a.ls) with
       | inr z=>intro hs;cases hs
       | inl e=>
         intro hs;cases hs;unfold backQ at hb;revert hb;cases hr:runQ lim (T+H*(rv s.C).getD i 0) (yss.getD i []) P t.Code 0 [] with
         | inl e=>intro hb;cases hb;exact Ql2 hr
         | inr vs=>
           simp only[];cases pullQ lim t.Code vs vs.length ⟨coQ vs.length t.Aw (bslQ (s.A.map rv) ((rv s.B).getD i 0) H W i a.ls),0,List.replicate t.Ax.toNat 0,List.replicate t.A1.toNat 0⟩ with
           | inl e=>intro hb;cases hb;exact .inr rfl
           | inr s=>
             simp only[];cases fitQ lim (s.T::(s.Y++s.P)) 0 with
             | some j=>intro hb;cases hb;exact .inr rfl
             | none=>intro hb;cases hb
   | inr g=>rw[hs] at h;exact Q5r h
theorem Jnq{t:Qp}{s:Q1}{lim:Int}{T H:Rat}{P W:List Rat}{yss:List (List Rat)}{f}(h:bdoQ t s lim T H P W yss=.inl f):f.Au=3\/f.Au=6:=by
 unfold bdoQ at h;cases hs:bstagesQ t s lim T H P W yss s.B.length ⟨[],W,List.replicate P.length 0⟩ with
 | inl g=>rw[hs] at h;cases h;exact Q5r hs
 | inr z=>
   rw[hs] at h;simp only[] at h;revert h;cases fitQ lim z.Y 0 with
   | some j=>intro h;cases h;exact .inr rfl
   | none=>
     simp only[];cases fitQ lim z.P 0 with
     | some j=>intro h;cases h;exact .inr rfl
     | none=>intro h;cases h
theorem Jic{p:Qg}{A:List Tri}{W:Int->List (List Rat)}(a:∀ x∈A,∃ z,stepQ p x.1 x.2.1 x.2.2=.inr z)(d:∀ i,∀ r∈W i,r.length=p.Tape.Ax.toNat):∀(i:Nat) (g:List Rat×List Rat) f,i<=A.length->g.1.length=p.Tape.Ax.toNat->lookQ p A W i g=.inl f->f.Au=3\/f.Au=6
 | 0,g,f,_,_,h=>by simp only[lookQ] at h;cases h
 | i+1,g,f,hi,s,h=>by
   have k:A[i]?=some (A[i]' om):=oi om;have j:=xa (l:=A) (n:=i) om;generalize A[i]' om=x at k j;obtain⟨z,m⟩:=a x j;obtain⟨_,k2,_⟩:=Qex m;simp only[lookQ] at h;rw[ou,k,ut] at h;have q:(foldA g.1 (W ((i+1:Nat):Int))).length=p.Tape.Ax.toNat:=Qjq s (d _);generalize foldA g.1 (W ((i+1:Nat):Int))=G at h q;cases hb:backThQ p x.1 x.2.1 x.2.2 G with
   | inl e=>
     rw[hb] at h;simp only[] at h;cases h;unfold backThQ at hb;rw[m] at hb;simp only[] at hb;rw[ol om] at hb;cases hd:bdoQ p.Tape p.Aq (limQ p.Av) x.1 x.2.1 (rv p.P) G z.ys with
     | inl t=>rw[hd] at hb;cases hb;have:=Jnq hd;exact this
     | inr y=>rw[hd] at hb;cases hb
   | inr b=>
     rw[hb] at h;simp only[] at h;exact Jic a d i (b.2.1,addQ g.2 b.2.2) f om (Q2c hb) h
theorem Q0t{p:Qg}:∀ {A:List Tri}{T E:Rat}{Y Z:List Rat},MCh p T Y A E Z->(Y.length:Int)=p.Tape.Ax->(∀ x∈A,(∃ z,stepQ p x.1 x.2.1 x.2.2=.inr z)/\(x.2.2.length:Int)=p.Tape.Ax)/\∀ i x,A[i]?=some x->(∀ y,A[i+1]?=some y->y.1=x.1+x.2.1)/\(A[i+1]?=none->E=x.1+x.2.1)
 | [],T,E,Y,Z,h,q=>⟨λx h=>(by cases h),λi x h=>by simp at h⟩
 | x::l,T,E,Y,Z,h,q=>by
   obtain⟨m,n,z,f,e⟩:=h;subst m;subst n;obtain⟨_,k2,_,r,_⟩:=Qex f;obtain⟨a1,a2⟩:=Q0t e (by rw[r];exact k2);refine⟨λy d=>?_,λi y d=>?_⟩;rcases xu.1 d with rfl | d;exact⟨⟨z,f⟩,k2⟩;exact a1 y d;cases i with
   | succ i=>
     rw[du] at d;obtain⟨j,k⟩:=a2 i y d;exact⟨λw a=>j w (by rw[du] at a;exact a),λa=>k (by rw[du] at a;exact a)⟩
   | zero=>
     rw[gj] at d;cases d;cases l with
     | nil=>
       obtain⟨c1,s⟩:=e;exact⟨λw a=>(by simp at a),λ_=>c1⟩
     | cons w l=>
       obtain⟨c1,_⟩:=e;exact⟨λv g=>(by simp at g;rw[<-g];exact c1),λa=>(by simp at a)⟩
theorem Q8r{p:Qg}:∀ {hs:List Rat}{i:Nat}{T:Rat}{Y:List Rat}{e:List TryQ}{z},marchQ p hs i T Y e=.inr z->(∀ t∈e,0<=t.A4)->∀ t∈z.1,0<=t.A4
 | [],i,T,Y,e,z,h,g=>by cases h;exact g
 | x::hs,i,T,Y,e,z,h,g=>by
   simp only[marchQ] at h;cases d:stepQ p T x Y with
   | inl f=>rw[d] at h;cases h
   | inr m=>
     rw[d] at h;refine Q8r h λt a=>?_;rcases yr.1 a with a | a;exact g t a;rw[xj.1 a];exact Rat.num_nonneg.1 (Jjn _)
theorem Jfr{p:Qg}{S Y:List Rat}{T:Rat}{z}(g:mayQ p Y S)(h:marchQ p S 0 T Y []=.inr z)(K:(z.2.2.length:Int)=p.Tape.Ax)(F:z.1.length<=200):Qee ⟨z.1.map toTry,toF z.2.1,toR z.2.2⟩:=by
 have cF:∀ q:Rat,canF (toF q):=λq=>by unfold canF;rw[Jc]
 have cR:∀(l:List Rat),∀ x∈toR l,canF x:=λl x a=>by obtain⟨q,_,rfl⟩:=xy.1 a;exact cF q
 have C:=Q8r h (λ_ h=>by cases h);obtain⟨l,m,n,s⟩:=Qvx h;rw[yw] at m;rw[<-m] at n s;obtain⟨c1,v⟩:=Q0t s g.2.1;obtain⟨⟨⟨G,I⟩,_⟩,_⟩:=g.1.1;have J:p.Tape.Ax<=6:=I;have H:1<=p.Tape.Ax:=G;have B:(toR z.2.2).length=p.Tape.Ax.toNat:=by rw[Jl];omega
 refine⟨⟨λt f r hr x a=>?_,λr hr x a=>?_⟩,⟨λt f=>?_,by show 1<=(toR z.2.2).length;omega,by show(toR z.2.2).length<=6;omega⟩,by show(z.1.map toTry).length<=200;rw[ot];exact F,λt f=>?_,λi t hi=>?_⟩;obtain⟨u,d,rfl⟩:=xy.1 f;rcases xu.1 hr with rfl | hr;simp only[toTry,xu,List.not_mem_nil,or_false] at a;rcases a with rfl | rfl | rfl | rfl<;>exact cF _;rw[xj.1 hr] at a;exact cR _ x a;rcases xu.1 hr with rfl | hr;rw[xj.1 a];exact cF _;rw[xj.1 hr] at a;exact cR _ x a;obtain⟨u,d,rfl⟩:=xy.1 f;have:=(c1 _ (ur d)).2;show(toR u.Y).length=(toR z.2.2).length;rw[Jl,B];simp only[] at this;omega;obtain⟨u,d,rfl⟩:=xy.1 f;have k:0<u.H:=Q0i.1 (g.2.2.1 u.H (by rw[<-n];exact ur d));show 0<fv (toF u.H)/\0<fv (toF u.H)/\fv (toF u.H)<=fv (toF u.H)/\0<=fv (toF u.A4);rw[Jc,Jc];exact⟨k,k,Rat.le_refl,C u d⟩;have e:(z.1.map toTry)[i]?=some t:=hi;rw[xr,Option.map_eq_some_iff] at e;obtain⟨u,d,rfl⟩:=e;refine⟨λ_=>?_,λE=>by cases E⟩;have j:(z.1.map λt:TryQ=>((t.T,t.H,t.Y):Tri))[i]?=some (u.T,u.H,u.Y):=by rw[xr,d];rfl
 obtain⟨y,A⟩:=v i _ j;show fv (match (z.1.map toTry)[i+1]? with | some u=>u.T | none=>toF z.2.1)=fv (toF u.T)+fv (toF u.H);rw[Jc,Jc,xr];cases hn:z.1[i+1]? with
 | some w=>
   show fv (toF w.T)=_;rw[Jc];exact y (w.T,w.H,w.Y) (by rw[xr,hn];rfl)
 | none=>
   show fv (toF z.2.1)=_;rw[Jc];exact A (by rw[xr,hn];rfl)
theorem Jco{l:List Jj}{N:Int}(h:∀ x∈l,x.Ay=N)(i:Int):rowsAt l i=if N=i then l.map (λx=>rv x.W) else []:=by unfold rowsAt;by_cases g:N=i;rw[oq g,List.filter_eq_self.2 (λx a=>by simp[h x a,g])];rw[ol g,List.filter_eq_nil_iff.2 (λx a=>by simp[h x a,g])];rfl
def leBody(l:List Qs)(ss:List Qb):(List Qa)×(List Jj)×Int->Option (Lp ((List Qa)×(List Jj)×Int) (Lp ((List Qa)×(List Jj)) Bool)):=λ(a:(List Qa)×(List Jj)×Int)=>
 bif decide (a.2.2<(l.length:Int)) then (
  (getI l a.2.2).bind λi=>
  (Kg big i.W).bind λe=>
  (X8 big ([a.1,e]:List (List Qa))).bind λd=>
  bif !d.2 then (
   (Ku big ).bind λf=>
   some (Lp.out (Lp.out (f))))
  else (
   (getI l a.2.2).bind λj=>
   (Kg big j.W).bind λg=>
   (appM 32 a.2.1 ([(⟨(ss.length:Int),g⟩:Jj)]:List Jj)).bind λk=>
   some (Lp.go (d.1,k,wrap64 (a.2.2+(1:Int))))))
 else (
  some (Lp.out (Lp.go (a.1,a.2.1))))
def leRow(x:Qs):List Rat:=rv (lkT x).W
def leLk(N:Int)(x:Qs):Jj:=⟨N,(lkT x).W⟩
theorem Jlj{l:List Qs}{ss:List Qb}{d:Nat}(H:l.length<=5)(hd:d<=300)(A:∀ x∈l,FR 129 (lkT x).W/\x.W.length<=6):∀(m i s:Nat),i+m=l.length->(∀ x∈l.take i,(lkT x).W.length=d)->m<s ->
 (loopM (leBody l ss) s (toR (foldA (List.replicate d 0) ((l.take i).map leRow)),(l.take i).map (leLk (ss.length:Int)),(i:Int))=some (.out true)) \/
 ((∀ x∈l,(lkT x).W.length=d)/\loopM (leBody l ss) s (toR (foldA (List.replicate d 0) ((l.take i).map leRow)),(l.take i).map (leLk (ss.length:Int)),(i:Int))=some (.go (toR (foldA (List.replicate d 0) (l.map leRow)),l.map (leLk (ss.length:Int))))):=by
 have hn:big<=big:=xm _;intro m
 induction m with
 | zero=>
   intro i s hi hp v;obtain rfl:i=l.length:=om
   rw[xh] at hp |-;refine .inr ⟨hp,Vv ?_ om⟩;unfold leBody;simp only[];rw[oj om,bifF]
 | succ m E=>
   intro i s hi hp v;obtain⟨n'',rfl⟩:∃ q,s=q+1:=⟨s - 1,om⟩
   have t:l[i]?=some (l[i]' om):=oi om;have B:=xa (l:=l) (n:=i) om;generalize l[i]' om=x at t B;obtain⟨w,F⟩:=A x B;have G:FR 129 (x.W.map tF):=w
   have hr:∀ r∈(l.take i).map leRow,QR 129 r/\r.length=d:=λr hr=>by obtain⟨y,f,rfl⟩:=xy.1 hr;exact⟨QR_rv (A y (ym f)).1 oz,by unfold leRow;rw[Jn,hp y f]⟩
   have C:QR 800 (foldA (List.replicate d 0) ((l.take i).map leRow)):=by refine Q8 (Qn4 (k:=129) (Qjn (xm 1)) λr h=>(hr r h).1) ?_;rw[ot,xi];have:min i l.length*(129+1)<=5*(129+1):=xc _ om;omega
   have j:(foldA (List.replicate d 0) ((l.take i).map leRow)).length=d:=Qjq oc λr h=>(hr r h).2;have e:=Qb2 (n:=big) (k:=800) (a:=toR (foldA (List.replicate d 0) ((l.take i).map leRow))) (b:=x.W.map tF) hn oz oz (K2 C) (K4 G om) (by rw[Jl,j];omega);rw[Jl,j,Vj] at e;by_cases p:(x.W.map tF).length=d
   case neg=>
    rw[ol (λg=>p g.symm)] at e;refine .inl (Vv ?_ om);unfold leBody;simp only[];rw[oo om,bifT,Jd t,sbind,Yt hn om,sbind,e,sbind,ow,bifT,w46];rfl
   rw[oq p.symm] at e;have u:leBody l ss (toR (foldA (List.replicate d 0) ((l.take i).map leRow)),(l.take i).map (leLk (ss.length:Int)),(i:Int))=some (.go (toR (foldA (List.replicate d 0) ((l.take (i+1)).map leRow)),(l.take (i+1)).map (leLk (ss.length:Int)),((i+1:Nat):Int))):=by unfold leBody;simp only[];rw[oo om,bifT,Jd t,sbind,Yt hn om,sbind,e,sbind,ov,bifF,sbind,Yt hn om,sbind,J9 oh oh,sbind,w1 om,Xe leRow t,Xe (leLk (ss.length:Int)) t,Qx5];rfl
   rw[Qbp u];refine E (i+1) n'' om (λy f=>?_) om;rw[Yn t] at f;rcases yr.1 f with f | f
   . exact hp y f
   . rw[xj.1 f];exact p
theorem Jdb(p:Qt)(h:Qv)(l:List Qs)(hB:Xm p)(hH:Zv h)(hlB:Z2 l):∃ n,Qbi n p h l=some true:=by
 refine⟨big,?_⟩;have hn:big<=big:=xm _;unfold Qbi;simp only[jn_eq];obtain⟨v,e1,e2⟩:=Qpr (p:=p) (h:=h) hn;rw[e1,sbind];cases v
 case true=>rw[bifT,bifT,w46];rfl
 obtain⟨⟨⟨t1,t2,t3⟩,⟨s1,s2,s3,s4,s5,s6⟩,p1⟩,hbits,g1,g2,g3,g4⟩:=e2 rfl;obtain⟨v,e5,e6⟩:=Qpt (l:=l) hn;rw[bifF,e5,sbind];cases v
 case true=>rw[bifT,w46];rfl
 obtain⟨u1,u2⟩:=e6 rfl;rw[bifF];obtain⟨b1,b2,b3,_⟩:=hH;have hw:=(Q6v (bits:=2000) hB oz (e2 rfl).1).mono (k:=2000) oz;have O:∀ t∈h.Ar,FT 6 (tTry t):=λt s=>Q23 (b1.2 t s) (g4 t s);have hyl:=g3.1;have hWl:∀ x∈l,x.W.length<=6:=λx f=>(u2 x f).1;have M:∀ x∈l,FR 129 (lkT x).W/\x.W.length<=6:=λx f=>⟨K4 (FR_tF (hlB.2 x f).2.1 (u2 x f)) oz,hWl x f⟩
 rw[Qrq hn om om om (by have:=s3.1;omega) (by have:=s4.1;omega) (by have:=s5.1;omega) (λr hr=>by have:=(s6 r hr).1;omega) (by have:=p1.1;omega),sbind,Qrr hn om om (λt s=>by have:=(O t s).2.2;rwa [show(tTry t).Y.length=t.Y.length from ot _] at this),sbind];rw[show(⟨(tP p).Tape,(tP p).Aq,(tP p).P,2000⟩:Qg)=⟨tT p.Tape,tS p.Aq,p.P.map tF,2000⟩ from rfl];generalize (⟨tT p.Tape,tS p.Aq,p.P.map tF,2000⟩:Qg)=q at hw |-;have hTl:(tHis h).Ar.length<=5:=by show(h.Ar.map tTry).length<=5;rw[ot];exact g1
 have C:∀ t∈(tHis h).Ar,FT 6 t:=λx f=>by obtain⟨t,s,rfl⟩:=xy.1 f;exact O t s
 have V:∀ t∈(tHis h).Ar,t.Y.length<=8:=λx f=>by obtain⟨t,s,rfl⟩:=xy.1 f;show(t.Y.map tF).length<=8;rw[ot];exact(g4 t s).2.1
 have T:Fk 6 (tHis h).T:=Fk_tF b2 g2;have U:FR 6 (tHis h).Y:=FR_tF b3 g3;have hTYl:(tHis h).Y.length<=8:=by show(h.Y.map tF).length<=8;rw[ot];exact hyl
 have hsz:((okR h.Ar).map (·.H)).length=(szs (tHis h)).length:=Jdx;rw[Q1u (h:=tHis h) (k:=6) hn oz oz om C T U om,Qj9 hn om];generalize hss:(okR h.Ar).map (·.H)=ss at *;generalize tHis h=y at *;have F:∀ t∈okT y.Ar,t∈y.Ar:=λt s=>(gp.1 s).1;have qT:qw (begT y)<=6:=by
  unfold begT;cases hr:okT y.Ar with
  | nil=>exact qw_fv T oz
  | cons t l=>exact qw_fv ((C t (F t (by rw[hr];exact .head _))).1 t.T (.head _)) oz
 have qY:QR 6 (begY y):=by
  unfold begY;cases hr:okT y.Ar with
  | nil=>exact QR_rv U oz
  | cons t l=>exact QR_rv (C t (F t (by rw[hr];exact .head _))).2.1 oz
 have qYl:(begY y).length<=8:=by
  unfold begY;cases hr:okT y.Ar with
  | nil=>show(rv y.Y).length<=8;rw[Jn];omega
  | cons t l=>show(rv t.Y).length<=8;rw[Jn];exact V t (F t (by rw[hr];exact .head _))
 have qS:QR 6 (szs y):=λr hr=>by obtain⟨t,s,rfl⟩:=xy.1 hr;exact qw_fv ((C t (F t s)).1 t.H oc) oz
 have qSl:(szs y).length<=5:=by have:=Qkg y.Ar;unfold szs;rw[ot];omega
 obtain⟨a1,a2⟩:=Q3r (p:=q) (a:=129) (j:=6) (k:=2000) (t:=toF (begT y)) (y:=toR (begY y)) (hs:=toR (szs y)) hn oz oz oz oz hw (Jq om) (K2 (Q8 qY oz)) (by rw[Jl];omega) (K2 qS);rw[Jc,Vj,Vj] at a1 a2;rw[a1,sbind];clear a1;by_cases E:mayQ q (begY y) (szs y)
 case neg=>
  rw[ol E];simp only[];rw[show Qx ⟨2,0,0,0⟩ ⟨0,0,0,0⟩=false from K9 oz,ow,bifT,w46];rfl
 rw[oq E];cases S:marchQ q (szs y) 0 (begT y) (begY y) [] with
 | inl g=>
   have hk:=a2 E g S;simp only[];rw[show Qx g ⟨0,0,0,0⟩=false by obtain⟨g1,g2,g3,g4⟩:=g;exact K9 hk,ow,bifT,w46];rfl
 | inr z=>
   clear a2;obtain⟨q1,q2,q3,q4⟩:=Jci (a:=129) (j:=6) om qS (Q8 qY oz) E.2.1 S;have hts:=Q2g (K:=1000) (m:=(begY y).length) (a:=129) (j:=6) oz om oz om qS (Q8 qY oz) rfl (λ_ h=>by cases h) S;have hz200:z.1.length<=200:=by rw[q4];simp;omega
   have hpast:=Jfr E S q3 hz200;obtain⟨l',l1,l2,l3⟩:=Qvx S;rw[yw] at l1;rw[<-l1] at l2 l3
   have R:∀ t∈(⟨z.1.map toTry,toF z.2.1,toR z.2.2⟩:Qy).Ar,FT 1000 t:=λt s=>by obtain⟨u,hu,rfl⟩:=xy.1 s;exact FT_TQ (hts u hu) om
   have Q:(⟨z.1.map toTry,toF z.2.1,toR z.2.2⟩:Qy).Ar.length<=200:=by show(z.1.map toTry).length<=200;rw[ot];exact hz200
   obtain⟨⟨⟨i1,i2⟩,⟨i3,i4⟩,i5⟩,_⟩:=E.1.1;have i2':q.Tape.Ax<=6:=i2;have i1':1<=q.Tape.Ax:=i1;have hT2:Fk 1000 (toF z.2.1):=Jq om;have hY2:FR 1000 (toR z.2.2):=K2 (Q8 q2 oz);have hYl:(toR z.2.2).length=q.Tape.Ax.toNat:=by rw[Jl];omega
   have L:tri ⟨z.1.map toTry,toF z.2.1,toR z.2.2⟩=z.1.map λt=>(t.T,t.H,t.Y):=Jib;have W:MCh q (begT y) (begY y) (tri ⟨z.1.map toTry,toF z.2.1,toR z.2.2⟩) z.2.1 z.2.2:=by rw[L];exact l3
   have hNl:(tri ⟨z.1.map toTry,toF z.2.1,toR z.2.2⟩).length=ss.length:=by rw[L,ot,hsz,<-l2,ot]
   have hws:=hw.mono (k:=2000) (xm _);simp only[];rw[Kz,ov,bifF,sbind];have B:(⟨z.1.map toTry,toF z.2.1,toR z.2.2⟩:Qy).Y.length=q.Tape.Ax.toNat:=hYl;have P:Fk 1000 (⟨z.1.map toTry,toF z.2.1,toR z.2.2⟩:Qy).T:=hT2;have I:FR 1000 (⟨z.1.map toTry,toF z.2.1,toR z.2.2⟩:Qy).Y:=hY2;rw[show(toR z.2.2).length=(⟨z.1.map toTry,toF z.2.1,toR z.2.2⟩:Qy).Y.length from rfl];generalize (⟨z.1.map toTry,toF z.2.1,toR z.2.2⟩:Qy)=H at *;rw[Qb6 hn om,sbind,B];rcases Jlj (l:=l) (ss:=ss) (d:=q.Tape.Ax.toNat) u1 om M l.length 0 big om oc (by unfold big;omega) with hlp | ⟨hall,hlp⟩
   . have e:=hlp
     unfold leBody at e;rw[gg] at e;rw[show toR (List.replicate q.Tape.Ax.toNat 0)=toR (foldA (List.replicate q.Tape.Ax.toNat 0) (([]:List Qs).map leRow)) from rfl];rw[show(([]:List Jj),(0:Int))=((([]:List Qs).map (leLk (ss.length:Int))),((0:Nat):Int)) from rfl,e,sbind,Qap]
   have e:=hlp;unfold leBody at e;rw[gg] at e;rw[show toR (List.replicate q.Tape.Ax.toNat 0)=toR (foldA (List.replicate q.Tape.Ax.toNat 0) (([]:List Qs).map leRow)) from rfl];rw[show(([]:List Jj),(0:Int))=((([]:List Qs).map (leLk (ss.length:Int))),((0:Nat):Int)) from rfl,e,sbind,Wv];clear e hlp
   have A:∀ r∈l.map leRow,QR 129 r/\r.length=q.Tape.Ax.toNat:=λr hr=>by obtain⟨x,f,rfl⟩:=xy.1 hr;exact⟨QR_rv (M x f).1 oz,by unfold leRow;rw[Jn,hall x f]⟩
   have hsq:QR 800 (foldA (List.replicate q.Tape.Ax.toNat 0) (l.map leRow)):=by refine Q8 (Qn4 (k:=129) (Qjn (xm 1)) λr h=>(A r h).1) ?_;rw[ot];have:l.length*(129+1)<=5*(129+1):=xc _ u1;omega
   have hsl:(foldA (List.replicate q.Tape.Ax.toNat 0) (l.map leRow)).length=q.Tape.Ax.toNat:=Qjq oc λr h=>(A r h).2;have X:(l.map (leLk (ss.length:Int))).length<=5:=by rw[ot];exact u1
   have Z:∀ x∈l.map (leLk (ss.length:Int)),FR 129 x.W/\x.W.length<=1000000:=λx f=>by obtain⟨w,G,rfl⟩:=xy.1 f;obtain⟨k1,k2⟩:=M w G;have k3:=hall w G;exact⟨k1,by show(lkT w).W.length<=_;omega⟩
   have Y:∀ x∈l.map (leLk (ss.length:Int)),x.Ay=(ss.length:Int):=λx f=>by obtain⟨w,_,rfl⟩:=xy.1 f;rfl
   have hszH:(szs H).length=ss.length:=by rw[Q7h,ot];exact hNl
   have hlook:LkR q H (l.map (leLk (ss.length:Int))):=by refine⟨E.1,⟨hpast,om,λx f=>?_⟩,om⟩;obtain⟨w,G,rfl⟩:=xy.1 f;refine⟨by show(0:Int)<=(ss.length:Int);omega,by show(ss.length:Int)<=_;omega,?_⟩;show(lkT w).W.length=_;rw[hall w G,B]
   have hsw:SwR q H (foldA (List.replicate q.Tape.Ax.toNat 0) (l.map leRow)):=⟨E.1,hpast,om,om⟩
   obtain⟨c1,c2,c3⟩:=Qqf (n:=big) (k:=2000) (p:=q) (h:=H) (l:=l.map (leLk (ss.length:Int))) hn oz oz hws Q (λt s=>Qwv (R t s) oz) (Wf P oz) (K4 I oz) om X Z;obtain⟨d1,d2,d3⟩:=Q5p (n:=big) (k:=2000) (p:=q) (h:=H) (w:=toR (foldA (List.replicate q.Tape.Ax.toNat 0) (l.map leRow))) (x:=2) hn oz oz hws Q (λt s=>Qwv (R t s) oz) (Wf P oz) (K4 I oz) om (K2 (Q8 hsq om)) (by rw[Jl];omega);rw[Vj] at d1 d2 d3;rw[c1,sbind,d1,sbind];clear c1 d1
   have hrows:∀ i,rowsAt (l.map (leLk (ss.length:Int))) i=if (ss.length:Int)=i then l.map leRow else []:=λi=>by rw[Jco Y i,yt];rfl
   have hrl:∀ i,∀ r∈rowsAt (l.map (leLk (ss.length:Int))) i,r.length=q.Tape.Ax.toNat:=λi r hr=>by
    rw[hrows i] at hr;by_cases g:(ss.length:Int)=i
    . rw[oq g] at hr;exact(A r hr).2
    . rw[ol g] at hr;cases hr
   have hst:=(Q0t W E.2.1).1;rcases J:Qb3 q H (l.map (leLk (ss.length:Int))) with e | r
   . have N:=c2 e J
     unfold Qb3 at J;rw[oq hlook] at J;have hk3:=Jic (λx f=>(hst x f).1) hrl (tri H).length _ e (xm _) (by simp;exact B) J;obtain⟨x1,x2,x3,x4⟩:=e;have hk3':x1=3\/x1=6:=hk3;simp only[];rw[K9 N,ow,bifT,bifT,oj om,ow,bifT,w46];rfl
   rcases hS:sweepQ q H (foldA (List.replicate q.Tape.Ax.toNat 0) (l.map leRow)) (cutI 2) with e | g
   . have N:=d2 e hS
     obtain⟨x1,x2,x3,x4⟩:=e;simp only[];rw[Kz,ov,bifF,K9 N,ow,bifT,oj oz,ow,bifT,w46];rfl
   obtain⟨f1,f2,_,_⟩:=c3 r J;unfold Qb3 at J;rw[oq hlook] at J;unfold sweepQ at hS;rw[oq hsw,Jfq W (cut_b 2).1] at hS;have hrg:r=g:=by
    refine Jcn (tri H).length _ r g (λj hj=>?_) J ?_ (xm _)
    . rw[hrows,ol om]
    . rw[hrows,oq om,B];exact hS
   subst hrg;simp only[];rw[Kz,ov,bifF,bifF,Qro (k:=800) hn oz oz (K2 f1) (K2 f1),sbind,oo rfl,bifT,Qro (k:=30000) hn om om (K2 f2) (K2 f2),sbind,oo rfl,bifT,w46];rfl
end Go.Proofs.YtjmfkenegjhohaaGreatDoor
