import Derived.Test.YtkkfedionkhgnaaGreatDoorModb
import Derived.Test.YtkkfedionkhgnaaGreatDoorP2
namespace Go.Proofs.YtkkfedionkhgnaaGreatDoor
open Go Go.RowKit
theorem Q7k{α:Type}{l:List α}{x:α}(h:l.length<9223372036854775807):getI (l++[x]) (wrap64 (((l++[x]).length:Int) - 1))=some x:=by rw[List.length_append,List.length_singleton,w64 (by omega) (by omega),show(((l.length+1:Nat):Int) - 1)=((l.length:Nat):Int) by omega,Qhy];simp
theorem Q9r{α:Type}{l:List α}{x:α}(h:l.length<9223372036854775807):sub (l++[x]) (0:Int) (wrap64 (((l++[x]).length:Int) - 1))=some l:=by rw[List.length_append,List.length_singleton,w64 (by omega) (by omega),show(((l.length+1:Nat):Int) - 1)=((l.length:Nat):Int) by omega,Qwl (by simp)];simp
def absQ(q:Rat):Rat:=if q.num<0 then -q else q
theorem Jc6(q:Rat):toF (absQ q)=⟨⟨false,(toF q).Num.Az⟩,(toF q).Den⟩:=by unfold absQ toF toW;split;rw[Quy,Q53,Int.natAbs_neg,decide_eq_false (by omega)];rw[decide_eq_false (by omega)]
theorem Q17{n k:Nat}{f:Qa}(hn:big≤n)(hk:k<1099511627776)(hf:Fk k f):Qkj n f=some (toF (absQ (fv f))):=by unfold Qkj;rw[K8 hn (Fk_Fw hf (by omega)),sbind,Jc6]
def maxQ(a b:Rat):Rat:=if 0<(b - a).num.sign then b else a
theorem Q0d{n k:Nat}{f g:Qa}(hn:big≤n)(h1:1≤k)(hk:k<1099511627776)(hf:Fk k f)(hg:Fk k g):Qkk n [f,g]=some (toF (maxQ (fv f) (fv g))):=by unfold Qkk;simp only[jn_eq,rangeL];have hF:Fk k (toF (fv f)):=Q6 (qw_fv hf h1);rw[Wu hn,sbind,show decide (((0:Nat):Int)=0)=true from rfl,bifT,bifT,K8 hn (Fk_Fw hf (by omega)),sbind,sbind];simp only[];rw[show decide (((0+1:Nat):Int)=0)=false from rfl,bifF,Qm9 hn h1 hk hg hF,sbind,Q1,bifd];unfold maxQ;split;rw[K8 hn (Fk_Fw hg (by omega)),sbind];rfl;rfl
def normQ(l:List Rat):Rat:=l.foldl (λb x=>maxQ b (absQ x)) 0
theorem Q4e(q:Rat):qw (absQ q)=qw q:=by unfold absQ;split;exact Qmr q;rfl
theorem Q9s{a b:Rat}{k:Nat}(ha:qw a≤k)(hb:qw b≤k):qw (maxQ a b)≤k:=by unfold maxQ;split<;>assumption
theorem Q18{n k:Nat}{a:List Qa}(hn:big≤n)(h1:1≤k)(hk:k<1099511627776)(ha:FR k a):Qf5 n a=some (toF (normQ (rv a))):=by
 unfold Qf5;have hq:∀(l:List Rat) (b:Rat),QR k l->qw b≤k->qw (l.foldl (λb x=>maxQ b (absQ x)) b)≤k:=by
  intro l
  induction l with
  | nil=>intro b _ hb;exact hb
  | cons x l ih=>intro b hl hb;exact ih _ (λq hq=>hl q (.tail _ hq)) (Q9s hb (by rw[Q4e];exact hl x (.head _)))
 rw[Wu hn,sbind,X2 (λi=>toF ((rv (a.take i)).foldl (λb x=>maxQ b (absQ x)) 0)) a,Wr,List.take_length];rfl;intro i x hx;have e1:a.take (i+1)=a.take i++[x]:=by rw[List.take_add_one,hx];rfl
 have e3:rv (a.take (i+1))=rv (a.take i)++[fv x]:=by unfold rv;rw[e1,List.map_append];rfl
 have hx1:=ha x (Jm hx);have hb:=hq (rv (a.take i)) 0 (QR_rv (λy hy=>ha y (List.mem_of_mem_take hy)) h1) (by rw[Zn];exact h1);rw[Q17 hn hk hx1,sbind,Q0d hn h1 hk (Q6 hb) (Q6 (by rw[Q4e];exact qw_fv hx1 h1)),sbind,e3,List.foldl_append,Q1,Q1];rfl;rfl
structure TryQ where
 T:Rat
 H:Rat
 A1:Rat
 Y:List Rat
noncomputable def marchQ(p:Qf):List Rat->Nat->Rat->List Rat->List TryQ->Qc ⊕ (List TryQ×Rat×List Rat)
 | [],_,T,Y,tr=>.inr (tr,T,Y)
 | h::hs,i,T,Y,tr=>match stepQ p T h Y with
   | .inl f=>.inl ⟨f.Aq,(i:Int)+1,f.Ax,f.At⟩
   | .inr z=>marchQ p hs (i+1) (T+h) z.next (tr++[⟨T,h,normQ z.err,Y⟩])
def toTry(t:TryQ):Qy:=⟨toF t.T,toF t.H,toF t.H,toF t.A1,toR t.Y,true⟩
def noH:Qs:=⟨[],⟨⟨false,[]⟩,[]⟩,[]⟩
def posQ(hs:List Rat):Prop:=(∀ h∈hs,0<h.num.sign)∧hs.length≤200
def mayQ(p:Qf)(Y hs:List Rat):Prop:=prbR p∧(Y.length:Int)=p.Tape.Au∧posQ hs
theorem Q0e{n k:Nat}{hs:List Qa}(hn:big≤n)(h1:1≤k)(hk:k<1048576)(hh:FR k hs):Qi0 n hs=some (dP (posQ (rv hs))):=by
 classical
 unfold Qi0;rw[Yx (λ_ (x:Qa)=>0<(fv x).num.sign) (r:=false),Qev];have e:(∀ a∈hs,0<(fv a).num.sign)↔∀ h∈rv hs,0<h.num.sign:=by constructor;intro g h hm;obtain⟨x,hx,rfl⟩:=List.mem_map.1 hm;exact g x hx;intro g x hx;exact g (fv x) (List.mem_map_of_mem hx)
 by_cases g:∀ a∈hs,0<(fv a).num.sign;rw[if_pos g];exact Qb5 ⟨λh=>⟨e.1 g,by rw[Q3];omega⟩,λh=>by have:=h.2;rw[Q3] at this;omega⟩;rw[if_neg g,dP_f λh=>g (e.2 h.1)];intro i x hx;rw[Qan hn h1 (by omega) (hh x (Jm hx)),sbind];constructor;intro h;rw[decide_eq_false (by omega)];rfl;intro h;rw[decide_eq_true (by omega)];rfl
theorem Q9t{k:Nat}{l:List Rat}(h1:1≤k)(h:QR k l):qw (normQ l)≤k:=by
 have key:∀(l:List Rat) (b:Rat),QR k l->qw b≤k->qw (l.foldl (λb x=>maxQ b (absQ x)) b)≤k:=by
  intro l
  induction l with
  | nil=>intro b _ hb;exact hb
  | cons x l ih=>intro b hl hb;exact ih _ (λq hq=>hl q (.tail _ hq)) (Q9s hb (by rw[Q4e];exact hl x (.head _)))
 exact key l 0 h (by rw[Zn];exact h1)
theorem Qjt{n j k a:Nat}{p:Qf}{t:Qa}{y hs:List Qa}(hn:big≤n)(h1:1≤a)(hj:1≤j)(hk:a+200*(j+1)+129≤k)(hk2:k<8000)(hw:PrbW k p)(ht:Fk a t)(hy:FR a y)(hyl:y.length≤1000)(hh:FR j hs):
 Zf n p t y hs=some (@ite _ (mayQ p (rv y) (rv hs)) (Classical.propDecidable _) (match marchQ p (rv hs) 0 (fv t) (rv y) [] with | .inl f=>(noH,f) | .inr z=>(⟨z.1.map toTry,toF z.2.1,toR z.2.2⟩,⟨0,0,0,0⟩)) (noH,⟨2,0,0,0⟩))∧(mayQ p (rv y) (rv hs)->∀ f,marchQ p (rv hs) 0 (fv t) (rv y) []=.inl f->f.Aq≠0):=by
 unfold Zf mayQ;simp only[jn_eq];rw[Qif hn (by omega) hk2 hw,sbind,bifnP,Q3];by_cases hr:prbR p
 case neg=>rw[if_neg hr,if_neg (λh=>hr h.1),bifT];exact⟨rfl,λh=>absurd h.1 hr⟩
 rw[if_pos hr];by_cases hl:(y.length:Int)=p.Tape.Au
 case neg=>rw[decide_eq_false hl,if_neg (λh=>hl h.2.1),Bool.not_false,bifT,bifT];exact⟨rfl,λh=>absurd h.2.1 hl⟩
 rw[decide_eq_true hl,Bool.not_true,bifF,Q0e (k:=j) hn (by omega) (by omega) hh,sbind];by_cases hp:posQ (rv hs)
 case neg=>rw[dP_f hp,if_neg (λh=>hp h.2.2),Bool.not_false,bifT];exact⟨rfl,λh=>absurd h.2.2 hp⟩
 rw[dP_t hp,if_pos ⟨hr,hl,hp⟩,Bool.not_true,bifF];have hlen:=hp.2;rw[Q3] at hlen;have hyq:=QR_rv hy h1;have htq:=qw_fv ht h1;rw[K8 hn (Fk_Fw ht (by omega)),sbind,Qb2 hn,sbind,Xx (k:=a) hn (by omega) (by omega) (Q6 (by rw[Qq7];exact h1)) hy (by omega),sbind,Q1,Qq6]
 have key:∀(hs:List Qa) (i:Nat) (T:Rat) (Y:List Rat) (tr:List TryQ),FR j hs->i+hs.length≤200->tr.length=i->qw T≤a+i*(j+1)->QR (max a 129) Y->(Y.length:Int)=p.Tape.Au →
  (rangeL (λ(i48:Nat) (x49:Qa) (s47:(List Qy)×Qa×(List Qa))=>
   (K4 n x49).bind λr51=>
   (Qcp n p s47.2.1 r51 s47.2.2).bind λr53=>
   bif !(Qo r53.2 (⟨0,0,0,0⟩:Qc)) then (
    some (Lp.out (((⟨[],(⟨(⟨false,[]⟩:Qg),[]⟩:Qa),[]⟩:Qs),(⟨r53.2.Aq,wrap64 ((i48:Int)+(1:Int)),r53.2.Ax,r53.2.At⟩:Qc)))))
   else (
    (Qf5 n r53.1.A1).bind λr55=>
    (appM 256 s47.1 ([(⟨s47.2.1,r51,r51,r55,s47.2.2,true⟩:Qy)]:List Qy)).bind λy57=>
    (K1 n s47.2.1 r51).bind λr59=>
    some (Lp.go (y57,r59,r53.1.A0)))) hs i (tr.map toTry,toF T,toR Y)).bind (lpK λ(s61:(List Qy)×Qa×(List Qa))=>
  some ((⟨s61.1,s61.2.1,s61.2.2⟩:Qs),(⟨0,0,0,0⟩:Qc)))=some (match marchQ p (rv hs) i T Y tr with | .inl f=>(noH,f) | .inr z=>(⟨z.1.map toTry,toF z.2.1,toR z.2.2⟩,⟨0,0,0,0⟩))∧∀ f,marchQ p (rv hs) i T Y tr=.inl f->f.Aq≠0:=by
  intro hs
  induction hs with
  | nil=>
    intro i T Y tr _ _ _ _ _ _;exact⟨rfl,λf h=>by cases h⟩
  | cons h hs ih=>
    intro i T Y tr hh hi htr hT hY hYl;rw[List.length_cons] at hi;have hh1:=hh h (.head _);have hb:i*(j+1)≤199*(j+1):=Nat.mul_le_mul_right _ (by omega);have hq:=qw_fv hh1 hj;simp only[rangeL,rv,List.map_cons,marchQ];rw[K8 hn (Fk_Fw hh1 (by omega)),sbind];obtain⟨d1,d2⟩:=Qla (p:=p) (t:=toF T) (h:=toF (fv h)) (y:=toR Y) hn (by omega) hk2 hw (Q6 (by omega)) (Q6 (by omega)) (J6 (Q8 hY (by omega)));rw[Q1,Q1,Kw] at d1 d2;rw[d1,sbind];cases hs':stepQ p T (fv h) Y with
    | inl f=>
      have hf:=d2 f hs';obtain⟨f1,f2,f3,f4⟩:=f;simp only[];rw[Jw hf,Bool.not_false,bifT,sbind,w1 (by omega)];exact⟨rfl,λg hg=>by cases hg;exact hf⟩
    | inr z=>
      obtain⟨_,_,z1,z2,z3⟩:=Qa0 hs';simp only[];rw[J2,Bool.not_true,bifF];show(((Qf5 n (toR z.err)).bind λr55=>(appM 256 (tr.map toTry) [(⟨toF T,toF (fv h),toF (fv h),r55,toR Y,true⟩:Qy)]).bind λy57=>(K1 n (toF T) (toF (fv h))).bind λr59=>some (Lp.go (y57,r59,toR z.next))).bind _).bind _=_∧_;rw[Q18 (k:=129) hn (by omega) (by omega) (J6 z3),sbind,Kw,Km (by simp;omega) (by simp;omega),sbind,Vd (k:=k) hn (by omega) (by omega) (Q6 (by omega)) (Q6 (by omega)),sbind,sbind,Q1,Q1];have e1:tr.map toTry++[(⟨toF T,toF (fv h),toF (fv h),toF (normQ z.err),toR Y,true⟩:Qy)]=(tr++[(⟨T,fv h,normQ z.err,Y⟩:TryQ)]).map toTry:=by rw[List.map_append];rfl
      rw[e1];refine ih (i+1) (T+fv h) z.next (tr++[⟨T,fv h,normQ z.err,Y⟩]) (λx hx=>hh x (.tail _ hx)) (by omega) (by simp;omega) ?_ (Q8 z1 (by omega)) (by rw[z2];exact hYl)
      have:=Yl hT hq;rw[Nat.succ_mul];omega
 have:=key hs 0 (fv t) (rv y) [] hh (by omega) rfl (by omega) (Q8 hyq (by omega)) (by rw[Q3];exact hl);exact⟨this.1,λ_=>this.2⟩
theorem Qr6{p:Qf}{a j:Nat}:∀ {hs:List Rat}{i:Nat}{T:Rat}{Y:List Rat}{tr:List TryQ}{z},qw T≤a+i*(j+1)->QR j hs->QR (max a 129) Y->(Y.length:Int)=p.Tape.Au->marchQ p hs i T Y tr=.inr z →
 qw z.2.1≤a+(i+hs.length)*(j+1)∧QR (max a 129) z.2.2∧(z.2.2.length:Int)=p.Tape.Au∧z.1.length=tr.length+hs.length
 | [],i,T,Y,tr,z,hT,hj,hY,hl,h=>by cases h;exact⟨hT,hY,hl,rfl⟩
 | x::hs,i,T,Y,tr,z,hT,hj,hY,hl,h=>by
   simp only[marchQ] at h;cases hs':stepQ p T x Y with
   | inl g=>rw[hs'] at h;cases h
   | inr w=>
     rw[hs'] at h;obtain⟨_,_,z1,z2,z3⟩:=Qa0 hs';have hx:=Yl hT (hj x (.head _));obtain⟨g1,g2,g3,g4⟩:=Qr6 (a:=a) (j:=j) (by rw[Nat.succ_mul];omega) (λq hq=>hj q (.tail _ hq)) (Q8 z1 (by omega)) (by rw[z2];exact hl) h;rw[List.length_cons];refine⟨by rw[show i+(hs.length+1)=i+1+hs.length by omega];exact g1,g2,g3,by rw[g4];simp;omega⟩
set_option maxRecDepth 100000
theorem Qp9{t:Ql}{lim:Int}{T H:Rat}{P U V:List Rat}(hlim:lim≤4096)(hm:t.Ar.length=U.length):∀ {r:List ((List Rat×Rat)×List Rat)}{i:Nat}{k z},(∀ a∈k,a.length=U.length)->tstagesQ t lim T H U V P r i k=.inr z->∀ a∈z,a.length=U.length
 | [],i,k,z,g,h=>by simp only[tstagesQ] at h;cases h;exact g
 | x::r,i,k,z,g,h=>by
   simp only[tstagesQ] at h;cases s:tstageQ t lim T H U V P x.2 x.1.1 x.1.2 i k with
   | inl f=>rw[s] at h;cases h
   | inr w=>
     rw[s] at h;have hw:w.length=U.length:=by
      unfold tstageQ at s;cases hf:fitQ lim (fromQ H U x.1.1 k) 0 with
      | some j=>rw[hf] at s;cases s
      | none=>
        rw[hf] at s;simp only[] at s;cases hp:pfieldQ t lim (T+H*x.1.2) x.2 P 0 (fromQ H U x.1.1 k) V with
        | inl e=>rw[hp] at s;cases s
        | inr q=>rw[hp] at s;cases s;rw[(Qyj hlim hp).2.1];exact hm
     exact Qp9 hlim hm (λa ha=>by
      rcases List.mem_append.1 ha with ha | ha;exact g a ha
      rw[List.mem_singleton.1 ha];exact hw) h
def FRr(k:Nat)(l:List Qe):Prop:=∀ f∈l,Wd f.N∧Wd f.D∧f.N.length≤k∧f.D.length≤k
theorem Qrb{many k:Nat}{l:List Qe}(hB:Jf l)(h:FL many k l):FRr k l:=λx hx=>by have hb:=hB.2 x hx;have:=h.2 x hx;exact⟨hb.2.1.2,hb.2.2.1.2,this.1,this.2⟩
theorem Fk_wd{k:Nat}{f:Qe}(h:Fk k (tF f)):Wd f.N∧Wd f.D∧f.N.length≤k∧f.D.length≤k:=⟨h.1,h.2.2.1,h.2.1,h.2.2.2⟩
theorem Q4f{α:Type}{l:List α}{i:Nat}{x:α}(h:l[i]?=some x):l.drop i=x::l.drop (i+1):=by have hi:=Kh h;rw[List.drop_eq_getElem_cons hi];congr 1;rw[List.getElem?_eq_getElem hi] at h;exact Option.some.inj h
set_option maxRecDepth 100000
def TQ(k m:Nat)(t:TryQ):Prop:=qw t.T≤k∧qw t.H≤k∧qw t.A1≤k∧QR k t.Y∧t.Y.length=m
theorem Qmi{p:Qf}{a j K m:Nat}(h1:1≤a):∀ {hs:List Rat}{i:Nat}{T:Rat}{Y:List Rat}{tr:List TryQ}{z},a+(i+hs.length)*(j+1)+129≤K->j≤K->qw T≤a+i*(j+1)->QR j hs->QR (max a 129) Y->Y.length=m->(∀ t∈tr,TQ K m t)->marchQ p hs i T Y tr=.inr z->∀ t∈z.1,TQ K m t
 | [],i,T,Y,tr,z,hK,hjK,hT,hj,hY,hl,htr,h=>by cases h;exact htr
 | x::hs,i,T,Y,tr,z,hK,hjK,hT,hj,hY,hl,htr,h=>by
   simp only[marchQ] at h;cases hs':stepQ p T x Y with
   | inl g=>rw[hs'] at h;cases h
   | inr w=>
     rw[hs'] at h;obtain⟨_,_,z1,z2,z3⟩:=Qa0 hs';have hx:=hj x (.head _);have hadd:=Yl hT hx;rw[List.length_cons] at hK;have hmul:i*(j+1)≤(i+(hs.length+1))*(j+1):=Nat.mul_le_mul_right _ (by omega);have hn129:=Q9t (k:=129) (l:=w.err) (by decide) z3;refine Qmi h1 (m:=m) (i:=i+1) (by rw[show i+1+hs.length=i+(hs.length+1) by omega];exact hK) hjK (by rw[Nat.succ_mul];omega) (λq hq=>hj q (.tail _ hq)) (Q8 z1 (by omega)) (by omega) (λt ht=>?_) h;rcases List.mem_append.1 ht with ht | ht;exact htr t ht;rw[List.mem_singleton.1 ht];exact⟨by show qw T≤K;omega,by show qw x≤K;omega,by show qw (normQ w.err)≤K;omega,Q8 hY (by omega),hl⟩
theorem Qw4{j k:Nat}{l:List Qe}(h:FRr j l)(hk:j≤k):FRr k l:=λf hf=>by obtain⟨a,b,c,d⟩:=h f hf;exact⟨a,b,by omega,by omega⟩
set_option maxRecDepth 100000
def szs(h:Qs):List Rat:=(okT h.Ao).map (fv ·.H)
set_option maxRecDepth 100000
theorem Q1g{α R:Type}{f:Nat->α->Unit->Option (Lp Unit R)}{K:Unit->Option R}(xs:List α)(hb:∀ i x,xs[i]?=some x->f i x ()=some (.go ())):(rangeL f xs 0 ()).bind (lpK K)=K ():=X2 (λ_=>()) xs hb rfl
set_option maxRecDepth 100000
theorem Qyw{n k:Nat}{h:Qs}(hn:big≤n)(h1:1≤k)(hk:k<1099511627776)(hl:h.Ao.length≤1000000)(ht:∀ t∈h.Ao,FT k t)(hT:Fk k h.T)(hY:FR k h.Y)(hYl:h.Y.length≤1000000):
 Qht n h=some (((okT h.Ao).map nT).map (·.T)++[toF (fv h.T)],((okT h.Ao).map nT).map (·.Y)++[toR (rv h.Y)]):=by
 have hle:=Qlc h.Ao;unfold Qht;rw[Qh3 hn h1 hk hl ht,sbind];generalize hA:(okT h.Ao).map nT=A;have hAl:A.length≤1000000:=by rw[←hA,List.length_map];omega
 rw[X2 (λi=>((A.take i).map (·.T),(A.take i).map (·.Y))) A];rw[List.take_length];show((K4 n h.T).bind _)=_;rw[K8 hn (Fk_Fw hT (by omega)),sbind,Km (by simp;omega) (by simp;omega),sbind,Qjs hn h1 hk hY hYl,sbind,Km (by simp;omega) (by simp;omega),sbind];intro i x hx;have hi:=Kh hx;rw[Km (by simp;omega) (by simp;omega),sbind,Km (by simp;omega) (by simp;omega),sbind,Qae (·.T) hx,Qae (·.Y) hx];rfl
theorem Qpq{n k:Nat}{h:Qs}(hn:big≤n)(h1:1≤k)(hk:k<1099511627776)(hl:h.Ao.length≤1000000)(ht:∀ t∈h.Ao,FT k t):Qfn n h=some (toR (szs h)):=by
 have hle:=Qlc h.Ao;unfold Qfn;rw[Qh3 hn h1 hk hl ht,sbind];have e:toR (szs h)=((okT h.Ao).map nT).map (·.H):=by unfold toR szs;rw[List.map_map,List.map_map];rfl
 rw[e];generalize hA:(okT h.Ao).map nT=A;have hAl:A.length≤1000000:=by rw[←hA,List.length_map];omega
 rw[X2 (λi=>(A.take i).map (·.H)) A];rw[List.take_length];rfl;intro i x hx;have hi:=Kh hx;rw[Km (by simp;omega) (by simp;omega),sbind,Qae (·.H) hx];rfl
set_option maxRecDepth 100000
theorem Q4g(l:List Qa)(i:Nat)(x:Qa):rv (l.set i x)=(rv l).set i (fv x):=by unfold rv;rw[List.map_set]
theorem Q6a(l:List Rat)(i:Nat)(x:Rat):(toR l).set i (toF x)=toR (l.set i x):=by unfold toR;rw[List.map_set]
theorem Q4h{k:Nat}{l:List Qa}{i:Nat}{x:Qa}(h:FR k l)(hx:Fk k x):FR k (l.set i x):=λy hy=>by rcases List.mem_or_eq_of_mem_set hy with hy | rfl;exact h y hy;exact hx
theorem Q0f{α:Type}{l:List α}{a:Int}(h0:0≤a)(h1:a<(l.length:Int)):∃ x,l[a.toNat]?=some x∧getI l a=some x:=by
 obtain⟨i,rfl⟩:∃ i:Nat,a=(i:Int):=⟨a.toNat,by omega⟩
 have hi:i<l.length:=by omega
 exact⟨l[i],by rw[Int.toNat_natCast];exact List.getElem?_eq_getElem hi,Qgb hi⟩
theorem Qpr{n b kc:Nat}{t:Ql}{done co gY gP:List Qa}{gT cF:Qa}{a:Int}(hn:big≤n)(h1:1≤kc)(hb:b+kc<1000000000)(hco:FR b co)(hc:Fk kc cF)(h0:0≤a)(ha:a<(co.length:Int)):
 ∃ co',Jh n t done co gT gY gP a cF=some (t,done,gT,co')∧rv co'=addAt (rv co) a (fv cF)∧FR (b+kc+1) co'∧co'.length=co.length:=by
 obtain⟨x,g1,g2⟩:=Q0f h0 ha;have hx:=hco x (List.mem_of_getElem? g1);have hq:=Yl (qw_fv (Vq hx (show b≤b+kc by omega)) (by omega)) (qw_fv hc h1);have hq2:qw (fv x+fv cF)≤b+kc+1:=by
  by_cases hb1:1≤b
  . exact Yl (qw_fv hx hb1) (qw_fv hc h1)
  . have hb0:b=0:=by omega
    subst hb0;have e:fv x=0:=by obtain⟨_,x2,_,x4⟩:=hx;obtain⟨⟨ng,ab⟩,dn⟩:=x;have e1:ab=[]:=List.eq_nil_of_length_eq_zero (by simpa using x2);have e2:dn=[]:=List.eq_nil_of_length_eq_zero (by simpa using x4);subst e1;subst e2;cases ng<;>decide +kernel
    rw[e,Rat.zero_add];have:=qw_fv hc h1;omega
 unfold Jh;rw[g2,sbind,Vd (k:=b+kc) hn (by omega) (by omega) (Vq hx (by omega)) (Vq hc (by omega)),sbind,sbind];refine⟨_,rfl,?_,Q4h (Js hco (by omega)) (Q6 hq2),List.length_set⟩;rw[Q4g,Q1];unfold addAt;rw[Qfw g1]
theorem Q4i{b kc:Nat}{l:List Rat}{a:Int}{c:Rat}(hb:1≤b)(h:QR b l)(hc:qw c≤kc):QR (b+kc+1) (addAt l a c):=
 Q9m (Q8 h (by omega)) (Yl (Vy h hb) hc)
theorem Q4j{n b:Nat}{t:Ql}{x:Qt}{i:Nat}{vs:List Rat}{co:List Qa}{s:BkS}(hn:big≤n)(hb1:129≤b)(hb:b<100000000)(hw:BkW b co s)(hx:t.Code[i]?=some x)(hm:mayR t i x)
 (hv:QR 129 vs) (hvl:i<vs.length) (hcl:co.length=vs.length) (hc:qw (s.co.getD i 0)≤129) (hy:(s.Y.length:Int)=t.Au) (hp:(s.P.length:Int)=t.Ay) :
 ∃ co',Xf n t (toR vs) co (toF s.T) (toR s.Y) (toR s.P) (i:Int)=some (t,toR vs,toF (Qcc x (s.co.getD i 0) (vs.getD i 0) vs s).T,co',toR (Qcc x (s.co.getD i 0) (vs.getD i 0) vs s).Y,toR (Qcc x (s.co.getD i 0) (vs.getD i 0) vs s).P)∧BkW (b+3000) co' (Qcc x (s.co.getD i 0) (vs.getD i 0) vs s)∧co'.length=co.length:=by
 obtain⟨w1,w2,w3,w4,w5⟩:=hw;have rd:=Qq3 hm;have hrow:vs[i]?=some vs[i]:=List.getElem?_eq_getElem hvl;obtain⟨cF,hcF⟩:∃ cF,co[i]?=some cF:=⟨co[i]'(by omega),List.getElem?_eq_getElem _⟩
 have ec:s.co.getD i 0=fv cF:=by rw[←w1];exact Qfw hcF
 rw[ec] at hc ⊢;have kcF:Fk b cF:=w2 cF (List.mem_of_getElem? hcF);have dA:x.Op=6∨x.Op=11∨x.Op=7∨x.Op=8∨x.Op=9∨x.Op=10->0≤x.A∧x.A<(i:Int):=λh=>rd _ (rdT_A h);have dB:x.Op=7∨x.Op=8∨x.Op=9∨x.Op=10->0≤x.B∧x.B<(i:Int):=λh=>rd _ (rdT_B h);have gA:x.Op=6∨x.Op=11∨x.Op=7∨x.Op=8∨x.Op=9∨x.Op=10->getI (toR vs) x.A=some (toF (vs.getD x.A.toNat 0)):=λh=>Qew (dA h).1 (by have:=(dA h).2;omega);have gB:x.Op=7∨x.Op=8∨x.Op=9∨x.Op=10->getI (toR vs) x.B=some (toF (vs.getD x.B.toNat 0)):=λh=>Qew (dB h).1 (by have:=(dB h).2;omega);have gI:getI (toR vs) (i:Int)=some (toF (vs.getD i 0)):=by
  have:=Qew (l:=vs) (r:=(i:Int)) (by omega) (by omega);rwa [Int.toNat_natCast] at this
 have qA:qw (vs.getD x.A.toNat 0)≤129:=Vy hv (by decide);have qB:qw (vs.getD x.B.toNat 0)≤129:=Vy hv (by decide);have qI:qw (vs.getD i 0)≤129:=Vy hv (by decide);unfold Xf Qcc;rw[Ki hx,sbind,Ki hcF,sbind,Qan (k:=b) hn (by omega) (by omega) kcF,sbind];simp only[bifd];have sg:(fv cF).num.sign=0↔fv cF=0:=by rw[Int.sign_eq_zero_iff_zero,Rat.num_eq_zero]
 by_cases c0:fv cF=0
 . rw[if_pos (sg.2 c0),if_pos c0]
   exact⟨co,rfl,⟨w1,Js w2 (by omega),by omega,Q8 w4 (by omega),Q8 w5 (by omega)⟩,rfl⟩
 rw[if_neg λg=>c0 (sg.1 g),if_neg c0];generalize vs.getD x.A.toNat 0=va at gA qA ⊢;generalize vs.getD x.B.toNat 0=vb at gB qB ⊢;generalize vs.getD i 0=vi at gI qI ⊢;have kc2:Fk 129 (toF (fv cF)):=Q6 hc;have kmono:FR (b+3000) co:=Js w2 (by omega);by_cases o2:x.Op=2
 . simp only[if_pos o2]
   have hq:=Yl w3 hc;rw[Vd (k:=b) hn (by omega) (by omega) (Q6 w3) kcF,sbind,Q1];exact⟨co,rfl,⟨w1,kmono,by show qw (s.T+fv cF)≤_;omega,Q8 w4 (by omega),Q8 w5 (by omega)⟩,rfl⟩
 simp only[if_neg o2];by_cases o3:x.Op=3
 . simp only[if_pos o3]
   obtain⟨a1,a2⟩:=Qyd hm o3;have q0:=Vy (i:=x.A.toNat) w4 (by omega);rw[Qew a1 (by omega),sbind,Vd (k:=b) hn (by omega) (by omega) (Q6 q0) kcF,sbind,sbind,Q1,Q6a];exact⟨co,rfl,⟨w1,kmono,by show qw s.T≤_;omega,Q8 (Q4i (by omega) w4 hc) (by omega),Q8 w5 (by omega)⟩,rfl⟩
 simp only[if_neg o3];by_cases o4:x.Op=4
 . simp only[if_pos o4]
   obtain⟨a1,a2⟩:=Qye hm o4;have q0:=Vy (i:=x.A.toNat) w5 (by omega);rw[Qew a1 (by omega),sbind,Vd (k:=b) hn (by omega) (by omega) (Q6 q0) kcF,sbind,sbind,Q1,Q6a];exact⟨co,rfl,⟨w1,kmono,by show qw s.T≤_;omega,Q8 w4 (by omega),Q8 (Q4i (by omega) w5 hc) (by omega)⟩,rfl⟩
 simp only[if_neg o4];have wrap:∀ {co':List Qa}{l:List Rat}{k:Nat},rv co'=l->FR k co'->k≤b+3000->BkW (b+3000) co' ⟨l,s.T,s.Y,s.P⟩:=λe hk hle=>⟨e,Js hk hle,by show qw s.T≤_;omega,Q8 w4 (by omega),Q8 w5 (by omega)⟩
 have one:∀(a:Int) (q:Rat) (kq:Nat),0≤a->a<(i:Int)->qw q≤kq->1≤kq->kq≤1300->∃ co',Jh n t (toR vs) co (toF s.T) (toR s.Y) (toR s.P) a (toF q)=some (t,toR vs,toF s.T,co')∧rv co'=addAt s.co a q∧FR (b+kq+1) co'∧co'.length=co.length:=λa q kq h0 h1 hq hk1 hk2=>by obtain⟨co',e1,e2,e3,e4⟩:=Qpr (n:=n) (t:=t) (done:=toR vs) (gT:=toF s.T) (gY:=toR s.Y) (gP:=toR s.P) hn hk1 (by omega) w2 (Q6 hq) h0 (by omega);rw[Q1,w1] at e2;exact⟨co',e1,e2,e3,e4⟩
 have two:∀(a a':Int) (q q':Rat) (kq kq':Nat),0≤a->a<(i:Int)->qw q≤kq->1≤kq->kq≤1300->0≤a'->a'<(i:Int)->qw q'≤kq'->1≤kq'->kq'≤1300->∃ co1 co',Jh n t (toR vs) co (toF s.T) (toR s.Y) (toR s.P) a (toF q)=some (t,toR vs,toF s.T,co1)∧Jh n t (toR vs) co1 (toF s.T) (toR s.Y) (toR s.P) a' (toF q')=some (t,toR vs,toF s.T,co')∧BkW (b+3000) co' ⟨addAt (addAt s.co a q) a' q',s.T,s.Y,s.P⟩∧co'.length=co.length:=λa a' q q' kq kq' h0 h1 hq hk1 hk2 h0' h1' hq' hk1' hk2'=>by
  obtain⟨co1,e1,e2,e3,e4⟩:=one a q kq h0 h1 hq hk1 hk2;obtain⟨co',f1,f2,f3,f4⟩:=Qpr (n:=n) (t:=t) (done:=toR vs) (gT:=toF s.T) (gY:=toR s.Y) (gP:=toR s.P) (a:=a') hn hk1' (by omega) e3 (Q6 hq') h0' (by omega);rw[Q1,e2] at f2;exact⟨co1,co',e1,f1,wrap f2 f3 (by omega),by omega⟩
 have send0:∀(a:Int),0≤a->a<(i:Int)->∃ co',Jh n t (toR vs) co (toF s.T) (toR s.Y) (toR s.P) a cF=some (t,toR vs,toF s.T,co')∧rv co'=addAt s.co a (fv cF)∧FR (b+129+1) co'∧co'.length=co.length:=λa h0 h1=>by obtain⟨y,g1,g2⟩:=Q0f (l:=co) h0 (by omega);have hy1:=w2 y (List.mem_of_getElem? g1);have hq:=Yl (qw_fv hy1 (by omega)) hc;unfold Jh;rw[g2,sbind,Vd (k:=b) hn (by omega) (by omega) hy1 kcF,sbind,sbind];refine⟨_,rfl,?_,Q4h (Js w2 (by omega)) (Q6 hq),List.length_set⟩;rw[Q4g,Q1,←w1];unfold addAt;rw[Qfw g1]
 have send1:∀ {co1:List Qa}{b1:Nat}(a:Int),b≤b1->b1<200000000->FR b1 co1->co1.length=co.length->0≤a->a<(i:Int)->∃ co',Jh n t (toR vs) co1 (toF s.T) (toR s.Y) (toR s.P) a cF=some (t,toR vs,toF s.T,co')∧rv co'=addAt (rv co1) a (fv cF)∧FR (b1+129+1) co'∧co'.length=co.length:=fun {co1 b1} a hb0 hb2 hk hl h0 h1=>by obtain⟨y,g1,g2⟩:=Q0f (l:=co1) h0 (by omega);have hy1:=hk y (List.mem_of_getElem? g1);have hq:=Yl (qw_fv hy1 (by omega)) hc;unfold Jh;rw[g2,sbind,Vd (k:=b1) hn (by omega) (by omega) hy1 (Vq kcF hb0),sbind,sbind];refine⟨_,rfl,?_,Q4h (Js hk (by omega)) (Q6 hq),by rw[List.length_set];exact hl⟩;rw[Q4g,Q1];unfold addAt;rw[Qfw g1]
 by_cases o6:x.Op=6
 . simp only[if_pos o6]
   obtain⟨co',e1,e2,e3,e4⟩:=one x.A (-fv cF) 129 (dA (by omega)).1 (dA (by omega)).2 (by rw[Qmr];exact hc) (by decide) (by decide);rw[Qdh hn (Fk_Fw kcF (by omega)),sbind,e1,sbind];exact⟨co',rfl,wrap e2 e3 (by omega),e4⟩
 simp only[if_neg o6];by_cases o7:x.Op=7
 . simp only[if_pos o7]
   obtain⟨co1,e1,e2,e3,e4⟩:=send0 x.A (dA (by omega)).1 (dA (by omega)).2;obtain⟨co',f1,f2,f3,f4⟩:=send1 x.B (by omega) (by omega) e3 e4 (dB (by omega)).1 (dB (by omega)).2;rw[e2] at f2;rw[e1,sbind];simp only[];rw[f1,sbind];exact⟨co',rfl,wrap f2 f3 (by omega),f4⟩
 simp only[if_neg o7];by_cases o8:x.Op=8
 . simp only[if_pos o8]
   obtain⟨co1,e1,e2,e3,e4⟩:=send0 x.A (dA (by omega)).1 (dA (by omega)).2;obtain⟨co',f1,f2,f3,f4⟩:=Qpr (n:=n) (t:=t) (done:=toR vs) (gT:=toF s.T) (gY:=toR s.Y) (gP:=toR s.P) (a:=x.B) (cF:=toF (-fv cF)) (kc:=129) hn (by decide) (by omega) e3 (Q6 (by rw[Qmr];exact hc)) (dB (by omega)).1 (by have:=(dB (by omega)).2;omega);rw[e2,Q1] at f2;rw[e1,sbind,Qdh hn (Fk_Fw kcF (by omega)),sbind];simp only[];rw[f1,sbind];exact⟨co',rfl,wrap f2 f3 (by omega),by omega⟩
 simp only[if_neg o8];by_cases o9:x.Op=9
 . simp only[if_pos o9]
   have q1:=X3 hc qB;have q2:=X3 hc qA;obtain⟨co1,co',e1,f1,f2,f3⟩:=two x.A x.B (fv cF*vb) (fv cF*va) 258 258 (dA (by omega)).1 (dA (by omega)).2 q1 (by decide) (by decide) (dB (by omega)).1 (dB (by omega)).2 q2 (by decide) (by decide);rw[gB (by omega),sbind,V3 (k:=b) hn (by omega) (by omega) kcF (Q6 (by omega)),sbind,Q1,e1,sbind];simp only[];rw[gA (by omega),sbind,V3 (k:=b) hn (by omega) (by omega) kcF (Q6 (by omega)),sbind,Q1,f1,sbind];exact⟨co',rfl,f2,f3⟩
 simp only[if_neg o9];by_cases o10:x.Op=10
 . simp only[if_pos o10]
   unfold Qd0;have q1:=Qq0 hc qB;have q2:=X3 q1 qI;have q3:qw (-(fv cF / vb*vi))≤387:=by rw[Qmr];omega
   obtain⟨co1,co',e1,f1,f2,f3⟩:=two x.A x.B (fv cF / vb) (-(fv cF / vb*vi)) 258 387 (dA (by omega)).1 (dA (by omega)).2 q1 (by decide) (by decide) (dB (by omega)).1 (dB (by omega)).2 q3 (by decide) (by decide);have hquo:∃ ok,Zk n cF (toF vb)=some (toF (fv cF / vb),ok):=by
    rw[Qdi (k:=b) hn (by omega) (by omega) kcF (Q6 (by omega)),Q1];by_cases hz:vb=0
    . rw[if_pos hz,hz,show fv cF / 0=0 by rw[Rat.div_def,Rat.inv_zero,Rat.mul_zero]];exact⟨_,rfl⟩
    . rw[if_neg hz];exact⟨_,rfl⟩
   obtain⟨ok,hquo⟩:=hquo;rw[gI,sbind,gB (by omega),sbind,hquo,sbind];simp only[];rw[e1,sbind,V3 (k:=258) hn (by omega) (by omega) (Q6 (by omega)) (Q6 (by omega)),sbind,Q1,Q1,Qdh hn (Fk_Fw (Q6 (k:=387) (by omega)) (by omega)),sbind,Q1];simp only[];rw[f1,sbind,sbind];exact⟨co',rfl,f2,f3⟩
 simp only[if_neg o10];by_cases o11:x.Op=11
 . simp only[if_pos o11]
   unfold Qd1;simp only[jn_eq,bifd];have hB8:x.B.natAbs≤8:=by unfold mayR at hm;rw[if_neg (show ¬ x.Op=1 by omega),if_neg (show ¬ x.Op=2 by omega),if_neg (show ¬ x.Op=3 by omega),if_neg (show ¬ x.Op=4 by omega),if_neg (show ¬ x.Op=6 by omega),if_pos o11] at hm;have h2:=hm.2.2;omega
   have qi:=Q30 (z:=x.B) hB8
   have key:∀ w:Rat,qw w≤1100->turnQ va vi x.B=w->∃ co',((Jp n x.B).bind λr22=>(Vi n r22 (toF w)).bind λr24=>(Vi n cF r24).bind λr26=>(Jh n t (toR vs) co (toF s.T) (toR s.Y) (toR s.P) x.A r26).bind λr28=>(some (r28.1,r28.2.1,r28.2.2.1,r28.2.2.2):Option (Ql×List Qa×Qa×List Qa)))=some (t,toR vs,toF s.T,co')∧BkW (b+3000) co' ⟨addAt s.co x.A (fv cF*((x.B:Rat)*turnQ va vi x.B)),s.T,s.Y,s.P⟩∧co'.length=co.length:=λw hw e=>by
    have q1:=X3 qi hw;have q2:=X3 hc q1;obtain⟨co',e1,e2,e3,e4⟩:=one x.A (fv cF*((x.B:Rat)*w)) 1230 (dA (by omega)).1 (dA (by omega)).2 (by omega) (by decide) (by decide);rw[Qh2 hn (by omega) (by omega),sbind,V3 (k:=1200) hn (by omega) (by omega) (Q6 (by omega)) (Q6 (by omega)),sbind,Q1,Q1,V3 (k:=b+1200) hn (by omega) (by omega) (Vq kcF (by omega)) (Q6 (by omega)),sbind,Q1,e1,sbind,e];exact⟨co',rfl,wrap e2 e3 (by omega),e4⟩
   rw[gI,sbind,Wu hn,sbind];by_cases h0:0<x.B
   . have hw1:=Qu0 qA (e:=x.B - 1) (by omega)
     obtain⟨co',k1,k2,k3⟩:=key (va ^ (x.B - 1)) (by omega) (by unfold turnQ;rw[if_pos h0]);rw[if_pos h0,gA (by omega),sbind,w64 (by omega) (by omega),Qjn (k:=129) hn (by omega) (by omega) (Q6 qA),sbind,Q1,if_neg (show ¬(x.B - 1 < -8∨8<x.B - 1∨(x.B - 1<0∧va=0)) by omega)];simp only[];rw[k1,sbind];exact⟨co',rfl,k2,k3⟩
   . rw[if_neg h0]
     by_cases h2:x.B<0
     . have hw1:=Qq0 qI qA
       have hquo:∃ ok,Zk n (toF vi) (toF va)=some (toF (vi / va),ok):=by
        rw[Qdi (k:=129) hn (by omega) (by omega) (Q6 (by omega)) (Q6 (by omega)),Q1,Q1];by_cases hz:va=0
        . rw[if_pos hz,hz,show vi / 0=0 by rw[Rat.div_def,Rat.inv_zero,Rat.mul_zero]];exact⟨_,rfl⟩
        . rw[if_neg hz];exact⟨_,rfl⟩
       obtain⟨ok,hquo⟩:=hquo;obtain⟨co',k1,k2,k3⟩:=key (vi / va) (by omega) (by unfold turnQ;rw[if_neg h0,if_pos h2]);rw[if_pos h2,gA (by omega),sbind,hquo,sbind];simp only[];rw[k1,sbind];exact⟨co',rfl,k2,k3⟩
     . obtain⟨co',k1,k2,k3⟩:=key 0 (by rw[Zn];omega) (by unfold turnQ;rw[if_neg h0,if_neg h2])
       rw[if_neg h2,k1,sbind];exact⟨co',rfl,k2,k3⟩
 simp only[if_neg o11];exact⟨co,rfl,⟨w1,kmono,by omega,Q8 w4 (by omega),Q8 w5 (by omega)⟩,rfl⟩
set_option maxRecDepth 100000
def pullQ(lim:Int)(code:List Qt)(vs:List Rat):Nat->BkS->Nat ⊕ BkS
 | 0,s=>.inr s
 | i+1,s=>match code[i]? with
   | none=>.inr s
   | some x=>if (qz (s.co.getD i 0):Int)≤lim then pullQ lim code vs i (Qcc x (s.co.getD i 0) (vs.getD i 0) vs s) else .inl i
def coQ(m:Nat)(outs:List Int)(w:List Rat):List Rat:=(List.zip outs w).foldl (λco z=>addAt co z.1 z.2) (List.replicate m 0)
def backQ(t:Ql)(lim:Int)(T:Rat)(Y P w:List Rat):(Int×Int×Nat) ⊕ (Rat×List Rat×List Rat):=
 match runQ lim T Y P t.Code 0 [] with
 | .inl e=>.inl (e.1,0,e.2)
 | .inr vs=>match pullQ lim t.Code vs vs.length ⟨coQ vs.length t.Ar w,0,List.replicate t.Au.toNat 0,List.replicate t.Ay.toNat 0⟩ with
   | .inl i=>.inl (6,2,i)
   | .inr s=>match fitQ lim (s.T::(s.Y++s.P)) 0 with
     | some j=>.inl (6,3,j)
     | none=>.inr (s.T,s.Y,s.P)
theorem Q19{n k:Nat}{t:Ql}{p:Va}{bits:Int}(hn:big≤n)(h1:129≤k)(hk:k<1048576)(ht:Qud n k t)(hT:Fk k p.T)(hY:FR k p.Y)(hP:FR k p.P)(hy:(p.Y.length:Int)=t.Au)(hp:(p.P.length:Int)=t.Ay):
 Qf4 n t p bits=some (match runQ (min (max bits 0) 4096) (fv p.T) (rv p.Y) (rv p.P) t.Code 0 [] with | .inl e=>([],⟨e.1,0,0,(e.2:Int)⟩) | .inr l=>(toR l,⟨0,0,0,0⟩)):=by
 obtain⟨r,h,w⟩:=ht;obtain⟨⟨d1,d2⟩,⟨d3,d4⟩,d5,d6⟩:=r.1;have eT:=qw_fv hT (by omega);have eY:=QR_rv hY (by omega);have eP:=QR_rv hP (by omega);unfold Qf4 Qco Wf;rw[K8 hn (Fk_Fw hT (by omega)),sbind,Zv hn (by omega) hY (by omega),sbind,Zv hn (by omega) hP (by omega),sbind,sbind,sbind];simp only[];obtain⟨g',e⟩:=Q3z (g:=⟨⟨0,0⟩,min (max bits 0) 4096⟩) hn h1 hk r h w eT eY eP (by rw[Q3];exact hy) (by rw[Q3];exact hp) (by simp only[];omega);rw[e,sbind];simp only[];cases runQ (min (max bits 0) 4096) (fv p.T) (rv p.Y) (rv p.P) t.Code 0 []<;>rfl
theorem Q4k(m:Nat):rv (List.replicate m (⟨⟨false,[]⟩,[]⟩:Qa))=List.replicate m 0:=by unfold rv;rw[List.map_replicate];congr 1
theorem Q4l(m k:Nat):FR k (List.replicate m (⟨⟨false,[]⟩,[]⟩:Qa)):=λx hx=>by rw[(List.mem_replicate.1 hx).2];exact⟨(λ_ h=>by cases h),Nat.zero_le _,(λ_ h=>by cases h),Nat.zero_le _⟩
theorem Qrc{n:Nat}{a b:Nat}(hn:big≤n)(ha:a≤300)(hb:b≤300):Qgw n (a:Int) (b:Int)=some (toF 0,toR (List.replicate a 0),toR (List.replicate b 0)):=by unfold Qgw;rw[Wu hn,sbind,Qb3 hn ha,sbind,Qb3 hn hb,sbind]
theorem Qyx{k m:Nat}(hk:1≤k):QR k (List.replicate m 0):=λq hq=>by rw[(List.mem_replicate.1 hq).2,Zn];exact hk
theorem Q9u{n:Nat}{t:Ql}{vs:List Rat}{F:Qa×List Qa×List Qa}(hn:big≤n)(ht:tapeR t)(hv:QR 129 vs)(hvl:vs.length=t.Code.length):∀(i:Nat) (m:Nat) (co:List Qa) (s:BkS) (g:Qh) (b:Nat),i≤vs.length->i<m->129≤b->b+i*3000<100000000->BkW b co s->co.length=vs.length->(s.Y.length:Int)=t.Au->(s.P.length:Int)=t.Ay->g.limit≤4096 →
 ∃ g' co',g'.limit=g.limit∧loopM (λ(s57:Ql×(List Qa)×(List Qa)×Qa×(List Qa)×(List Qa)×Qh×Int)=>
  bif decide ((0:Int)≤s57.2.2.2.2.2.2.2) then (
   (getI s57.2.2.1 s57.2.2.2.2.2.2.2).bind λy58=>
   (K4 n y58).bind λr60=>
   (Vc n s57.2.2.2.2.2.2.1 r60).bind λr62=>
   bif !r62.1 then (
    some (Lp.out (Lp.out (((⟨F.1,F.2.1,F.2.2⟩:Vb),(⟨(6:Int),0,(2:Int),s57.2.2.2.2.2.2.2⟩:Qc))))))
   else (
    (Xf n s57.1 s57.2.1 s57.2.2.1 s57.2.2.2.1 s57.2.2.2.2.1 s57.2.2.2.2.2.1 s57.2.2.2.2.2.2.2).bind λr64=>
    some (Lp.go (r64.1,r64.2.1,r64.2.2.2.1,r64.2.2.1,r64.2.2.2.2.1,r64.2.2.2.2.2,r62.2,wrap64 (s57.2.2.2.2.2.2.2 - (1:Int))))))
  else (
   some (Lp.out (Lp.go (s57.1,s57.2.1,s57.2.2.1,s57.2.2.2.1,s57.2.2.2.2.1,s57.2.2.2.2.2.1,s57.2.2.2.2.2.2.1))))) m (t,toR vs,co,toF s.T,toR s.Y,toR s.P,g,(i:Int) - 1) =
   some (match pullQ g.limit t.Code vs i s with | .inl j=>Lp.out (((⟨F.1,F.2.1,F.2.2⟩:Vb),(⟨6,0,2,(j:Int)⟩:Qc))) | .inr z=>Lp.go (t,toR vs,co',toF z.T,toR z.Y,toR z.P,g')) ∧
   ∀ z,pullQ g.limit t.Code vs i s=.inr z->qw z.T≤b+i*3000∧QR (b+i*3000) z.Y∧QR (b+i*3000) z.P∧z.Y.length=s.Y.length∧z.P.length=s.P.length:=by
 intro i
 induction i with
 | zero=>
   intro m co s g b _ hm hb1 _ hw _ _ _ _;refine⟨g,co,rfl,?_,?_⟩;simp only[pullQ];refine Yh ?_ hm;rw[decide_eq_false (show ¬(0:Int)≤((0:Nat):Int) - 1 by omega),bifF];intro z hz;simp only[pullQ] at hz;cases hz;exact⟨by have:=hw.t;omega,Q8 hw.y (by omega),Q8 hw.p (by omega),rfl,rfl⟩
 | succ i ih=>
   intro m co s g b hi hm hb1 hb2 hw hcl hy hp hg;have hx:t.Code[i]?=some (t.Code[i]'(by omega)):=List.getElem?_eq_getElem _;generalize t.Code[i]'(by omega)=x at hx;obtain⟨cF,hcF⟩:∃ cF,co[i]?=some cF:=⟨co[i]'(by omega),List.getElem?_eq_getElem _⟩
   have ec:s.co.getD i 0=fv cF:=by rw[←hw.c];exact Qfw hcF
   have kcF:Fk b cF:=hw.k cF (List.mem_of_getElem? hcF);have hq:=qw_fv kcF (by omega);obtain⟨m,rfl⟩:∃ q,m=q+1:=⟨m - 1,by omega⟩
   simp only[pullQ,hx];by_cases hf:(qz (s.co.getD i 0):Int)≤g.limit;have hc:qw (s.co.getD i 0)≤129:=by have:=qw_qz (q:=s.co.getD i 0) (b:=4096) (by omega);omega
   obtain⟨co',e1,e2,e3⟩:=Q4j (i:=i) hn hb1 (by omega) hw hx (ht.2.1 i x hx) hv (by omega) hcl hc hy hp;obtain⟨l1,l2,l3⟩:=Qlf (x:=x) (c:=s.co.getD i 0) (r:=vs.getD i 0) (vs:=vs) (s:=s);simp only[if_pos hf];rw[ec] at hf;obtain⟨g',co2,f1,f2,f3⟩:=ih m co' _ (noteG g (fv cF)) (b+3000) (by omega) (by omega) (by omega) (by omega) e2 (by omega) (by rw[l2];exact hy) (by rw[l3];exact hp) hg;refine⟨g',co2,f1,?_,λz hz=>?_⟩;refine(Qfu ?_).trans f2;rw[show((i+1:Nat):Int) - 1=(i:Int) by omega,decide_eq_true (show(0:Int)≤(i:Int) by omega),bifT,Ki hcF,sbind,K8 hn (Fk_Fw kcF (by omega)),sbind,Qj2 hn (by omega),sbind];simp only[];rw[decide_eq_true hf,Bool.not_true,bifF,e1,sbind,w64 (by omega) (by omega)];obtain⟨k1,k2,k3,k4,k5⟩:=f3 z hz;exact⟨by omega,Q8 k2 (by omega),Q8 k3 (by omega),by omega,by omega⟩;simp only[if_neg hf];rw[ec] at hf;refine⟨g,co,rfl,?_,λz hz=>by cases hz⟩;refine Yh ?_ (by omega);rw[show((i+1:Nat):Int) - 1=(i:Int) by omega,decide_eq_true (show(0:Int)≤(i:Int) by omega),bifT,Ki hcF,sbind,K8 hn (Fk_Fw kcF (by omega)),sbind,Qj2 hn (by omega),sbind];simp only[];rw[decide_eq_false hf,Bool.not_false,bifT]
theorem Q0g{n k kw:Nat}{t:Ql}{p:Va}{w:List Qa}{bits:Int}(hn:big≤n)(h1:129≤k)(hk:k<1048576)(hkw1:1≤kw)(hkw:kw≤1000000)(ht:Qud n k t)(hT:Fk k p.T)(hY:FR k p.Y)(hP:FR k p.P)(hw:FR kw w)(hy:(p.Y.length:Int)=t.Au)(hp:(p.P.length:Int)=t.Ay)(hwl:w.length=t.Ar.length):
 Qi1 n t p w bits=some (match backQ t (min (max bits 0) 4096) (fv p.T) (rv p.Y) (rv p.P) (rv w) with | .inl e=>(⟨toF 0,[],[]⟩,⟨e.1,0,e.2.1,(e.2.2:Int)⟩) | .inr z=>(⟨toF z.1,toR z.2.1,toR z.2.2⟩,⟨0,0,0,0⟩)) ∧
 (∀ e,backQ t (min (max bits 0) 4096) (fv p.T) (rv p.Y) (rv p.P) (rv w)=.inl e->e.1≠0)∧∀ z,backQ t (min (max bits 0) 4096) (fv p.T) (rv p.Y) (rv p.P) (rv w)=.inr z->QR 129 z.2.1∧QR 129 z.2.2∧(z.2.1.length:Int)=t.Au∧(z.2.2.length:Int)=t.Ay:=by
 have hd:=ht.r.1;obtain⟨⟨d1,d2⟩,⟨d3,d4⟩,d5,d6⟩:=hd;unfold Qi1 backQ;have z0:=Qrc (n:=n) (a:=0) (b:=0) hn (by decide) (by decide);rw[show((0:Nat):Int)=0 from rfl] at z0;rw[z0,sbind,decide_eq_true (show(w.length:Int)=(t.Ar.length:Int) by omega),Bool.not_true,bifF,Q19 hn h1 hk ht hT hY hP hy hp,sbind];cases hr:runQ (min (max bits 0) 4096) (fv p.T) (rv p.Y) (rv p.P) t.Code 0 [] with
 | inl e=>
   have hk:=Qpl hr;simp only[];rw[Jw (by omega),Bool.not_false,bifT];exact⟨rfl,(λg hg=>by cases hg;show e.1≠0;omega),λz hz=>by cases hz⟩
 | inr vs=>
   obtain⟨l1,l2⟩:=Qu2 (by omega) (λ_ h=>by cases h) hr;have hl:vs.length=t.Code.length:=by simpa using l1
   simp only[];rw[J2,Bool.not_true,bifF,Q2,Qje (by omega) (by omega),sbind];have zz:=Qrc (n:=n) (a:=t.Au.toNat) (b:=t.Ay.toNat) hn (by omega) (by omega);rw[Int.toNat_of_nonneg (by omega),Int.toNat_of_nonneg d3] at zz;rw[zz,sbind]
   have hout:∀(os:List Int) (i:Nat) (co:List Qa) (q:List Rat) (b:Nat) (K:Lp (Ql×(List Qa)×(List Qa)×Qa) (Vb×Qc)->Option (Vb×Qc)),(∀(j:Nat) o,os[j]?=some o->(0≤o∧o<(vs.length:Int))∧t.Ar[i+j]?=some o)->i+os.length=t.Ar.length->rv co=q->FR b co->co.length=vs.length->b+os.length*(kw+1)<1000000000 →
    ∃ co',(rangeL (λ(i27:Nat) (x28:Int) (s26:Ql×(List Qa)×(List Qa)×Qa)=>
      (getI w (i27:Int)).bind λy30=>
      (Jh n s26.1 s26.2.1 s26.2.2.1 s26.2.2.2 (toR (List.replicate t.Au.toNat 0)) (toR (List.replicate t.Ay.toNat 0)) x28 y30).bind λr32=>
      some (Lp.go (r32.1,r32.2.1,r32.2.2.2,r32.2.2.1))) os i (t,toR vs,co,toF 0)).bind K=K (.go (t,toR vs,co',toF 0))∧rv co'=(List.zip os ((rv w).drop i)).foldl (λco z=>addAt co z.1 z.2) q∧FR (b+os.length*(kw+1)) co'∧co'.length=vs.length:=by
    intro os
    induction os with
    | nil=>
      intro i co q b K _ _ e hb hc _;exact⟨co,rfl,by rw[List.zip_nil_left];exact e,Js hb (by omega),hc⟩
    | cons o os ih=>
      intro i co q b K hm hi e hb hc hlt;rw[List.length_cons] at hi hlt;obtain⟨⟨o1,o2⟩,o3⟩:=hm 0 o rfl;have hil:i<w.length:=by omega
      have hwi:w[i]?=some w[i]:=List.getElem?_eq_getElem hil;have hwm:=hw w[i] (List.getElem_mem hil);have hdrop:(rv w).drop i=fv w[i]::(rv w).drop (i+1):=by
       have hil2:i<(rv w).length:=by rw[Q3];exact hil
       rw[List.drop_eq_getElem_cons hil2];congr 1;exact List.getElem_map _
      generalize w[i]=wi at hwi hwm hdrop;have hmul:(os.length+1)*(kw+1)=os.length*(kw+1)+(kw+1):=Nat.succ_mul _ _;obtain⟨co1,s1,s2,s3,s4⟩:=Qpr (n:=n) (t:=t) (done:=toR vs) (gT:=toF 0) (gY:=toR (List.replicate t.Au.toNat 0)) (gP:=toR (List.replicate t.Ay.toNat 0)) (a:=o) hn hkw1 (by omega) hb hwm o1 (by omega)
      obtain⟨co',f1,f2,f3,f4⟩:=ih (i+1) co1 (addAt q o (fv wi)) (b+kw+1) K (λj o' hj=>by
       have:=hm (j+1) o' (by simpa using hj)
       rwa [show i+(j+1)=i+1+j by omega] at this) (by omega) (by rw[s2,e]) s3 (by omega) (by omega)
      refine⟨co',?_,?_,Js f3 (by rw[List.length_cons,hmul];omega),f4⟩
      . simp only[rangeL]
        rw[Ki hwi,sbind,s1,sbind];exact f1
      . rw[hdrop,List.zip_cons_cons,List.foldl_cons]
        exact f2
   have hkm:t.Ar.length*(kw+1)≤6*(kw+1):=Nat.mul_le_mul_right _ (by omega)
   obtain⟨co',f1,f2,f3,f4⟩:=hout t.Ar 0 (List.replicate vs.length ⟨⟨false,[]⟩,[]⟩) (List.replicate vs.length 0) 129 (lpK λ(s34:Ql×(List Qa)×(List Qa)×Qa)=>
    (Wf bits).bind λr35=>
    (loopM (λ(s57:Ql×(List Qa)×(List Qa)×Qa×(List Qa)×(List Qa)×Qh×Int)=>
     bif decide ((0:Int)≤s57.2.2.2.2.2.2.2) then (
      (getI s57.2.2.1 s57.2.2.2.2.2.2.2).bind λy58=>
      (K4 n y58).bind λr60=>
      (Vc n s57.2.2.2.2.2.2.1 r60).bind λr62=>
      bif !r62.1 then (
       some (Lp.out (Lp.out (((⟨toF 0,toR (List.replicate 0 0),toR (List.replicate 0 0)⟩:Vb),(⟨(6:Int),0,(2:Int),s57.2.2.2.2.2.2.2⟩:Qc))))))
      else (
       (Xf n s57.1 s57.2.1 s57.2.2.1 s57.2.2.2.1 s57.2.2.2.2.1 s57.2.2.2.2.2.1 s57.2.2.2.2.2.2.2).bind λr64=>
       some (Lp.go (r64.1,r64.2.1,r64.2.2.2.1,r64.2.2.1,r64.2.2.2.2.1,r64.2.2.2.2.2,r62.2,wrap64 (s57.2.2.2.2.2.2.2 - (1:Int))))))
     else (
      some (Lp.out (Lp.go (s57.1,s57.2.1,s57.2.2.1,s57.2.2.2.1,s57.2.2.2.2.1,s57.2.2.2.2.2.1,s57.2.2.2.2.2.2.1))))) n (s34.1,s34.2.1,s34.2.2.1,s34.2.2.2,toR (List.replicate t.Au.toNat 0),toR (List.replicate t.Ay.toNat 0),r35,wrap64 ((vs.length:Int) - (1:Int)))).bind (lpK λ(t55:Ql×(List Qa)×(List Qa)×Qa×(List Qa)×(List Qa)×Qh)=>
    (Qko (⟨t55.2.2.2.1,t55.2.2.2.2.1,t55.2.2.2.2.2.1⟩:Vb)).bind λr66=>
    (V5 n t55.2.2.2.2.2.2 r66).bind λr68=>
    bif !r68.2.1 then (
     some ((⟨toF 0,toR (List.replicate 0 0),toR (List.replicate 0 0)⟩:Vb),(⟨(6:Int),0,(3:Int),r68.1⟩:Qc)))
    else (
     some ((⟨t55.2.2.2.1,t55.2.2.2.2.1,t55.2.2.2.2.2.1⟩:Vb),(⟨0,0,0,0⟩:Qc))))) (λj o hj=>by rw[Nat.zero_add];exact⟨by have:=ht.r.2.2 o (Jm hj);omega,hj⟩) (by omega) (Q4k _) (Q4l _ _) (by simp) (by omega)
   rw[List.drop_zero] at f2;have hw0:BkW (129+t.Ar.length*(kw+1)) co' ⟨coQ vs.length t.Ar (rv w),0,List.replicate t.Au.toNat 0,List.replicate t.Ay.toNat 0⟩:=⟨f2,f3,by show qw 0≤_;rw[Zn];omega,Qyx (by omega),Qyx (by omega)⟩
   obtain⟨g',co2,p1,p2,p3⟩:=Q9u (F:=(toF 0,toR (List.replicate 0 0),toR (List.replicate 0 0))) hn ht.r l2 hl vs.length n co' _ ⟨⟨0,0⟩,min (max bits 0) 4096⟩ _ (Nat.le_refl _) (by unfold big at hn;omega) (by omega) (by omega) hw0 f4 (by simp;omega) (by simp;omega) (by show min (max bits 0) 4096≤4096;omega);refine⟨?_,?_,?_⟩
   . refine Eq.trans f1 ?_
     rw[Wr];unfold Wf;rw[sbind,w64 (by omega) (by omega)];simp only[] at p2 ⊢;rw[p2,sbind];cases hp:pullQ (min (max bits 0) 4096) t.Code vs vs.length ⟨coQ vs.length t.Ar (rv w),0,List.replicate t.Au.toNat 0,List.replicate t.Ay.toNat 0⟩ with
     | inl j=>rfl
     | inr z=>
       obtain⟨b1,b2,b3,b4,b5⟩:=p3 z hp;simp only[List.length_replicate] at b4 b5;simp only[];rw[Wr];unfold Qko;simp only[];rw[Km (by rw[Q2];simp;omega) (by rw[Q2];simp;omega),sbind,Km (by simp only[List.length_append,Q2,List.length_cons,List.length_nil];omega) (by simp only[List.length_append,Q2,List.length_cons,List.length_nil];omega),sbind,sbind];have el:[toF z.T]++toR z.Y++toR z.P=toR (z.T::(z.Y++z.P)):=by unfold toR;simp
       obtain⟨g2,r1,r2⟩:=Qoo (g:=g') (l:=z.T::(z.Y++z.P)) hn (λx hx=>by
        rcases List.mem_cons.1 hx with rfl | hx
        . omega
        . rcases List.mem_append.1 hx with hx | hx
          . have:=b2 x hx;omega
          . have:=b3 x hx;omega)
       rw[el,r2,sbind,p1];simp only[];cases fitQ (min (max bits 0) 4096) (z.T::(z.Y++z.P)) 0<;>rfl
   . intro e he
     cases hp:pullQ (min (max bits 0) 4096) t.Code vs vs.length ⟨coQ vs.length t.Ar (rv w),0,List.replicate t.Au.toNat 0,List.replicate t.Ay.toNat 0⟩ with
     | inl j=>rw[hp] at he;cases he;show(6:Int)≠0;decide
     | inr z=>
       rw[hp] at he;simp only[] at he;cases hf:fitQ (min (max bits 0) 4096) (z.T::(z.Y++z.P)) 0 with
       | some j=>rw[hf] at he;cases he;show(6:Int)≠0;decide
       | none=>rw[hf] at he;cases he
   . intro e he
     cases hp:pullQ (min (max bits 0) 4096) t.Code vs vs.length ⟨coQ vs.length t.Ar (rv w),0,List.replicate t.Au.toNat 0,List.replicate t.Ay.toNat 0⟩ with
     | inl j=>rw[hp] at he;cases he
     | inr z=>
       obtain⟨b1,b2,b3,b4,b5⟩:=p3 z hp;simp only[List.length_replicate] at b4 b5;rw[hp] at he;simp only[] at he;cases hf:fitQ (min (max bits 0) 4096) (z.T::(z.Y++z.P)) 0 with
       | some j=>rw[hf] at he;cases he
       | none=>
         rw[hf] at he;cases he;have hq:=Qj3 (by omega) hf;exact⟨λx hx=>hq x (.tail _ (List.mem_append_left _ hx)),λx hx=>hq x (.tail _ (List.mem_append_right _ hx)),by show(z.Y.length:Int)=_;omega,by show(z.P.length:Int)=_;omega⟩
set_option maxRecDepth 100000
def bslQ(As:List (List Rat))(b H:Rat)(W:List Rat)(i:Nat)(ls:List (List Rat)):List Rat:=
 scaleQ H (mixQ ((As.drop (i+1)).map λa=>a.getD i 0) ls (scaleQ b W))
def bstageQ(t:Ql)(lim:Int)(T H:Rat)(P y:List Rat)(c:Rat)(k:List Rat)(i:Nat):Qc ⊕ (List Rat×List Rat):=
 match fitQ lim k 0 with
 | some j=>.inl ⟨6,0,(i:Int),300+(j:Int)⟩
 | none=>match backQ t lim (T+H*c) y P k with
   | .inl e=>.inl ⟨e.1,0,(i:Int),(e.2.2:Int)⟩
   | .inr z=>.inr (z.2.1,z.2.2)
structure BdS where
 ls:List (List Rat)
 Y:List Rat
 P:List Rat
def bstagesQ(t:Ql)(s:Qv)(lim:Int)(T H:Rat)(P W:List Rat)(yss:List (List Rat)):Nat->BdS->Qc ⊕ BdS
 | 0,z=>.inr z
 | i+1,z=>match bstageQ t lim T H P (yss.getD i []) ((rv s.C).getD i 0) (bslQ (s.A.map rv) ((rv s.B).getD i 0) H W i z.ls) i with
   | .inl f=>.inl f
   | .inr g=>bstagesQ t s lim T H P W yss i ⟨g.1::z.ls,addQ z.Y g.1,addQ z.P g.2⟩
def bdoQ(t:Ql)(s:Qv)(lim:Int)(T H:Rat)(P W:List Rat)(yss:List (List Rat)):Qc ⊕ (List Rat×List Rat):=
 match bstagesQ t s lim T H P W yss s.B.length ⟨[],W,List.replicate P.length 0⟩ with
 | .inl f=>.inl f
 | .inr z=>match fitQ lim z.Y 0 with
   | some j=>.inl ⟨6,0,(s.B.length:Int),300+(j:Int)⟩
   | none=>match fitQ lim z.P 0 with
     | some j=>.inl ⟨6,0,(s.B.length:Int)+1,300+(j:Int)⟩
     | none=>.inr (z.Y,z.P)
theorem Jc7{out l:List Rat}{c:Rat}:addQ out (scaleQ c l)=List.zipWith (λx o=>o+c*x) l out:=by unfold addQ scaleQ;rw[List.zipWith_map_right,List.zipWith_comm]
theorem Qsr{n k:Nat}{a b c d:List Qa}(hn:big≤n)(h1:1≤k)(hk:k<1099511627776)(ha:FR k a)(hb:FR k b)(hc:FR k c)(hd:FR k d)(hl:a.length≤1000000)(hl2:b.length≤1000000):
 Qia n ⟨a,b⟩ ⟨c,d⟩=some (if a.length=c.length∧b.length=d.length then (⟨toR (addQ (rv a) (rv c)),toR (addQ (rv b) (rv d))⟩,true) else (⟨[],[]⟩,false)):=by
 unfold Qia;rw[Qaz hn h1 hk ha hc hl,sbind,Qaz hn h1 hk hb hd hl2,sbind];simp only[jn_eq];by_cases e1:a.length=c.length;by_cases e2:b.length=d.length;rw[if_pos e1,if_pos e2,if_pos ⟨e1,e2⟩];rfl;rw[if_pos e1,if_neg e2,if_neg (λh:a.length=c.length∧b.length=d.length=>e2 h.2)];rfl;rw[if_neg e1,if_neg (λh:a.length=c.length∧b.length=d.length=>e1 h.1)];rfl
section
variable {n k:Nat}{p:Qf}{t h:Qa}{y w:List Qa}{g:Qh}{md:Q4}{sm:Jk}
theorem Qr7{l:List Rat}{ys:List (List Qa)}{x2:Int}(hn:big≤n)(hl:QR 1099511627775 l)(hll:l.length≤1000):
 ∃ g',g'.limit=g.limit∧V7 n p t h w md ys sm g (toR l) x2=some (match fitQ g.limit l 0 with | none=>(⟨0,0,0,0⟩,g') | some j=>(⟨6,0,x2,300+(j:Int)⟩,g')):=by
 obtain⟨g',h1,h2⟩:=Qoo (g:=g) hn hl;refine⟨g',h1,?_⟩;unfold V7;rw[h2,sbind];cases hf:fitQ g.limit l 0 with
 | none=>rfl
 | some j=>
   have:=Qu4 hf;simp only[Bool.not_false,bifT];rw[w64 (by omega) (by omega)]
theorem Q4m{i:Nat}{b:Qa}{ls:List (List Rat)}{ys:List (List Qa)}(hn:big≤n)(h0:129≤k)(hk:k<8000)(ok:PrbOK n k p t h y)(hw:FR k w)(hwl:w.length=y.length)(hb:p.An.B[i]?=some b)(hls:ls.length+(i+1)=p.An.B.length)
 (hlq:∀ a∈ls,QR 129 a∧a.length=y.length) (hys:∀(q:Nat) a,ls[q]?=some a->ys[i+1+q]?=some (toR a)) :
 Zd n p t h w md ys sm g (i:Int)=some (toR (bslQ (p.An.A.map rv) (fv b) (fv h) (rv w) i ls))∧QR (21*k) (bslQ (p.An.A.map rv) (fv b) (fv h) (rv w) i ls)∧(bslQ (p.An.A.map rv) (fv b) (fv h) (rv w) i ls).length=w.length:=by
 obtain⟨⟨d1,d2⟩,⟨d3,d4⟩,d5,d6⟩:=ok.tp.r.1;obtain⟨⟨g1,g2⟩,g3,g4,g5,g6⟩:=ok.sr.2.1;have hyl:=ok.yl;have hbk:=ok.sw.b b (Jm hb);have hbq:=qw_fv hbk (by omega);have hHq:=qw_fv ok.hk (by omega);have q0:=Ql5 hbq (QR_rv hw (by omega));have l0:(scaleQ (fv b) (rv w)).length=w.length:=by rw[Zo,Q3]
 have loop:∀(r:List (List Qa)) (ls:List (List Rat)) (j m c:Nat) (out:List Rat),r.length=ls.length->j+r.length=p.An.B.length->(∀(q:Nat) a,r[q]?=some a->p.An.A[j+q]?=some a)->(∀(q:Nat) a,ls[q]?=some a->ys[j+q]?=some (toR a))->(∀ a∈ls,QR 129 a∧a.length=y.length)->i<j->QR c out->1≤c->c+r.length*(k+130)<100000000->out.length=y.length->r.length<m →
  loopM (λ(s64:(List Qa)×Int)=>
   bif decide (s64.2<(p.An.B.length:Int)) then (
    (getI p.An.A s64.2).bind λy65=>
    (getI y65 (i:Int)).bind λy67=>
    (getI ys s64.2).bind λy69=>
    (Wz n y67 y69).bind λr71=>
    (Zu n ([s64.1,r71]:List (List Qa))).bind λr73=>
    some (Lp.go (r73.1,wrap64 (s64.2+(1:Int)))))
   else (
    some (Lp.out s64.1))) m (toR out,(j:Int))=some (toR (mixQ (r.map λa=>(rv a).getD i 0) ls out)):=by
  intro r
  induction r with
  | nil=>
    intro ls j m c out hl hj _ _ _ _ _ _ _ _ hm;rw[List.length_nil] at hl hj hm;have:ls=[]:=List.eq_nil_of_length_eq_zero hl.symm;subst this;refine Yh ?_ hm;rw[decide_eq_false (by omega),bifF];rfl
  | cons a r ih=>
    intro ls j m c out hl hj hA hY hq hij hqo hc1 hc2 hol hm;rw[List.length_cons] at hl hj hm hc2;obtain⟨l,ls,rfl⟩:∃ l ls',ls=l::ls':=by
     cases ls with
     | nil=>simp at hl
     | cons l ls=>exact⟨l,ls,rfl⟩
    rw[List.length_cons] at hl;obtain⟨m,rfl⟩:∃ q,m=q+1:=⟨m - 1,by omega⟩
    have eA:p.An.A[j]?=some a:=hA 0 a rfl;have eY:ys[j]?=some (toR l):=hY 0 l rfl;obtain⟨lq,ll⟩:=hq l (.head _);have hal:=g6 j a eA;obtain⟨x,hx⟩:∃ x,a[i]?=some x:=⟨a[i]'(by omega),List.getElem?_eq_getElem _⟩
    have hxk:=ok.sw.a a (Jm eA) x (Jm hx);have hmul:(r.length+1)*(k+130)=r.length*(k+130)+(k+130):=Nat.succ_mul _ _;have q1:=Ql5 (qw_fv hxk (by omega)) lq;have q2:=Qq1 hqo q1;have e1:(addQ out (scaleQ (fv x) l)).length=y.length:=by rw[Qeu,Zo];omega
    refine(Qfu ?_).trans (ih ls (j+1) m (c+(k+129)+1) (addQ out (scaleQ (fv x) l)) (by omega) (by omega) (λq a' h'=>by have:=hA (q+1) a' (by simpa using h');rwa [show j+(q+1)=j+1+q by omega] at this) (λq a' h'=>by have:=hY (q+1) a' (by simpa using h');rwa [show j+(q+1)=j+1+q by omega] at this) (λa' h'=>hq a' (.tail _ h')) (by omega) q2 (by omega) (by omega) e1 (by omega)) |>.trans ?_
    simp only[];rw[decide_eq_true (by omega),bifT,Ki eA,sbind,Ki hx,sbind,Ki eY,sbind,Xx (k:=k) hn (by omega) (by omega) hxk (Js (J6 lq) h0) (by rw[Q2];omega),sbind,Kw,Qaz (k:=c+(k+129)) hn (by omega) (by omega) (J6 (Q8 hqo (by omega))) (J6 (Q8 q1 (by omega))) (by rw[Q2];omega),sbind,Q2,Q2,Zo,if_pos (by omega),Kw,Kw,w1 (by omega)];simp only[List.map_cons,mixQ];rw[Jc7,Qfw hx]
 have hdl:(p.An.A.drop (i+1)).length=ls.length:=by rw[List.length_drop];omega
 have hm8:ls.length*(k+130)≤8*(k+130):=Nat.mul_le_mul_right _ (by omega);have e0:=loop (p.An.A.drop (i+1)) ls (i+1) n (k+k) (scaleQ (fv b) (rv w)) hdl (by omega) (λq a h'=>by rwa [List.getElem?_drop] at h') hys hlq (by omega) q0 (by omega) (by rw[hdl];omega) (by omega) (by unfold big at hn;omega);have ea:((p.An.A.map rv).drop (i+1)).map (λa=>a.getD i 0)=(p.An.A.drop (i+1)).map λa=>(rv a).getD i 0:=by
  rw[←List.map_drop,List.map_map];rfl
 have hcs:QR k ((p.An.A.drop (i+1)).map λa=>(rv a).getD i 0):=λq hq=>by obtain⟨a,ha,rfl⟩:=List.mem_map.1 hq;exact Vy (QR_rv (ok.sw.a a (List.mem_of_mem_drop ha)) (by omega)) (by omega)
 have qm:=Qq2 (k:=129) hcs (λa ha=>(hlq a ha).1) q0;have lm:=Qgc (m:=w.length) (cs:=(p.An.A.drop (i+1)).map λa=>(rv a).getD i 0) (l:=ls) (λa ha=>by rw[(hlq a ha).2];omega) l0;have hm8':ls.length*(k+129+1)≤8*(k+129+1):=Nat.mul_le_mul_right _ (by omega);unfold bslQ;rw[ea];refine⟨?_,Q8 (Ql5 hHq qm) (by omega),by rw[Zo];exact lm⟩;unfold Zd;rw[Ki hb,sbind,Xx (k:=k) hn (by omega) (by omega) hbk hw (by omega),sbind,w1 (by omega),e0,sbind,Xx (k:=21*k) hn (by omega) (by omega) (Vq ok.hk (by omega)) (J6 (Q8 qm (by omega))) (by rw[Q2];omega),sbind,Kw]
theorem Q5j{i:Nat}{b c:Qa}{yi sY sP:List Rat}{ls yss:List (List Rat)}{ys ks0:List (List Qa)}{nx er:List Qa}{bb:Nat}(hn:big≤n)(h0:129≤k)(hk:k<8000)(ok:PrbOK n k p t h y)(hw:FR k w)(hwl:w.length=y.length)(hg:g.limit=limQ p.Ap)
 (hb:p.An.B[i]?=some b) (hc:p.An.C[i]?=some c) (hyi:yss[i]?=some yi) (hyq:QR 129 yi) (hyil:yi.length=y.length) (hls:ls.length+(i+1)=p.An.B.length)
 (hlq:∀ a∈ls,QR 129 a∧a.length=y.length) (hys:∀(q:Nat) a,ls[q]?=some a->ys[i+1+q]?=some (toR a)) (hysl:i<ys.length) (hb0:129≤bb) (hb1:bb<1000000) (qY:QR bb sY) (qP:QR bb sP) (lY:sY.length=y.length) (lP:sP.length=p.P.length) :
 ∃ g',g'.limit=g.limit∧∃ r,X6 n p t h w ⟨toRR yss,ks0,nx,er⟩ ys ⟨toR sY,toR sP⟩ g (i:Int)=some r ∧
   match bstageQ p.Tape (limQ p.Ap) (fv t) (fv h) (rv p.P) yi (fv c) (bslQ (p.An.A.map rv) (fv b) (fv h) (rv w) i ls) i with
   | .inl f=>r.1=f∧f.Aq≠0
   | .inr z=>r=(⟨0,0,0,0⟩,p,t,h,w,⟨toRR yss,ks0,nx,er⟩,⟨toR (addQ sY z.1),toR (addQ sP z.2)⟩,ys.set i (toR z.1),g')∧QR 129 z.1∧QR 129 z.2∧z.1.length=y.length∧z.2.length=p.P.length:=by
 obtain⟨⟨d1,d2⟩,⟨d3,d4⟩,d5,d6⟩:=ok.tp.r.1;obtain⟨⟨g1,g2⟩,g3,g4,g5,g6⟩:=ok.sr.2.1;have hyl:=ok.yl;have hpl:=ok.pl;have hck:=ok.sw.c c (Jm hc);have hi:=Kh hb;obtain⟨s1,s2,s3⟩:=Q4m (md:=⟨toRR yss,ks0,nx,er⟩) (sm:=⟨toR sY,toR sP⟩) (g:=g) hn h0 hk ok hw hwl hb hls hlq hys;unfold X6;rw[s1,sbind];generalize bslQ (p.An.A.map rv) (fv b) (fv h) (rv w) i ls=K at s2 s3;obtain⟨g',e1,e2⟩:=Qr7 (p:=p) (t:=t) (h:=h) (w:=w) (g:=g) (md:=⟨toRR yss,ks0,nx,er⟩) (sm:=⟨toR sY,toR sP⟩) (ys:=ys) (x2:=(i:Int)) hn (Q8 s2 (show 21*k≤1099511627775 by omega)) (by omega);refine⟨g',e1,?_⟩;rw[e2,sbind,hg];unfold bstageQ;cases hf:fitQ (limQ p.Ap) K 0 with
 | some j=>
   simp only[];rw[Jw (by decide),Bool.not_false,bifT];exact⟨_,rfl,rfl,by decide⟩
 | none=>
   simp only[];rw[J2,Bool.not_true,bifF];have hmul:=X3 (qw_fv ok.hk (by omega)) (qw_fv hck (by omega));have hadd:=Yl (qw_fv ok.tk (by omega)) hmul;rw[Qp7 hn h0 (by omega) ok.tk ok.hk hck hc,sbind,Ki (show(toRR yss)[i]?=some (toR yi) by unfold toRR;rw[List.getElem?_map,hyi];rfl),sbind];obtain⟨f1,f2,f3⟩:=Q0g (k:=22*k) (kw:=21*k) (t:=p.Tape) (p:=⟨toF (fv t+fv h*fv c),toR yi,p.P⟩) (w:=toR K) (bits:=p.Ap) hn (by omega) (by omega) (by omega) (by omega) ⟨ok.tp.r,ok.tp.h,λx hx=>Vq (ok.tp.w x hx) (by omega)⟩ (Q6 (by omega)) (J6 (Q8 hyq (by omega))) (Js ok.pk (by omega)) (J6 s2) (by simp only[Q2];omega) ok.pl (by rw[Q2];omega);rw[f1,sbind];simp only[] at f2 f3 ⊢;rw[Q1,Kw,Kw] at f2 f3 ⊢;have hlim:limQ p.Ap=min (max p.Ap 0) 4096:=rfl;rw[hlim];cases hq:backQ p.Tape (min (max p.Ap 0) 4096) (fv t+fv h*fv c) yi (rv p.P) K with
   | inl e=>
     have hkd:=f2 e hq;simp only[];rw[Jw hkd,Bool.not_false,bifT];exact⟨_,rfl,rfl,hkd⟩
   | inr z=>
     obtain⟨q1,q2,q3,q4⟩:=f3 z hq;simp only[];rw[J2,Bool.not_true,bifF,Qgb hysl,sbind,Qsr (k:=bb) hn (by omega) (by omega) (J6 qY) (J6 qP) (J6 (Q8 q1 hb0)) (J6 (Q8 q2 hb0)) (by rw[Q2];omega) (by rw[Q2];omega),sbind,Q2,Q2,Q2,Q2,if_pos ⟨by omega,by omega⟩,Kw,Kw,Kw,Kw,Int.toNat_natCast];exact⟨_,rfl,rfl,q1,q2,by omega,by omega⟩
abbrev BdSt:=Qf×Qa×Qa×(List Qa)×Q4×(List (List Qa))×Jk×Qh×Int
abbrev BdG:=Qf×Qa×Qa×(List Qa)×Q4×(List (List Qa))×Jk×Qh
abbrev BdR:=Qc×Qf×Qa×Qa×(List Qa)×Q4×Jk×(List (List Qa))×Qh
def bdBody(n:Nat)(s11:BdSt):Option (Lp BdSt (Lp BdG BdR)):=
    bif decide ((0:Int)≤s11.2.2.2.2.2.2.2.2) then (
     (X6 n s11.1 s11.2.1 s11.2.2.1 s11.2.2.2.1 s11.2.2.2.2.1 s11.2.2.2.2.2.1 s11.2.2.2.2.2.2.1 s11.2.2.2.2.2.2.2.1 s11.2.2.2.2.2.2.2.2).bind λr12=>
     bif !(Qo r12.1 (⟨0,0,0,0⟩:Qc)) then (
      some (Lp.out (Lp.out ((r12.1,r12.2.1,r12.2.2.1,r12.2.2.2.1,r12.2.2.2.2.1,r12.2.2.2.2.2.1,r12.2.2.2.2.2.2.1,r12.2.2.2.2.2.2.2.1,r12.2.2.2.2.2.2.2.2)))))
     else (
      some (Lp.go (r12.2.1,r12.2.2.1,r12.2.2.2.1,r12.2.2.2.2.1,r12.2.2.2.2.2.1,r12.2.2.2.2.2.2.2.1,r12.2.2.2.2.2.2.1,r12.2.2.2.2.2.2.2.2,wrap64 (s11.2.2.2.2.2.2.2.2 - (1:Int))))))
    else (
     some (Lp.out (Lp.go (s11.1,s11.2.1,s11.2.2.1,s11.2.2.2.1,s11.2.2.2.2.1,s11.2.2.2.2.2.1,s11.2.2.2.2.2.2.1,s11.2.2.2.2.2.2.2.1))))
def bdEnd(n:Nat)(x0_p:Qf)(t9:BdG):Option BdR:=
 (V7 n t9.1 t9.2.1 t9.2.2.1 t9.2.2.2.1 t9.2.2.2.2.1 t9.2.2.2.2.2.1 t9.2.2.2.2.2.2.1 t9.2.2.2.2.2.2.2 t9.2.2.2.2.2.2.1.Y (x0_p.An.B.length:Int)).bind λr14=>
 bif !(Qo r14.1 (⟨0,0,0,0⟩:Qc)) then (
  some (r14.1,t9.1,t9.2.1,t9.2.2.1,t9.2.2.2.1,t9.2.2.2.2.1,t9.2.2.2.2.2.2.1,t9.2.2.2.2.2.1,r14.2))
 else (
  (V7 n t9.1 t9.2.1 t9.2.2.1 t9.2.2.2.1 t9.2.2.2.2.1 t9.2.2.2.2.2.1 t9.2.2.2.2.2.2.1 r14.2 t9.2.2.2.2.2.2.1.P (wrap64 ((x0_p.An.B.length:Int)+(1:Int)))).bind λr16=>
  some (r16.1,t9.1,t9.2.1,t9.2.2.1,t9.2.2.2.1,t9.2.2.2.2.1,t9.2.2.2.2.2.2.1,t9.2.2.2.2.2.1,r16.2))
theorem Q9v(ys):Qak n p t h w md ys sm g=(loopM (bdBody n) n (p,t,h,w,md,ys,sm,g,wrap64 ((p.An.B.length:Int) - (1:Int)))).bind (lpK (bdEnd n p)):=Eq.symm (Eq.symm rfl)
structure BdOK(b m mp:Nat)(z:BdS):Prop where
 y:QR b z.Y
 p:QR b z.P
 yl:z.Y.length=m
 pl:z.P.length=mp
 l:∀ a∈z.ls,QR 129 a∧a.length=m
theorem Jc8{yss:List (List Rat)}{ks0:List (List Qa)}{nx er:List Qa}(hn:big≤n)(h0:129≤k)(hk:k<8000)(ok:PrbOK n k p t h y)(hw:FR k w)(hwl:w.length=y.length)
 (hyss:∀ a∈yss,QR 129 a∧a.length=y.length) (hyssl:yss.length=p.An.B.length):∀(i m:Nat) (g:Qh) (z:BdS) (ys:List (List Qa)) (b:Nat),i≤p.An.B.length->i<m->z.ls.length+i=p.An.B.length->ys.length=p.An.B.length->(∀(q:Nat) a,z.ls[q]?=some a->ys[i+q]?=some (toR a))->129≤b->b+i*130<1000000->BdOK b y.length p.P.length z->g.limit=limQ p.Ap →
 match bstagesQ p.Tape p.An (limQ p.Ap) (fv t) (fv h) (rv p.P) (rv w) yss i z with
 | .inl f=>∃ r,loopM (bdBody n) m (p,t,h,w,⟨toRR yss,ks0,nx,er⟩,ys,⟨toR z.Y,toR z.P⟩,g,(i:Int) - 1)=some (Lp.out r)∧r.1=f∧f.Aq≠0
 | .inr x=>∃ g' ys',g'.limit=limQ p.Ap∧loopM (bdBody n) m (p,t,h,w,⟨toRR yss,ks0,nx,er⟩,ys,⟨toR z.Y,toR z.P⟩,g,(i:Int) - 1)=some (Lp.go (p,t,h,w,⟨toRR yss,ks0,nx,er⟩,ys',⟨toR x.Y,toR x.P⟩,g'))∧BdOK (b+i*130) y.length p.P.length x:=by
 obtain⟨⟨g1,g2⟩,g3,g4,g5,g6⟩:=ok.sr.2.1;intro i
 induction i with
 | zero=>
   intro m g z ys b _ hm _ _ _ _ _ hz hg;simp only[bstagesQ];refine⟨g,ys,hg,Yh ?_ hm,⟨Q8 hz.y (by omega),Q8 hz.p (by omega),hz.yl,hz.pl,hz.l⟩⟩;unfold bdBody;simp only[];rw[decide_eq_false (by omega),bifF]
 | succ i ih=>
   intro m g z ys b hi hm hzl hysl hys hb0 hb1 hz hg;obtain⟨m,rfl⟩:∃ q,m=q+1:=⟨m - 1,by omega⟩
   obtain⟨bi,hbi⟩:∃ x,p.An.B[i]?=some x:=⟨p.An.B[i]'(by omega),List.getElem?_eq_getElem _⟩
   obtain⟨ci,hci⟩:∃ x,p.An.C[i]?=some x:=⟨p.An.C[i]'(by omega),List.getElem?_eq_getElem _⟩
   obtain⟨yi,hyi⟩:∃ x,yss[i]?=some x:=⟨yss[i]'(by omega),List.getElem?_eq_getElem _⟩
   obtain⟨yq,yl⟩:=hyss yi (Jm hyi);obtain⟨g',e1,r,e2,e3⟩:=Q5j (g:=g) (ks0:=ks0) (nx:=nx) (er:=er) (ys:=ys) (ls:=z.ls) (sY:=z.Y) (sP:=z.P) (bb:=b) hn h0 hk ok hw hwl hg hbi hci hyi yq yl (by omega) hz.l (λq a h'=>hys q a h') (by omega) hb0 (by omega) hz.y hz.p hz.yl hz.pl;simp only[bstagesQ];have ey:yss.getD i []=yi:=by rw[List.getD_eq_getElem?_getD,hyi];rfl
   rw[ey,Qfw hci,Qfw hbi]
   have eb:bdBody n (p,t,h,w,⟨toRR yss,ks0,nx,er⟩,ys,⟨toR z.Y,toR z.P⟩,g,((i+1:Nat):Int) - 1)=(bif !(Qo r.1 (⟨0,0,0,0⟩:Qc)) then (
    some (Lp.out (Lp.out ((r.1,r.2.1,r.2.2.1,r.2.2.2.1,r.2.2.2.2.1,r.2.2.2.2.2.1,r.2.2.2.2.2.2.1,r.2.2.2.2.2.2.2.1,r.2.2.2.2.2.2.2.2)))))
    else (
     some (Lp.go (r.2.1,r.2.2.1,r.2.2.2.1,r.2.2.2.2.1,r.2.2.2.2.2.1,r.2.2.2.2.2.2.2.1,r.2.2.2.2.2.2.1,r.2.2.2.2.2.2.2.2,wrap64 (((i+1:Nat):Int) - 1 - (1:Int)))))):=by
    unfold bdBody;simp only[];rw[decide_eq_true (by omega),bifT,show((i+1:Nat):Int) - 1=(i:Int) by omega,e2,sbind]
   cases hs:bstageQ p.Tape (limQ p.Ap) (fv t) (fv h) (rv p.P) yi (fv ci) (bslQ (p.An.A.map rv) (fv bi) (fv h) (rv w) i z.ls) i with
   | inl f=>
     rw[hs] at e3;obtain⟨e4,e5⟩:=e3;obtain⟨⟨f1,f2,f3,f4⟩,r⟩:=r;simp only[] at e4;subst e4;simp only[] at eb ⊢;rw[Jw e5,Bool.not_false,bifT] at eb;exact⟨_,Yh eb (by omega),rfl,e5⟩
   | inr x=>
     rw[hs] at e3;obtain⟨e4,e5,e6,e7,e8⟩:=e3;subst e4;simp only[] at eb ⊢;rw[J2,Bool.not_true,bifF,show((i+1:Nat):Int) - 1 - 1=(i:Int) - 1 by omega,w64 (by omega) (by omega)] at eb;rw[Qfu eb];have hmul:(i+1)*130=i*130+130:=Nat.succ_mul _ _
     have:=ih m g' ⟨x.1::z.ls,addQ z.Y x.1,addQ z.P x.2⟩ (ys.set i (toR x.1)) (b+130) (by omega) (by omega) (by show z.ls.length+1+i=_;omega) (by rw[List.length_set];exact hysl) (λq a h'=>by
      cases q with
      | zero=>
        simp only[List.getElem?_cons_zero,Option.some.injEq] at h';subst h';rw[Nat.add_zero,List.getElem?_set_self (by omega)]
      | succ q=>
        rw[List.getElem?_set_ne (by omega),show i+(q+1)=i+1+q by omega];exact hys q a (by simpa using h')) (by omega) (by omega) ⟨Q8 (Qq1 hz.y e5) (by omega),Q8 (Qq1 hz.p e6) (by omega),by show(addQ z.Y x.1).length=_;rw[Qeu,e7,hz.yl,Nat.min_self],by show(addQ z.P x.2).length=_;rw[Qeu,e8,hz.pl,Nat.min_self],λa ha=>by
        rcases List.mem_cons.1 ha with rfl | ha;exact⟨e5,e7⟩
        exact hz.l a ha⟩ (by omega)
     simp only[] at this;cases hr:bstagesQ p.Tape p.An (limQ p.Ap) (fv t) (fv h) (rv p.P) (rv w) yss i ⟨x.1::z.ls,addQ z.Y x.1,addQ z.P x.2⟩ with
     | inl f=>rw[hr] at this;exact this
     | inr v=>
       rw[hr] at this;obtain⟨g2',ys',a1,a2,a3⟩:=this;exact⟨g2',ys',a1,a2,by rw[hmul,show b+(i*130+130)=b+130+i*130 by omega];exact a3⟩
theorem Q9w{yss:List (List Rat)}{ks0 ys:List (List Qa)}{nx er:List Qa}(hn:big≤n)(h0:129≤k)(hk:k<8000)(ok:PrbOK n k p t h y)(hw:FR k w)(hwl:w.length=y.length)
 (hyss:∀ a∈yss,QR 129 a∧a.length=y.length) (hyssl:yss.length=p.An.B.length) (hysl:ys.length=p.An.B.length) (hg:g.limit=limQ p.Ap) :
 ∃ r,Qak n p t h w ⟨toRR yss,ks0,nx,er⟩ ys ⟨toR (rv w),toR (List.replicate p.P.length 0)⟩ g=some r ∧
   match bdoQ p.Tape p.An (limQ p.Ap) (fv t) (fv h) (rv p.P) (rv w) yss with
   | .inl f=>r.1=f∧f.Aq≠0
   | .inr z=>r.1=⟨0,0,0,0⟩∧r.2.2.2.2.2.2.1=⟨toR z.1,toR z.2⟩∧QR 129 z.1∧QR 129 z.2∧z.1.length=w.length∧z.2.length=p.P.length:=by
 obtain⟨⟨d1,d2⟩,⟨d3,d4⟩,d5,d6⟩:=ok.tp.r.1;obtain⟨⟨g1,g2⟩,g3,g4,g5,g6⟩:=ok.sr.2.1;have hyl:=ok.yl;have hpl:=ok.pl;have h1:=Jc8 (ks0:=ks0) (nx:=nx) (er:=er) hn h0 hk ok hw hwl hyss hyssl p.An.B.length n g ⟨[],rv w,List.replicate p.P.length 0⟩ ys k (Nat.le_refl _) (by unfold big at hn;omega) (by simp) hysl (λq a h'=>by simp at h') h0 (by omega) ⟨QR_rv hw (by omega),Qyx (by omega),by show(rv w).length=_;rw[Q3];exact hwl,by simp,λ_ h=>by cases h⟩ hg;rw[Q9v,w64 (by omega) (by omega)];unfold bdoQ;rw[Q3 p.P];simp only[] at h1;cases hs:bstagesQ p.Tape p.An (limQ p.Ap) (fv t) (fv h) (rv p.P) (rv w) yss p.An.B.length ⟨[],rv w,List.replicate p.P.length 0⟩ with
 | inl f=>
   rw[hs] at h1;obtain⟨r,e1,e2,e3⟩:=h1;rw[e1,sbind,Qft];exact⟨r,rfl,e2,e3⟩
 | inr z=>
   rw[hs] at h1;obtain⟨g',ys',a1,a2,a3⟩:=h1;rw[a2,sbind,Wr];unfold bdEnd;simp only[];obtain⟨g2',e1,e2⟩:=Qr7 (p:=p) (t:=t) (h:=h) (w:=w) (g:=g') (md:=⟨toRR yss,ks0,nx,er⟩) (sm:=⟨toR z.Y,toR z.P⟩) (ys:=ys') (x2:=(p.An.B.length:Int)) hn (Q8 a3.y (by omega)) (by rw[a3.yl];omega);rw[e2,sbind,a1];cases hf:fitQ (limQ p.Ap) z.Y 0 with
   | some j=>
     simp only[];rw[Jw (by decide),Bool.not_false,bifT];exact⟨_,rfl,rfl,by decide⟩
   | none=>
     simp only[];rw[J2,Bool.not_true,bifF,w1 (by omega)];obtain⟨g3',e3,e4⟩:=Qr7 (p:=p) (t:=t) (h:=h) (w:=w) (g:=g2') (md:=⟨toRR yss,ks0,nx,er⟩) (sm:=⟨toR z.Y,toR z.P⟩) (ys:=ys') (x2:=((p.An.B.length+1:Nat):Int)) hn (Q8 a3.p (by omega)) (by rw[a3.pl];omega);rw[e4,sbind,show g2'.limit=limQ p.Ap by omega];cases hf2:fitQ (limQ p.Ap) z.P 0 with
     | some j=>exact⟨_,rfl,rfl,by show(6:Int)≠0;decide⟩
     | none=>exact⟨_,rfl,rfl,rfl,Qj3 (by unfold limQ;omega) hf,Qj3 (by unfold limQ;omega) hf2,by rw[a3.yl,hwl],a3.pl⟩
end
noncomputable def backThQ(p:Qf)(T H:Rat)(Y W:List Rat):Qc ⊕ (MadeQ×List Rat×List Rat):=
 match stepQ p T H Y with
 | .inl f=>if f.Aq=2∨W.length≠Y.length then .inl ⟨2,0,0,0⟩ else .inl f
 | .inr z=>if W.length≠Y.length then .inl ⟨2,0,0,0⟩ else match bdoQ p.Tape p.An (limQ p.Ap) T H (rv p.P) W z.ys with
   | .inl f=>.inl f
   | .inr x=>.inr (z,x.1,x.2)
theorem Q1h:∀ {l:List Rat},addQ l (List.replicate l.length 0)=l
 | []=>rfl
 | a::l=>by have:=Q1h (l:=l);unfold addQ at this ⊢;rw[List.length_cons,List.replicate_succ,List.zipWith_cons_cons,this,Rat.add_zero]
theorem Qvj{n k:Nat}{p:Qf}{t h:Qa}{y w:List Qa}(hn:big≤n)(h0:129≤k)(hk:k<8000)(hw:PrbW k p)(ht:Fk k t)(hh:Fk k h)(hy:FR k y)(hu:FR k w):
 Qfm n p t h y w=some (match backThQ p (fv t) (fv h) (rv y) (rv w) with | .inl f=>(⟨[],[]⟩,f) | .inr z=>(⟨toR z.2.1,toR z.2.2⟩,⟨0,0,0,0⟩))∧(∀ f,backThQ p (fv t) (fv h) (rv y) (rv w)=.inl f->f.Aq≠0)∧∀ z,backThQ p (fv t) (fv h) (rv y) (rv w)=.inr z->stepQ p (fv t) (fv h) (rv y)=.inr z.1∧QR 129 z.2.1∧QR 129 z.2.2∧z.2.1.length=y.length∧z.2.2.length=p.P.length∧w.length=y.length:=by
 obtain⟨d1,d2⟩:=Qla hn h0 hk hw ht hh hy;unfold Qfm backThQ;simp only[jn_eq];rw[d1,sbind];cases hs:stepQ p (fv t) (fv h) (rv y) with
 | inl f=>
   have hf:=d2 f hs;obtain⟨f1,f2,f3,f4⟩:=f;simp only[];rw[Q3,Q3,bifd];by_cases c1:f1=2
   . rw[if_pos c1,if_pos (Or.inl c1)]
     exact⟨rfl,(λf h=>by cases h;show(2:Int)≠0;decide),λz h=>by cases h⟩
   rw[if_neg c1];by_cases c2:w.length=y.length
   case neg=>
    rw[decide_eq_false (show ¬(w.length:Int)=(y.length:Int) by omega),if_pos (.inr c2)];exact⟨rfl,(λf h=>by cases h;show(2:Int)≠0;decide),λz h=>by cases h⟩
   rw[decide_eq_true (show(w.length:Int)=(y.length:Int) by omega),Bool.not_true,bifF,Jw hf,Bool.not_false,bifT,if_neg (by rintro(g | g)<;>contradiction)];exact⟨rfl,(λf h=>by cases h;exact hf),λz h=>by cases h⟩
 | inr z=>
   obtain⟨r1,r2,r3,r4,r5⟩:=Qa0 hs;obtain⟨r6,r7⟩:=Qwu hs;rw[Q3] at r2;have ok:=hw.ok hn hk r1 ht hh hy r2;obtain⟨⟨d1,d2⟩,⟨d3,d4⟩,d5,d6⟩:=ok.tp.r.1;obtain⟨⟨g1,g2⟩,g3,g4,g5,g6⟩:=ok.sr.2.1;have hpl:=ok.pl;simp only[];rw[Q3,Q3,show decide ((0:Int)=2)=false from rfl,bifF];by_cases c2:w.length=y.length
   case neg=>
    rw[decide_eq_false (show ¬(w.length:Int)=(y.length:Int) by omega),if_pos c2];exact⟨rfl,(λf h=>by cases h;show(2:Int)≠0;decide),λz h=>by cases h⟩
   rw[decide_eq_true (show(w.length:Int)=(y.length:Int) by omega),Bool.not_true,bifF,J2,Bool.not_true,bifF,if_neg (by simp[c2])];rw[Qb3 hn (by omega),sbind,Qsr (k:=k) hn (by omega) (by omega) hu (λ_ h=>by cases h) (J6 (Qyx (by omega))) (λ_ h=>by cases h) (by omega) (by simp),sbind,if_pos ⟨by rw[Q2];simp,rfl⟩,Qje (by omega) (by omega),sbind];unfold Wf;rw[sbind,Qb3 hn (by omega),sbind,Kw];have ez:addQ (rv w) (List.replicate w.length 0)=rv w:=by
    have:=Q1h (l:=rv w);rwa [Q3] at this
   rw[ez];obtain⟨r,e1,e2⟩:=Q9w (g:=⟨⟨0,0⟩,min (max p.Ap 0) 4096⟩) (yss:=z.ys) (ks0:=toRR z.ks) (nx:=toR z.next) (er:=toR z.err) (ys:=List.replicate p.An.B.length []) hn h0 hk ok hu c2 (λa ha=>by have:=r6 a ha;rwa [Q3] at this) r7 (by simp) rfl;rw[show toM z=⟨toRR z.ys,toRR z.ks,toR z.next,toR z.err⟩ from rfl];simp only[];rw[e1,sbind];cases hd:bdoQ p.Tape p.An (limQ p.Ap) (fv t) (fv h) (rv p.P) (rv w) z.ys with
   | inl f=>
     rw[hd] at e2;obtain⟨e3,e4⟩:=e2;refine⟨?_,(λf h=>by cases h;exact e4),λz h=>by cases h⟩;simp only[];rw[e3];obtain⟨f1,f2,f3,f4⟩:=f;rw[Jw e4,Bool.not_false,bifT]
   | inr x=>
     rw[hd] at e2;obtain⟨e3,e4,e5,e6,e7,e8⟩:=e2;refine⟨?_,(λf h=>by cases h),λz h=>by cases h;exact⟨rfl,e5,e6,e7.trans c2,e8,c2⟩⟩;simp only[];rw[e3,e4,J2,Bool.not_true,bifF]
set_option maxRecDepth 100000
theorem Q7l{l:List Rat}{a:Int}:addAt l a 0=l:=by unfold addAt;rw[Rat.add_zero];by_cases h:a.toNat<l.length;rw[List.getD_eq_getElem?_getD,List.getElem?_eq_getElem h];exact List.set_getElem_self h;exact List.set_eq_of_length_le (by omega)
def bk1(x:Qt)(c r:Rat)(vs:List Rat)(s:BkS):BkS:=
 if x.Op=2 then ⟨s.co,s.T+c,s.Y,s.P⟩ else
 if x.Op=3 then ⟨s.co,s.T,addAt s.Y x.A c,s.P⟩ else
 if x.Op=4 then ⟨s.co,s.T,s.Y,addAt s.P x.A c⟩ else
 if x.Op=6 then ⟨addAt s.co x.A (-c),s.T,s.Y,s.P⟩ else
 if x.Op=7 then ⟨addAt (addAt s.co x.A c) x.B c,s.T,s.Y,s.P⟩ else
 if x.Op=8 then ⟨addAt (addAt s.co x.A c) x.B (-c),s.T,s.Y,s.P⟩ else
 if x.Op=9 then ⟨addAt (addAt s.co x.A (c*vs.getD x.B.toNat 0)) x.B (c*vs.getD x.A.toNat 0),s.T,s.Y,s.P⟩ else
 if x.Op=10 then ⟨addAt (addAt s.co x.A (c / vs.getD x.B.toNat 0)) x.B (-(c / vs.getD x.B.toNat 0*r)),s.T,s.Y,s.P⟩ else
 if x.Op=11 then ⟨addAt s.co x.A (c*((x.B:Rat)*turnQ (vs.getD x.A.toNat 0) r x.B)),s.T,s.Y,s.P⟩ else s
theorem Jfg{x:Qt}{c r:Rat}{vs:List Rat}{s:BkS}:Qcc x c r vs s=bk1 x c r vs s:=by
 by_cases h:c=0;subst h;unfold Qcc bk1;rw[if_pos rfl];have e1:-(0:Rat)=0:=by decide +kernel
 have e2:∀ w:Rat,0 / w=0:=λw=>by rw[Rat.div_def,Rat.zero_mul]
 simp only[e1,e2,Rat.zero_mul,Q7l,Rat.add_zero,ite_self];unfold Qcc bk1;rw[if_neg h]
theorem Qw5{lim:Int}{code:List Qt}{vs:List Rat}:∀ {i:Nat}{s z},pullQ lim code vs i s=.inr z->SameL s z
 | 0,s,z,h=>by simp only[pullQ] at h;cases h;exact⟨rfl,rfl,rfl⟩
 | i+1,s,z,h=>by
   simp only[pullQ] at h;cases hx:code[i]? with
   | none=>rw[hx] at h;cases h;exact⟨rfl,rfl,rfl⟩
   | some x=>
     rw[hx] at h;simp only[] at h;split at h
     case isFalse=>cases h
     have:=Qw5 h;obtain⟨a1,a2,a3⟩:=Qlf (x:=x) (c:=s.co.getD i 0) (r:=vs.getD i 0) (vs:=vs) (s:=s);exact⟨by rw[this.c,a1],by rw[this.y,a2],by rw[this.p,a3]⟩
theorem Jc9{m:Nat}{os:List Int}{w:List Rat}:(coQ m os w).length=m:=by
 unfold coQ;have:∀(l:List (Int×Rat)) (a:List Rat),(l.foldl (λco z=>addAt co z.1 z.2) a).length=a.length:=by
  intro l
  induction l with
  | nil=>intro a;rfl
  | cons x l ih=>intro a;rw[List.foldl_cons,ih,Qj5]
 rw[this];simp
theorem Q4n{t:Ql}{lim:Int}{T:Rat}{Y P w:List Rat}{z}(h:backQ t lim T Y P w=.inr z):∃ vs x,runQ lim T Y P t.Code 0 []=.inr vs∧pullQ lim t.Code vs vs.length ⟨coQ vs.length t.Ar w,0,List.replicate t.Au.toNat 0,List.replicate t.Ay.toNat 0⟩=.inr x∧z=(x.T,x.Y,x.P):=by
 unfold backQ at h;cases hr:runQ lim T Y P t.Code 0 [] with
 | inl e=>rw[hr] at h;cases h
 | inr vs=>
   rw[hr] at h;simp only[] at h;cases hp:pullQ lim t.Code vs vs.length ⟨coQ vs.length t.Ar w,0,List.replicate t.Au.toNat 0,List.replicate t.Ay.toNat 0⟩ with
   | inl e=>rw[hp] at h;cases h
   | inr x=>
     rw[hp] at h;simp only[] at h;cases hf:fitQ lim (x.T::(x.Y++x.P)) 0 with
     | some j=>rw[hf] at h;cases h
     | none=>rw[hf] at h;cases h;exact⟨vs,x,rfl,hp,rfl⟩
theorem Q4o{t:Ql}{lim:Int}{T:Rat}{Y P w:List Rat}{z}(h:backQ t lim T Y P w=.inr z):z.2.1.length=t.Au.toNat∧z.2.2.length=t.Ay.toNat:=by obtain⟨vs,x,_,h2,rfl⟩:=Q4n h;have:=Qw5 h2;exact⟨by rw[this.y];simp,by rw[this.p];simp⟩
theorem Jbp{As:List (List Rat)}{b H:Rat}{i:Nat}{W:List Rat}{l:List (List Rat)}(g:∀ a∈l,a.length=W.length):(bslQ As b H W i l).length=W.length:=by unfold bslQ;rw[Zo];exact Qgc g (by rw[Zo])
theorem Qv6{t:Ql}{lim:Int}{T H c:Rat}{P y k:List Rat}{i:Nat}{z}(h:bstageQ t lim T H P y c k i=.inr z):∃ x,backQ t lim (T+H*c) y P k=.inr x∧z=(x.2.1,x.2.2):=by
 unfold bstageQ at h;cases hf:fitQ lim k 0 with
 | some j=>rw[hf] at h;cases h
 | none=>
   rw[hf] at h;simp only[] at h;cases hb:backQ t lim (T+H*c) y P k with
   | inl e=>rw[hb] at h;cases h
   | inr x=>rw[hb] at h;cases h;exact⟨x,rfl,rfl⟩
structure BdL(m mp:Nat)(a:BdS):Prop where
 y:a.Y.length=m
 p:a.P.length=mp
 l:∀ x∈a.ls,x.length=m
theorem BdL.step{m mp:Nat}{a:BdS}(h:BdL m mp a){u v:List Rat}(hu:u.length=m)(hv:v.length=mp):BdL m mp ⟨u::a.ls,addQ a.Y u,addQ a.P v⟩:=
 ⟨by show(addQ a.Y u).length=_;rw[Qeu,h.y,hu,Nat.min_self],by show(addQ a.P v).length=_;rw[Qeu,h.p,hv,Nat.min_self],λx hx=>by
  rcases List.mem_cons.1 hx with rfl | hx;exact hu
  exact h.l x hx⟩
theorem Q4p{t:Ql}{s:Qv}{lim:Int}{T H:Rat}{P W:List Rat}{yss:List (List Rat)}{z}(h:bdoQ t s lim T H P W yss=.inr z):∃ x,bstagesQ t s lim T H P W yss s.B.length ⟨[],W,List.replicate P.length 0⟩=.inr x∧z=(x.Y,x.P):=by
 unfold bdoQ at h;cases hs:bstagesQ t s lim T H P W yss s.B.length ⟨[],W,List.replicate P.length 0⟩ with
 | inl f=>rw[hs] at h;cases h
 | inr x=>
   rw[hs] at h;simp only[] at h;cases hf:fitQ lim x.Y 0 with
   | some j=>rw[hf] at h;cases h
   | none=>
     rw[hf] at h;simp only[] at h;cases hf2:fitQ lim x.P 0 with
     | some j=>rw[hf2] at h;cases h
     | none=>rw[hf2] at h;cases h;exact⟨x,rfl,rfl⟩
theorem Qum{p:Qf}{T H:Rat}{Y W:List Rat}{z}(h:backThQ p T H Y W=.inr z):stepQ p T H Y=.inr z.1∧W.length=Y.length∧bdoQ p.Tape p.An (limQ p.Ap) T H (rv p.P) W z.1.ys=.inr z.2:=by
 unfold backThQ at h;cases hs:stepQ p T H Y with
 | inl f=>rw[hs] at h;simp only[] at h;split at h<;>cases h
 | inr m=>
   rw[hs] at h;simp only[] at h;by_cases hl:W.length=Y.length
   case neg=>rw[if_pos hl] at h;cases h
   rw[if_neg (by simp[hl])] at h;cases hd:bdoQ p.Tape p.An (limQ p.Ap) T H (rv p.P) W m.ys with
   | inl f=>rw[hd] at h;cases h
   | inr x=>rw[hd] at h;cases h;exact⟨rfl,hl,hd⟩
theorem Qv7{p:Qf}{T H:Rat}{Y W:List Rat}{z}(h:backThQ p T H Y W=.inr z):W.length=p.Tape.Au.toNat∧(rv p.P).length=p.Tape.Ay.toNat:=by obtain⟨a1,a2,_⟩:=Qum h;obtain⟨r1,r2,_⟩:=Qa0 a1;have:=r1.2.2;rw[Q3];omega
theorem Jbq{m j:Nat}:(List.replicate m (0:Rat)).getD j 0=0:=by rw[List.getD_eq_getElem?_getD,List.getElem?_replicate];split<;>rfl
set_option maxRecDepth 100000
theorem Qun{f:Nat->Rat}:∀ {i:Nat},sumN f (i+1)=f 0+sumN (λj=>f (j+1)) i
 | 0=>by simp only[sumN];grind
 | i+1=>by rw[sumN,Qun (i:=i),sumN];grind
theorem Qw6{f g:Nat->Rat}{c:Rat}:∀ {i:Nat},sumN (λj=>f j+c*g j) i=sumN f i+c*sumN g i
 | 0=>by simp only[sumN];grind
 | i+1=>by rw[sumN,sumN,sumN,Qw6];grind
theorem Qr8{f:Nat->Rat}{c:Rat}:∀ {i:Nat},sumN (λj=>c*f j) i=c*sumN f i
 | 0=>by simp only[sumN];grind
 | i+1=>by rw[sumN,sumN,Qr8];grind
theorem Wa{a b:List Rat}{i:Nat}:psum a b i=psum b a i:=Qcj λj _=>Rat.mul_comm _ _
theorem Qw7{c:Rat}{a b d:List Rat}{i:Nat}(h:b.length=a.length):psum d (linQ c a b) i=c*psum d a i+psum d b i:=by unfold psum;rw[Rat.add_comm,←Qw6];refine Qcj λj _=>?_;rw[Qc4 h];grind
theorem Qor{a b d:List Rat}{i:Nat}(h:b.length=a.length):psum d (addQ a b) i=psum d a i+psum d b i:=by
 have e:addQ a b=linQ 1 a b:=by unfold addQ linQ;congr 1;funext x y;rw[Rat.one_mul]
 rw[e,Qw7 h,Rat.one_mul]
theorem Qig{c:Rat}{a d:List Rat}{i:Nat}:psum d (scaleQ c a) i=c*psum d a i:=by
 unfold psum;rw[←Qr8];refine Qcj λj _=>?_;have e:(scaleQ c a).getD j 0=c*a.getD j 0:=by
  unfold scaleQ;rw[List.getD_eq_getElem?_getD,List.getD_eq_getElem?_getD,List.getElem?_map];cases a[j]? with
  | none=>show(0:Rat)=c*0;rw[Rat.mul_zero]
  | some x=>rfl
 rw[e];grind
theorem Qeb{d:List Rat}{m i:Nat}:psum d (List.replicate m 0) i=0:=by
 unfold psum
 induction i with
 | zero=>rfl
 | succ i ih=>rw[sumN,ih,Jbq];grind
theorem Q9x{x y:Rat}{a b:List Rat}{i:Nat}:psum (x::a) (y::b) (i+1)=x*y+psum a b i:=by unfold psum;rw[Qun];rfl
theorem Qos{m i:Nat}{d:List Rat}:∀ {cs:List Rat}{l:List (List Rat)}{z:List Rat},cs.length=l.length->(∀ a∈l,a.length=m)->z.length=m →
 psum d (mixQ cs l z) i=psum d z i+sumN (λj=>cs.getD j 0*psum d (l.getD j []) i) l.length
 | [],[],z,_,_,_=>by simp only[mixQ,List.length_nil,sumN];grind
 | [],_::_,_,h,_,_=>by simp at h
 | _::_,[],_,h,_,_=>by simp at h
 | c::cs,a::l,z,h,hl,hz=>by
   have ea:List.zipWith (λx o=>o+c*x) a z=linQ c a z:=by unfold linQ;congr 1;funext x o;rw[Rat.add_comm]
   have ha:=hl a (.head _);simp only[mixQ];rw[ea,Qos (by simpa using h) (λa' h'=>hl a' (.tail _ h')) (by rw[Qq9 (by omega)];exact ha),Qw7 (by omega),List.length_cons,Qun];simp only[List.getD_cons_zero,List.getD_cons_succ];grind
theorem Qyy{l:List Rat}{a:Int}{c:Rat}{j:Nat}:(addAt l a c).getD j 0=if j=a.toNat∧j<l.length then l.getD j 0+c else l.getD j 0:=by unfold addAt;generalize a.toNat=a;rw[List.getD_eq_getElem?_getD,List.getD_eq_getElem?_getD,List.getD_eq_getElem?_getD,List.getElem?_set];by_cases h:j=a;subst h;by_cases hl:j<l.length;rw[if_pos rfl,if_pos hl,if_pos ⟨rfl,hl⟩];rfl;rw[if_pos rfl,if_neg hl,if_neg (λh=>hl h.2),List.getElem?_eq_none (by omega)];rw[if_neg (λe=>h e.symm),if_neg (λe=>h e.1)]
theorem Qn0{l d:List Rat}{a:Int}{c:Rat}:∀ {i:Nat},a.toNat<i->a.toNat<l.length->psum (addAt l a c) d i=psum l d i+c*d.getD a.toNat 0
 | 0,h,_=>by omega
 | i+1,h,hl=>by
   rw[Qea,Qea,Qyy];by_cases e:a.toNat=i;have:psum (addAt l a c) d i=psum l d i:=Qcj λj hj=>by rw[Qyy,if_neg (by omega)]
   rw[this,if_pos ⟨e.symm,by omega⟩,e];grind;rw[Qn0 (by omega) hl,if_neg (by omega)];grind
theorem Q4q{t:Ql}{i:Nat}{x:Qt}(h:mayR t i x):x.Op=1∨x.Op=2∨x.Op=3∨x.Op=4∨x.Op=6∨x.Op=7∨x.Op=8∨x.Op=9∨x.Op=10∨x.Op=11:=by unfold mayR at h;by_cases c1:x.Op=1;omega;rw[if_neg c1] at h;by_cases c2:x.Op=2;omega;by_cases c3:x.Op=3;omega;by_cases c4:x.Op=4;omega;by_cases c6:x.Op=6;omega;by_cases c11:x.Op=11;omega;rw[if_neg c2,if_neg c3,if_neg c4,if_neg c6,if_neg c11] at h;have h2:=h.2.2;unfold rdT at h2;rw[if_neg (by omega)] at h2;by_cases c7:x.Op=7∨x.Op=8∨x.Op=9∨x.Op=10;omega;rw[if_neg c7] at h2;simp at h2
section
variable {t:Ql}{lim:Int}{T':Rat}{Y' P' vs ds:List Rat}
def inn(T':Rat)(Y' P' ds:List Rat)(s:BkS)(i:Nat):Rat:=psum s.co ds i+s.T*T'+psum s.Y Y' s.Y.length+psum s.P P' s.P.length
theorem Jbr{x:Qt}{i:Nat}{s:BkS}(hm:mayR t i x)(hs:ds.getD i 0=slopeQ x (vs.getD i 0) T' Y' P' vs ds)(hc:i≤s.co.length)(hy:(s.Y.length:Int)=t.Au)(hp:(s.P.length:Int)=t.Ay):
 inn T' Y' P' ds s (i+1)=inn T' Y' P' ds (Qcc x (s.co.getD i 0) (vs.getD i 0) vs s) i:=by
 have rd:=Qq3 hm;have dA:x.Op=6∨x.Op=11∨x.Op=7∨x.Op=8∨x.Op=9∨x.Op=10->0≤x.A∧x.A<(i:Int):=λh=>rd _ (rdT_A h);have dB:x.Op=7∨x.Op=8∨x.Op=9∨x.Op=10->0≤x.B∧x.B<(i:Int):=λh=>rd _ (rdT_B h);rw[Jfg];unfold inn;rw[Qea,hs];generalize s.co.getD i 0=c;generalize vs.getD i 0=r;have one:∀ q:Rat,x.A.toNat<i->psum (addAt s.co x.A q) ds i=psum s.co ds i+q*ds.getD x.A.toNat 0:=λq h=>Qn0 h (by omega)
 have two:∀ q q':Rat,x.A.toNat<i->x.B.toNat<i->psum (addAt (addAt s.co x.A q) x.B q') ds i=psum s.co ds i+q*ds.getD x.A.toNat 0+q'*ds.getD x.B.toNat 0:=λq q' h h'=>by rw[Qn0 h' (by rw[Qj5];omega),one q h]
 rcases Q4q hm with o | o | o | o | o | o | o | o | o | o<;>simp only[bk1,slopeQ,o,Int.reduceEq,if_false,if_true,↓reduceIte];grind;grind;have:=Qyd hm o;rw[Qj5,Qn0 (by omega) (by omega)];grind;have:=Qye hm o;rw[Qj5,Qn0 (by omega) (by omega)];grind;rw[one _ (by have:=dA (by omega);omega)];generalize ds.getD x.A.toNat 0=d1;grind;rw[two _ _ (by have:=dA (by omega);omega) (by have:=dB (by omega);omega)];generalize ds.getD x.A.toNat 0=d1;generalize ds.getD x.B.toNat 0=d2;grind;rw[two _ _ (by have:=dA (by omega);omega) (by have:=dB (by omega);omega)];generalize ds.getD x.A.toNat 0=d1;generalize ds.getD x.B.toNat 0=d2;grind;rw[two _ _ (by have:=dA (by omega);omega) (by have:=dB (by omega);omega)];generalize ds.getD x.A.toNat 0=d1;generalize ds.getD x.B.toNat 0=d2;generalize vs.getD x.A.toNat 0=v1;generalize vs.getD x.B.toNat 0=v2;grind;rw[two _ _ (by have:=dA (by omega);omega) (by have:=dB (by omega);omega)];simp only[Rat.div_def];generalize ds.getD x.A.toNat 0=d1;generalize ds.getD x.B.toNat 0=d2;generalize (vs.getD x.B.toNat 0)⁻¹=v2;grind;rw[one _ (by have:=dA (by omega);omega)];generalize ds.getD x.A.toNat 0=d1;generalize turnQ (vs.getD x.A.toNat 0) r x.B=tq;generalize (x.B:Rat)=e;grind
theorem Q4r{code:List Qt}:∀ {i:Nat}{s z},i≤code.length->i≤s.co.length->(s.Y.length:Int)=t.Au->(s.P.length:Int)=t.Ay →
 (∀(j:Nat) x,code[j]?=some x->mayR t j x∧ds.getD j 0=slopeQ x (vs.getD j 0) T' Y' P' vs ds)->pullQ lim code vs i s=.inr z->inn T' Y' P' ds s i=inn T' Y' P' ds z 0
 | 0,s,z,_,_,_,_,_,h=>by simp only[pullQ] at h;cases h;rfl
 | i+1,s,z,hi,hc,hy,hp,hm,h=>by
   have hx:code[i]?=some (code[i]'(by omega)):=List.getElem?_eq_getElem _;generalize code[i]'(by omega)=x at hx;obtain⟨m1,m2⟩:=hm i x hx;simp only[pullQ,hx] at h;split at h
   case isFalse=>cases h
   obtain⟨a1,a2,a3⟩:=Qlf (x:=x) (c:=s.co.getD i 0) (r:=vs.getD i 0) (vs:=vs) (s:=s);rw[Jbr m1 m2 (by omega) hy hp];exact Q4r (by omega) (by omega) (by rw[a2];exact hy) (by rw[a3];exact hp) hm h
end
theorem Qa3{l:List Rat}{i j:Nat}(h:j<i):(l.take i).getD j 0=l.getD j 0:=by rw[List.getD_eq_getElem?_getD,List.getD_eq_getElem?_getD,List.getElem?_take,if_pos h]
theorem Q7m{t:Ql}{x:Qt}{i:Nat}{q T:Rat}{Y P vs ds:List Rat}(hm:mayR t i x):slopeQ x q T Y P (vs.take i) (ds.take i)=slopeQ x q T Y P vs ds:=by
 have rd:=Qq3 hm;have dA:x.Op=6∨x.Op=11∨x.Op=7∨x.Op=8∨x.Op=9∨x.Op=10->0≤x.A∧x.A<(i:Int):=λh=>rd _ (rdT_A h);have dB:x.Op=7∨x.Op=8∨x.Op=9∨x.Op=10->0≤x.B∧x.B<(i:Int):=λh=>rd _ (rdT_B h);rcases Q4q hm with o | o | o | o | o | o | o | o | o | o<;>simp only[slopeQ,o,Int.reduceEq,if_false,if_true,↓reduceIte]
 . rw[Qa3 (by have:=dA (by omega);omega)]
 all_goals first
  | rw[Qa3 (by have:=dA (by omega);omega),Qa3 (by have:=dB (by omega);omega),Qa3 (by have:=dA (by omega);omega),Qa3 (by have:=dB (by omega);omega)]
  | rw[Qa3 (by have:=dA (by omega);omega),Qa3 (by have:=dB (by omega);omega),Qa3 (by have:=dB (by omega);omega)]
  | rw[Qa3 (by have:=dA (by omega);omega),Qa3 (by have:=dB (by omega);omega)]
  | rw[Qa3 (by have:=dA (by omega);omega),Qa3 (by have:=dA (by omega);omega)]
theorem Q4s{lim:Int}{T:Rat}{Y P:List Rat}{T':Rat}{Y' P':List Rat}:∀ {c:List Qt}{i:Nat}{vs ds:List Rat}{l},ds.length=vs.length->prunQ lim T Y P T' Y' P' c i vs ds=.inr l →
 (∃ e,l.1=vs++e)∧(∃ e,l.2=ds++e)∧runQ lim T Y P c i vs=.inr l.1∧∀(q:Nat) x,c[q]?=some x->l.2.getD (vs.length+q) 0=slopeQ x (l.1.getD (vs.length+q) 0) T' Y' P' (l.1.take (vs.length+q)) (l.2.take (vs.length+q))
 | [],i,vs,ds,l,hd,h=>by simp only[prunQ] at h;cases h;exact⟨⟨[],by simp⟩,⟨[],by simp⟩,rfl,λq x hx=>by simp at hx⟩
 | x::c,i,vs,ds,l,hd,h=>by
   simp only[prunQ] at h;simp only[runQ];cases hq:opQ x T Y P vs with
   | none=>rw[hq] at h;cases h
   | some q=>
     rw[hq] at h;simp only[] at h ⊢;split at h
     case isFalse=>cases h
     rename_i hf;split at h
     case isFalse=>cases h
     rw[if_pos hf];obtain⟨⟨e1,h1⟩,⟨e2,h2⟩,h3,h4⟩:=Q4s (by simp;exact hd) h;refine⟨⟨q::e1,by rw[h1];simp⟩,⟨_::e2,by rw[h2];simp;rfl⟩,h3,λk y hy=>?_⟩;cases k with
     | zero=>
       simp only[List.getElem?_cons_zero,Option.some.injEq] at hy;subst hy;rw[Nat.add_zero,h1,h2];have g1:(vs++[q]++e1).getD vs.length 0=q:=by rw[List.append_assoc,List.getD_eq_getElem?_getD,List.getElem?_append_right (Nat.le_refl _),Nat.sub_self];rfl
       have g2:∀ w:Rat,(ds++[w]++e2).getD vs.length 0=w:=λw=>by rw[List.append_assoc,List.getD_eq_getElem?_getD,←hd,List.getElem?_append_right (Nat.le_refl _),Nat.sub_self];rfl
       have g3:(vs++[q]++e1).take vs.length=vs:=by rw[List.append_assoc,List.take_left]
       have g4:∀ w:Rat,(ds++[w]++e2).take vs.length=ds:=λw=>by rw[List.append_assoc,←hd,List.take_left]
       rw[g1,g2,g3,g4]
     | succ k=>
       have:=h4 k y (by simpa using hy);rw[List.length_append,List.length_singleton,show vs.length+1+k=vs.length+(k+1) by omega] at this;exact this
theorem Q6b{ds:List Rat}{m:Nat}:∀ {os:List Int}{w a:List Rat},w.length=os.length->(∀ o∈os,o.toNat<m)->a.length=m →
 psum ((List.zip os w).foldl (λco z=>addAt co z.1 z.2) a) ds m=psum a ds m+psum w (os.map λo=>ds.getD o.toNat 0) w.length
 | [],[],a,_,_,_=>by simp[psum,sumN];grind
 | [],_::_,_,h,_,_=>by simp at h
 | _::_,[],_,h,_,_=>by simp at h
 | o::os,x::w,a,h,ho,ha=>by have h0:=ho o (.head _);simp only[List.zip_cons_cons,List.foldl_cons,List.map_cons,List.length_cons];rw[Q6b (by simpa using h) (λo' h'=>ho o' (.tail _ h')) (by rw[Qj5];exact ha),Qn0 h0 (by omega),Q9x];grind
theorem Jbs{t:Ql}{lim:Int}{T T':Rat}{Y P Y' P' w:List Rat}{z l}(ht:tapeR t)(hw:w.length=t.Ar.length)(hb:backQ t lim T Y P w=.inr z)(hp:pfieldQ t lim T Y P T' Y' P'=.inr l):
 psum w l.2 w.length=z.1*T'+psum z.2.1 Y' t.Au.toNat+psum z.2.2 P' t.Ay.toNat:=by
 obtain⟨⟨d1,d2⟩,⟨d3,d4⟩,d5,d6⟩:=ht.1;unfold pfieldQ at hp;cases hr:prunQ lim T Y P T' Y' P' t.Code 0 [] [] with
 | inl e=>rw[hr] at hp;cases hp
 | inr q=>
   rw[hr] at hp;cases hp;obtain⟨_,_,r1,r2⟩:=Q4s rfl hr;obtain⟨vs,x,b1,b2,rfl⟩:=Q4n hb;rw[r1] at b1;injection b1 with b1
   subst b1;have hvl:q.1.length=t.Code.length:=by
    have:∀ {c:List Qt}{i:Nat}{vs l:List Rat},runQ lim T Y P c i vs=.inr l->l.length=vs.length+c.length:=by
     intro c
     induction c with
     | nil=>intro i vs l h;simp only[runQ] at h;cases h;rfl
     | cons x c ih=>
       intro i vs l h;simp only[runQ] at h;cases hq:opQ x T Y P vs with
       | none=>rw[hq] at h;cases h
       | some q=>
         rw[hq] at h;simp only[] at h;split at h;rw[ih h];simp;omega;cases h
    have:=this r1
    simpa using this
   have hs:=Qw5 b2
   have key:=Q4r (t:=t) (T':=T') (Y':=Y') (P':=P') (ds:=q.2) (by omega) (by simp only[Jc9];omega) (by simp;omega) (by simp;omega) (λj x hx=>⟨ht.2.1 j x hx,by
    have:=r2 j x hx;rw[List.length_nil,Nat.zero_add,Q7m (ht.2.1 j x hx)] at this
    exact this⟩) b2
   unfold inn at key;simp only[] at key;unfold coQ at key;rw[Q6b hw (λo ho=>by have:=ht.2.2 o ho;omega) (by simp),Wa,Qeb,Wa (a:=List.replicate t.Au.toNat 0),Qeb,Wa (a:=List.replicate t.Ay.toNat 0),Qeb] at key;have y1:=hs.y;have y2:=hs.p;simp only[List.length_replicate] at y1 y2;rw[y1,y2,show psum x.co q.2 0=0 from rfl] at key;simp only[];grind
set_option maxRecDepth 100000
theorem Qv8{t:Ql}{lim:Int}{T H:Rat}{U V P:List Rat}:∀ {r:List ((List Rat×Rat)×List Rat)}{i:Nat}{kss z},tstagesQ t lim T H U V P r i kss=.inr z →
 (∃ e,z=kss++e)∧z.length=kss.length+r.length∧∀(q:Nat) x,r[q]?=some x->∃ l,pfieldQ t lim (T+H*x.1.2) x.2 P 0 (fromQ H U x.1.1 (z.take (kss.length+q))) V=.inr l∧z[kss.length+q]?=some l.2
 | [],i,kss,z,h=>by simp only[tstagesQ] at h;cases h;exact⟨⟨[],by simp⟩,rfl,λq x hx=>by simp at hx⟩
 | x::r,i,kss,z,h=>by
   simp only[tstagesQ] at h;cases hs:tstageQ t lim T H U V P x.2 x.1.1 x.1.2 i kss with
   | inl f=>rw[hs] at h;cases h
   | inr w=>
     rw[hs] at h;simp only[] at h;obtain⟨⟨e,h1⟩,h2,h3⟩:=Qv8 h;refine⟨⟨w::e,by rw[h1];simp⟩,by rw[h2];simp;omega,λq y hy=>?_⟩;cases q with
     | zero=>
       simp only[List.getElem?_cons_zero,Option.some.injEq] at hy;subst hy;unfold tstageQ at hs;cases hf:fitQ lim (fromQ H U x.1.1 kss) 0 with
       | some j=>rw[hf] at hs;cases hs
       | none=>
         rw[hf] at hs;simp only[] at hs;cases hp:pfieldQ t lim (T+H*x.1.2) x.2 P 0 (fromQ H U x.1.1 kss) V with
         | inl e=>rw[hp] at hs;cases hs
         | inr l=>
           rw[hp] at hs;cases hs;refine⟨l,?_,?_⟩;rw[Nat.add_zero,h1,List.append_assoc,List.take_left];exact hp;rw[Nat.add_zero,h1,List.append_assoc,List.getElem?_append_right (Nat.le_refl _),Nat.sub_self];rfl
     | succ q=>
       have:=h3 q y (by simpa using hy);rw[List.length_append,List.length_singleton,show kss.length+1+q=kss.length+(q+1) by omega] at this;exact this
theorem Q7n{l:List (List Rat)}{i j:Nat}(h:j<i):(l.take i).getD j []=l.getD j []:=by rw[List.getD_eq_getElem?_getD,List.getD_eq_getElem?_getD,List.getElem?_take,if_pos h]
def gQ(s:Qv)(H:Rat)(W:List Rat)(j i:Nat)(ls:List (List Rat)):List Rat:=
 scaleQ H (mixQ (((s.A.map rv).drop i).map λa=>a.getD j 0) ls (scaleQ ((rv s.B).getD j 0) W))
theorem Jda{s:Qv}{H:Rat}{W u:List Rat}{i j m:Nat}{ls:List (List Rat)}{x d:List Rat}{a:List Qa}(ha:s.A[i]?=some a)(hl:ls.length+(i+1)=s.A.length)(h1:∀ x∈ls,x.length=m)(hx:x.length=m)(hW:W.length=m):
 psum d (gQ s H W j i (x::ls)) m=psum d (gQ s H W j (i+1) ls) m+H*((rv a).getD j 0*psum d x m):=by
 have hi:=Kh ha;have e:(s.A.map rv).drop i=rv a::(s.A.map rv).drop (i+1):=by
  have hm:(s.A.map rv)[i]?=some (rv a):=by rw[List.getElem?_map,ha];rfl
  have hi2:=Kh hm;rw[List.drop_eq_getElem_cons hi2];rw[List.getElem?_eq_getElem hi2] at hm;rw[Option.some.inj hm]
 have l0:(scaleQ ((rv s.B).getD j 0) W).length=m:=by rw[Zo];exact hW
 have ea:∀(c:Rat) (a z:List Rat),List.zipWith (λx o=>o+c*x) a z=linQ c a z:=λc a z=>by unfold linQ;congr 1;funext x o;rw[Rat.add_comm]
 have hcl:(((s.A.map rv).drop (i+1)).map λa=>a.getD j 0).length=ls.length:=by rw[List.length_map,List.length_drop,List.length_map];omega
 unfold gQ;rw[Qig,Qig,e,List.map_cons];simp only[mixQ];rw[ea,Qos (m:=m) hcl h1 (by rw[Qq9 (by omega)];exact hx),Qos (m:=m) hcl h1 l0,Qw7 (by omega)];grind
theorem Qv9{t:Ql}{s:Qv}{lim:Int}{T H:Rat}{P W U V:List Rat}{yss kss:List (List Rat)}(ht:tapeR t)(hs:schR s)(hU:U.length=t.Au.toNat)(hW:W.length=t.Au.toNat)
 (hkl:kss.length=s.B.length) (hkm:∀ a∈kss,a.length=t.Au.toNat) (hyl:yss.length=s.B.length)
 (hk:∀(q:Nat) x,(List.zip (pairQ s) yss)[q]?=some x->∃ l,pfieldQ t lim (T+H*x.1.2) x.2 P 0 (fromQ H U x.1.1 (kss.take q)) V=.inr l∧kss[q]?=some l.2):∀ {i:Nat}{a z},i≤s.B.length->a.ls.length+i=s.B.length->BdL t.Au.toNat t.Ay.toNat a →
 bstagesQ t s lim T H P W yss i a=.inr z->psum z.Y U t.Au.toNat+psum z.P V t.Ay.toNat=psum a.Y U t.Au.toNat+psum a.P V t.Ay.toNat+sumN (λj=>psum (kss.getD j []) (gQ s H W j i a.ls) t.Au.toNat) i
 | 0,a,z,_,_,_,h=>by simp only[bstagesQ] at h;cases h;simp only[sumN];grind
 | i+1,a,z,hi,hal,g,h=>by
   obtain⟨⟨d1,d2⟩,⟨d3,d4⟩,d5,d6⟩:=ht.1;obtain⟨⟨g1,g2⟩,g3,g4,g5,g6⟩:=hs.2.1;simp only[bstagesQ] at h;obtain⟨ai,hai⟩:∃ x,s.A[i]?=some x:=⟨s.A[i]'(by omega),List.getElem?_eq_getElem _⟩
   obtain⟨ci,hci⟩:∃ x,s.C[i]?=some x:=⟨s.C[i]'(by omega),List.getElem?_eq_getElem _⟩
   obtain⟨yi,hyi⟩:∃ x,yss[i]?=some x:=⟨yss[i]'(by omega),List.getElem?_eq_getElem _⟩
   have hz:(List.zip (pairQ s) yss)[i]?=some ((rv ai,fv ci),yi):=by rw[List.getElem?_zip_eq_some];refine⟨?_,hyi⟩;unfold pairQ rv;rw[List.getElem?_zip_eq_some];simp only[List.getElem?_map];exact⟨by rw[hai];rfl,by rw[hci];rfl⟩
   obtain⟨l,k1,k2⟩:=hk i _ hz;have ey:yss.getD i []=yi:=by rw[List.getD_eq_getElem?_getD,hyi];rfl
   rw[ey,Qfw hci,show bslQ (s.A.map rv) ((rv s.B).getD i 0) H W i a.ls=gQ s H W i (i+1) a.ls from rfl] at h;have hGl:(gQ s H W i (i+1) a.ls).length=t.Au.toNat:=by have:=Jbp (As:=s.A.map rv) (b:=(rv s.B).getD i 0) (H:=H) (i:=i) (W:=W) (l:=a.ls) (by rw[hW];exact g.l);rw[hW] at this;exact this
   cases s1:bstageQ t lim T H P yi (fv ci) (gQ s H W i (i+1) a.ls) i with
   | inl f=>rw[s1] at h;cases h
   | inr w=>
     rw[s1] at h;obtain⟨x,b1,rfl⟩:=Qv6 s1;obtain⟨l1,l2⟩:=Q4o b1;simp only[] at h;have ih:=Qv9 ht hs hU hW hkl hkm hyl hk (by omega) (by show a.ls.length+1+i=_;omega) (g.step l1 l2) h;have adj:=Jbs ht (by omega) b1 k1;rw[hGl,Rat.mul_zero,Rat.zero_add] at adj;simp only[] at adj;have ek:kss.getD i []=l.2:=by rw[List.getD_eq_getElem?_getD,k2];rfl
     have hal2:=g6 i ai hai;have hkt:(kss.take i).length=i:=by rw[List.length_take];omega
     have hkm2:∀ a∈kss.take i,a.length=t.Au.toNat:=λa ha=>hkm a (List.mem_of_mem_take ha);have hx:psum x.2.1 (fromQ H U (rv ai) (kss.take i)) t.Au.toNat=psum x.2.1 U t.Au.toNat+H*sumN (λj=>(rv ai).getD j 0*psum (kss.getD j []) x.2.1 t.Au.toNat) i:=by unfold fromQ towQ;rw[Qor (by rw[Zo,Qgc (m:=U.length) (λa ha=>by rw[hkm2 a ha,hU]) (by simp)]),Qig,Qos (m:=U.length) (by rw[Q3];omega) (λa ha=>by rw[hkm2 a ha,hU]) (by simp),Qeb,Rat.zero_add,hkt];congr 2;refine Qcj λj hj=>?_;rw[Wa,Q7n hj]
     have hS:sumN (λj=>psum (kss.getD j []) (gQ s H W j i (x.2.1::a.ls)) t.Au.toNat) i=sumN (λj=>psum (kss.getD j []) (gQ s H W j (i+1) a.ls) t.Au.toNat) i+H*sumN (λj=>(rv ai).getD j 0*psum (kss.getD j []) x.2.1 t.Au.toNat) i:=by rw[←Qw6];refine Qcj λj hj=>?_;exact Jda (u:=U) hai (by omega) g.l l1 hW
     rw[hS] at ih;simp only[] at ih;rw[Wa (a:=addQ a.Y x.2.1),Qor (by rw[l1,g.y]),Wa (a:=addQ a.P x.2.2),Qor (by rw[l2,g.p])] at ih;rw[hx,Wa (b:=l.2),←ek] at adj;rw[sumN,Wa (a:=a.Y),Wa (a:=a.P)];rw[Wa (a:=x.2.1),Wa (a:=x.2.2)] at adj;grind
theorem Jbt{t:Ql}{s:Qv}{lim:Int}{T H:Rat}{P W U V:List Rat}{yss:List (List Rat)}{z x}(hlim:lim≤4096)(ht:tapeR t)(hs:schR s)(hU:U.length=t.Au.toNat)(hW:W.length=t.Au.toNat)(hP:P.length=t.Ay.toNat)(hyl:yss.length=s.B.length)
 (h1:tdoQ t s lim T H U V P yss=.inr z) (h2:bdoQ t s lim T H P W yss=.inr x):psum W z.1 t.Au.toNat=psum x.1 U t.Au.toNat+psum x.2 V t.Ay.toNat:=by
 obtain⟨⟨d1,d2⟩,⟨d3,d4⟩,d5,d6⟩:=ht.1;obtain⟨⟨g1,g2⟩,g3,g4,g5,g6⟩:=hs.2.1;obtain⟨y,b1,rfl⟩:=Q4p h2;unfold tdoQ at h1;cases hk:tstagesQ t lim T H U V P (List.zip (pairQ s) yss) 0 [] with
 | inl f=>rw[hk] at h1;cases h1
 | inr kss=>
   rw[hk] at h1;simp only[] at h1;rw[Quj h1];obtain⟨_,k2,k3⟩:=Qv8 hk;have hkm:=Qp9 hlim (by omega) (λ_ h=>by cases h) hk;have hkl:kss.length=s.B.length:=by rw[k2,List.length_nil,Nat.zero_add,List.length_zip];unfold pairQ;rw[List.length_zip,List.length_map,Q3];omega
   have gB:BdL t.Au.toNat t.Ay.toNat ⟨[],W,List.replicate P.length 0⟩:=⟨hW,by simp;exact hP,λ_ h=>by cases h⟩
   have key:=Qv9 ht hs hU hW hkl (λa ha=>by rw[hkm a ha,hU]) hyl (λq x hx=>by
    have:=k3 q x hx
    rwa [List.length_nil,Nat.zero_add] at this) (Nat.le_refl _) (by simp) gB b1
   simp only[] at key ⊢;rw[key,Wa (a:=List.replicate P.length 0),Qeb];unfold fromQ towQ;rw[Qor (by rw[Zo,Qgc (m:=U.length) (λa ha=>hkm a ha) (by simp)]),Qig,Qos (m:=U.length) (by rw[Q3];omega) (λa ha=>hkm a ha) (by simp),Qeb,Rat.zero_add,Rat.add_zero,hkl,←Qr8];congr 1;refine Qcj λj hj=>?_;have e:gQ s H W j s.B.length []=scaleQ H (scaleQ ((rv s.B).getD j 0) W):=by unfold gQ;cases ((s.A.map rv).drop s.B.length).map λa=>a.getD j 0<;>rfl
   rw[e,Qig,Qig,Wa (a:=W)]
theorem backTilt{p:Qf}{T H:Rat}{Y W U V:List Rat}{z x}(h1:tiltQ p T H Y U V=.inr z)(h2:backThQ p T H Y W=.inr x):psum W z.2.1 p.Tape.Au.toNat=psum x.2.1 U p.Tape.Au.toNat+psum x.2.2 V p.Tape.Ay.toNat:=by
 obtain⟨a1,a2,a3,a4⟩:=Qnx h1;obtain⟨l1,l2⟩:=Qv7 h2;obtain⟨b1,b2,b3⟩:=Qum h2;rw[a1] at b1;injection b1 with b1
 rw[←b1] at b3;obtain⟨r1,r2,_⟩:=Qa0 a1;obtain⟨r6,r7⟩:=Qwu a1;exact Jbt (by unfold limQ;omega) r1.1 r1.2.1 (by omega) l1 l2 r7 a4 b3
def cutI(x:Int):Nat:=(min (max x 1) 200).toNat
theorem Jbu(x:Int):min (max x (1:Int)) (200:Int)=((cutI x:Nat):Int):=by unfold cutI;omega
theorem cut_b(x:Int):1≤cutI x∧cutI x≤200:=by unfold cutI;omega
theorem Q9y(x:Int):cutI ((cutI x:Nat):Int)=cutI x:=by unfold cutI;omega
theorem Qr9(x:Int):Qci x=some ((cutI x:Nat):Int):=by unfold Qci;rw[Jbu]
def cnt(n c:Nat):Nat:=(n+c - 1) / c
def mrk(n c:Nat):List Nat:=(List.range (cnt n c)).map λj=>j*c
theorem Qma(n c:Nat):(mrk n c).length=cnt n c:=by simp[mrk]
theorem Qec{n c j:Nat}(hc:1≤c):j<cnt n c↔j*c<n:=by unfold cnt;rw[Nat.lt_iff_add_one_le,Nat.le_div_iff_mul_le (by omega),Nat.succ_mul];omega
theorem cnt_0{c:Nat}(hc:1≤c):cnt 0 c=0:=by have:=(Qec (n:=0) (j:=0) hc).1;rcases Nat.eq_zero_or_pos (cnt 0 c) with h | h;exact h;have:=this h;omega
theorem Qyz{n c:Nat}(hc:1≤c):cnt n c≤n:=by rcases Nat.eq_zero_or_pos (cnt n c) with h | h;omega;have:=(Qec (n:=n) (j:=cnt n c - 1) hc).1 (by omega);have h2:(cnt n c - 1)*1≤(cnt n c - 1)*c:=Nat.mul_le_mul_left _ hc;omega
theorem Qrd{n c j:Nat}(hj:j<cnt n c):(mrk n c)[j]?=some (j*c):=by simp[mrk,List.getElem?_range hj]
theorem Q0h{n c m:Nat}(hc:1≤c)(h:m∈mrk n c):∃ j,j<cnt n c∧m=j*c∧m<n:=by obtain⟨j,hj,rfl⟩:=List.mem_map.1 h;have:=List.mem_range.1 hj;exact⟨j,this,rfl,(Qec hc).1 this⟩
def mk0(c j:Nat):List Int:=(List.range j).map λi=>((i*c:Nat):Int)
theorem Jbv(c j:Nat):mk0 c (j+1)=mk0 c j++[((j*c:Nat):Int)]:=by unfold mk0;rw[List.range_succ,List.map_append];rfl
theorem Qu5(c j:Nat):(mk0 c j).length=j:=by simp[mk0]
def iL(l:List Nat):List Int:=l.map λi:Nat=>(i:Int)
theorem Q4t(n c:Nat):iL (mrk n c)=mk0 c (cnt n c):=by simp[iL,mrk,mk0]
theorem Qnr{n N:Nat}{x:Int}(hn:big≤n)(hN:N≤200):Qbn n (N:Int) x=some (iL (mrk N (cutI x))):=by
 obtain⟨c1,c2⟩:=cut_b x;unfold Qbn;simp only[jn_eq];rw[Q4t];generalize hcc:cutI x=c at c1 c2;by_cases h0:(N:Int)<1;rw[decide_eq_true h0,bifT,bifT];obtain rfl:N=0:=by omega
 rw[cnt_0 c1];rfl;rw[decide_eq_false h0,bifF,decide_eq_false (show ¬(200:Int)<N by omega),bifF]
 have key:∀(m j n':Nat),j+m=cnt N c->m<n'->(loopM (λ(s16:(List Int)×Int)=>
  bif decide (s16.2<(N:Int)) then (
   (appM 8 s16.1 ([s16.2]:List Int)).bind λy17=>
   (Qci x).bind λr19=>
   some (Lp.go (y17,wrap64 (s16.2+r19))))
  else (
   some (Lp.out s16.1))) n' (mk0 c j,((j*c:Nat):Int)))=some (mk0 c (cnt N c)):=by
  intro m
  induction m with
  | zero=>
    intro j n' hj hn';have:¬ j*c<N:=λh=>by have:=(Qec c1).2 h;omega
    rw[Yh (t:=mk0 c j) (by simp only[];rw[decide_eq_false (show ¬((j*c:Nat):Int)<(N:Int) by omega),bifF]) (by omega)];rw[show j=cnt N c by omega]
  | succ m ih=>
    intro j n' hj hn';obtain⟨n'',rfl⟩:∃ n'',n'=n''+1:=⟨n' - 1,by omega⟩
    have hlt:=(Qec (n:=N) (j:=j) c1).1 (by omega);have hjn:=Qyz (n:=N) c1
    rw[Qfu (s':=(mk0 c (j+1),(((j+1)*c:Nat):Int))) (by
     simp only[]
     rw[decide_eq_true (show((j*c:Nat):Int)<(N:Int) by omega),bifT,Km (by rw[Qu5];simp;omega) (by rw[Qu5];simp;omega),sbind,Qr9,sbind,hcc,Jbv,w64 (by omega) (by omega),Nat.succ_mul,Int.natCast_add])]
    exact ih (j+1) n'' (by omega) (by omega)
 have h2:=key (cnt N c) 0 n (by omega) (by have:=Qyz (n:=N) c1;unfold big at hn;omega);rw[Nat.zero_mul] at h2;rw[show(([]:List Int),(0:Int))=(mk0 c 0,((0:Nat):Int)) from rfl,h2];rfl
def sgm(N c m:Nat):Qu:=⟨(m:Int),((min (m+c) N:Nat):Int)⟩
theorem Q9z{l:List Qu}{x:Qu}(h:l.length≤1000000):Wm l [x]=some (l++[x]):=by unfold Wm;rw[Km (by simp;omega) (by simp;omega),sbind]
theorem Q90:Kj []=some (⟨0,0⟩,false,[]):=rfl
theorem Q7o{l:List Qu}{x:Qu}(h:l.length≤1000000):Kj (l++[x])=some (x,true,l):=by
 unfold Kj Yf;simp only[jn_eq];have e1:=Q7k (l:=l) (x:=x) (by omega);have hw:wrap64 (((l++[x]).length:Int) - 1)=((l.length:Nat):Int):=by simp only[List.length_append,List.length_cons,List.length_nil];rw[w64 (by omega) (by omega)];omega
 rw[decide_eq_false (show ¬((l++[x]).length:Int)=0 by simp;omega),bifF,e1,sbind,sbind,bifT,sbind,hw];have e2:List.set (l++[x]) (Int.toNat ((l.length:Nat):Int)) (⟨0,0⟩:Qu)=l++[⟨0,0⟩]:=by rw[Int.toNat_natCast,List.set_append_right _ _ (Nat.le_refl _),Nat.sub_self,List.set_cons_zero]
 rw[e2,Q9r (by omega),sbind,sbind,sbind]
theorem Qna{n N:Nat}{x:Int}(hn:big≤n)(hN:N≤200):Qau n (N:Int) x=some ((mrk N (cutI x)).reverse.map (sgm N (cutI x))):=by
 obtain⟨c1,c2⟩:=cut_b x;unfold Qau;rw[Qnr hn hN,sbind];have hl:(mrk N (cutI x)).length≤200:=by rw[Qma];have:=Qyz (n:=N) c1;omega
 have hlt:∀ m∈mrk N (cutI x),m<N:=λm hm=>by obtain⟨_,_,_,h⟩:=Q0h c1 hm;exact h
 generalize hcc:cutI x=c at *;generalize mrk N c=ms at *;rw[X2 (s:=([]:List Qu)) (F:=λi=>(ms.take i).map (sgm N c)) (iL ms) (λi y hy=>?_) rfl,Wr]
 rotate_left
 . unfold iL at hy
   rw[List.getElem?_map] at hy;cases hm:ms[i]? with
   | none=>rw[hm] at hy;cases hy
   | some m=>
     rw[hm] at hy;cases hy;have hmlt:=hlt m (List.mem_of_getElem? hm);have hi:=(List.getElem?_eq_some_iff.1 hm).1;simp only[];rw[Qr9,sbind,hcc,sbind,w64 (by omega) (by omega),Q9z (by simp;omega),sbind,List.take_add_one,hm,List.map_append];simp only[Option.toList_some,List.map_cons,List.map_nil,sgm];rw[show min ((m:Int)+(c:Int)) (N:Int)=((min (m+c) N:Nat):Int) by omega]
 have eT:(ms.take (iL ms).length).map (sgm N c)=(ms.map (sgm N c)):=by rw[show(iL ms).length=ms.length by simp[iL],List.take_length]
 rw[eT]
 have key:∀(ys out:List Qu) (n':Nat),ys.length<n'->ys.length+out.length≤200->∃ r,Kj ys.reverse=some r∧(loopM (λ(s37:(List Qu)×(List Qu)×Qu×Bool)=>
  bif s37.2.2.2 then (
   (appM 16 s37.2.1 ([s37.2.2.1]:List Qu)).bind λy38=>
   (Kj s37.1).bind λr40=>
   some (Lp.go (r40.2.2,y38,r40.1,r40.2.1)))
  else (
   some (Lp.out s37.2.1))) n' (r.2.2,out,r.1,r.2.1))=some (out++ys):=by
  intro ys
  induction ys with
  | nil=>
    intro out n' hn' _;exact⟨_,Q90,by rw[Yh (t:=out) rfl (by omega),List.append_nil]⟩
  | cons y ys ih=>
    intro out n' hn' hl;simp only[List.length_cons] at hn' hl;obtain⟨n'',rfl⟩:∃ n'',n'=n''+1:=⟨n' - 1,by omega⟩
    rw[List.reverse_cons];refine⟨_,Q7o (by simp;omega),?_⟩;obtain⟨r,h1,h2⟩:=ih (out++[y]) n'' (by omega) (by simp;omega);rw[Qfu (s':=(r.2.2,out++[y],r.1,r.2.1)) (by simp only[];rw[bifT,Km (by simp;omega) (by simp;omega),sbind,h1,sbind]),h2,List.append_assoc];rfl
 obtain⟨r,h1,h2⟩:=key (ms.map (sgm N c)).reverse [] n (by simp;unfold big at hn;omega) (by simp;omega);rw[List.reverse_reverse] at h1;rw[h1,sbind,h2,sbind,List.nil_append,List.map_reverse]
theorem Jbw{q:Rat}:q.num.sign≤0↔¬ 0<q:=by
 rw[Rat.not_lt,←Int.not_lt,Int.sign_pos_iff];have h:=Rat.num_nonneg (q:=-q);have e:(-q).num=-q.num:=Quy q;have e2:0≤-q↔q≤0:=by grind
 rw[←e2,←h,e];omega
abbrev Tri:=Rat×Rat×List Rat
def triT(t:Qy):Tri:=(fv t.T,fv t.H,rv t.Y)
def tri(h:Qs):List Tri:=(okT h.Ao).map triT
def ChT:Rat->List Tri->Rat->Prop
 | t,[],e=>e=t
 | t,x::l,e=>x.1=t∧ChT (x.1+x.2.1) l e
theorem Qu6:∀ {l1 l2:List Tri}{t e:Rat},ChT t (l1++l2) e->∃ t',ChT t l1 t'∧ChT t' l2 e
 | [],l2,t,e,h=>⟨t,rfl,h⟩
 | x::l1,l2,t,e,h=>by obtain⟨h1,h2⟩:=h;obtain⟨t',h3,h4⟩:=Qu6 h2;exact⟨t',⟨h1,h3⟩,h4⟩
def atI(h:Qs)(i:Nat):Rat:=match h.Ao[i]? with
 | some t=>fv t.T
 | none=>fv h.T
theorem Jbx(h:Qs)(i:Nat):fv (nextT h i)=atI h (i+1):=by unfold nextT atI;cases h.Ao[i+1]?<;>rfl
theorem Qy0{h:Qs}(hp:Qld h):∀(m i:Nat),i+m=h.Ao.length->ChT (atI h i) ((okT (h.Ao.drop i)).map triT) (fv h.T)
 | 0,i,hi=>by have e:h.Ao[i]?=none:=List.getElem?_eq_none (by omega);rw[List.drop_of_length_le (by omega)];show fv h.T=atI h i;unfold atI;rw[e]
 | m+1,i,hi=>by
   have hx:h.Ao[i]?=some (h.Ao[i]'(by omega)):=List.getElem?_eq_getElem (by omega);generalize h.Ao[i]'(by omega)=x at hx;obtain⟨c1,c2⟩:=hp.n i x hx;have ih:=Qy0 hp m (i+1) (by omega);rw[Jbx] at c1 c2;have e0:atI h i=fv x.T:=by unfold atI;rw[hx]
   rw[Q4f hx];unfold okT;rw[List.filter_cons];cases hk:x.Ok with
   | true=>
     rw[if_pos rfl,List.map_cons];refine⟨e0.symm,?_⟩;show ChT (fv x.T+fv x.H) _ _;rw[←c1 hk];exact ih
   | false=>
     rw[if_neg (by decide),e0,←(c2 hk).1];exact ih
theorem Q91{h:Qs}(hp:Qld h):ChT (atI h 0) (tri h) (fv h.T):=Qy0 hp h.Ao.length 0 (by omega)
theorem Qre(h:Qs):(tri h).length=(okT h.Ao).length:=by simp[tri]
theorem Q0i(h:Qs):szs h=(tri h).map (·.2.1):=by unfold szs tri;rw[List.map_map];rfl
def TriK(k d:Nat)(x:Tri):Prop:=qw x.1≤k∧qw x.2.1≤k∧0<x.2.1∧QR k x.2.2∧x.2.2.length=d
theorem Jfh{h:Qs}{k:Nat}(hk:1≤k)(hp:Qld h)(ht:∀ t∈h.Ao,FT k t):∀ x∈tri h,TriK k h.Y.length x:=λx hx=>by obtain⟨t,ht1,rfl⟩:=List.mem_map.1 hx;have hm:=(List.mem_filter.1 ht1).1;obtain⟨f1,f2,_⟩:=ht t hm;have s:=hp.s t hm;exact⟨qw_fv (f1 _ (by simp)) hk,qw_fv (f1 _ (by simp)) hk,s.2.1,QR_rv f2 hk,by show(rv t.Y).length=_;rw[Q3];exact hp.l.1 t hm⟩
def kepQ(A:List Tri)(c:Nat):K3:=⟨(c:Int),toR (A.map (·.2.1)),toR ((mrk A.length c).map λm=>(A.getD m (0,0,[])).1),toRR ((mrk A.length c).map λm=>(A.getD m (0,0,[])).2.2)⟩
theorem Jdb{n k:Nat}{h:Qs}{x:Int}(hn:big≤n)(h1:1≤k)(hk:k<1099511627776)(hl:h.Ao.length≤200)(ht:∀ t∈h.Ao,FT k t)(hT:Fk k h.T)(hY:FR k h.Y)(hYl:h.Y.length≤1000000):
 Qmn n h x=some (kepQ (tri h) (cutI x)):=by
 obtain⟨c1,c2⟩:=cut_b x;have hle:=Qlc h.Ao;unfold Qmn;rw[Qr9,sbind,Qpq hn h1 hk (by omega) ht,sbind,Qyw hn h1 hk (by omega) ht hT hY hYl,sbind];have e1:((toR (szs h)).length:Int)=(((tri h).length:Nat):Int):=by rw[Q2,Q0i];simp
 have hN:(tri h).length≤200:=by rw[Qre];omega
 rw[e1,Qnr hn hN,sbind];have hlt:∀ m∈mrk (tri h).length (cutI x),m<(tri h).length:=λm hm=>by obtain⟨_,_,_,h⟩:=Q0h c1 hm;exact h
 have hml:(mrk (tri h).length (cutI x)).length≤200:=by rw[Qma];have:=Qyz (n:=(tri h).length) c1;omega
 unfold kepQ;rw[Q0i];generalize mrk (tri h).length (cutI x)=ms at hlt hml ⊢
 have gT:∀ m,m<(tri h).length->getI (((okT h.Ao).map nT).map (·.T)++[toF (fv h.T)]) (m:Int)=some (toF ((tri h).getD m (0,0,[])).1):=λm hm=>by
  have hm':m<(okT h.Ao).length:=by rw[Qre] at hm;exact hm
  refine Ki ?_;rw[List.getElem?_append_left (by simp;omega),List.getElem?_map,List.getElem?_map,List.getElem?_eq_getElem hm',List.getD_eq_getElem?_getD];simp[tri,List.getElem?_eq_getElem hm',triT,nT]
 have gY:∀ m,m<(tri h).length->getI (((okT h.Ao).map nT).map (·.Y)++[toR (rv h.Y)]) (m:Int)=some (toR ((tri h).getD m (0,0,[])).2.2):=λm hm=>by
  have hm':m<(okT h.Ao).length:=by rw[Qre] at hm;exact hm
  refine Ki ?_;rw[List.getElem?_append_left (by simp;omega),List.getElem?_map,List.getElem?_map,List.getElem?_eq_getElem hm',List.getD_eq_getElem?_getD];simp[tri,List.getElem?_eq_getElem hm',triT,nT]
 rw[X2 (s:=(([]:List Qa),([]:List (List Qa)))) (F:=λi=>(toR ((ms.take i).map λm=>((tri h).getD m (0,0,[])).1),toRR ((ms.take i).map λm=>((tri h).getD m (0,0,[])).2.2))) (iL ms) (λi y hy=>?_) rfl,Wr];rw[show(iL ms).length=ms.length by simp[iL],List.take_length];unfold iL at hy;rw[List.getElem?_map] at hy;cases hm:ms[i]? with
 | none=>rw[hm] at hy;cases hy
 | some m=>
   rw[hm] at hy;cases hy;have hmlt:=hlt m (List.mem_of_getElem? hm);have hi:=(List.getElem?_eq_some_iff.1 hm).1;simp only[];rw[gT m hmlt,sbind,Km (by simp[Q2];omega) (by simp[Q2];omega),sbind,gY m hmlt,sbind,Km (by simp[Vs];omega) (by simp[Vs];omega),sbind,List.take_add_one,hm];simp[toR,toRR]
theorem Qrf{A:List Tri}{c:Nat}:(kepQ A c).Aw.length=A.length∧(kepQ A c).Ts.length=cnt A.length c∧(kepQ A c).Ys.length=cnt A.length c:=by refine⟨?_,?_,?_⟩;show(toR _).length=_;rw[Q2,List.length_map];show(toR _).length=_;rw[Q2,List.length_map,Qma];show(toRR _).length=_;rw[Vs,List.length_map,Qma]
theorem Q0j{n k d:Nat}{A:List Tri}{x:Int}(hn:big≤n)(h1:1≤k)(hk:k<1099511627776)(hA:∀ t∈A,TriK k d t)(hN:A.length≤200):Qhr n (kepQ A (cutI x))=some true:=by
 obtain⟨c1,c2⟩:=cut_b x;obtain⟨l1,l2,l3⟩:=Qrf (A:=A) (c:=cutI x);unfold Qhr;simp only[jn_eq];rw[Q1g]
 case hb=>
  intro i y hy;have hm:=List.mem_of_getElem? hy;obtain⟨q,hq,rfl⟩:=List.mem_map.1 hm;obtain⟨t,ht,rfl⟩:=List.mem_map.1 hq;obtain⟨_,k2,k3,_⟩:=hA t ht;rw[Qan hn h1 hk (Q6 k2),sbind,Q1,decide_eq_false (λh=>Jbw.1 h k3)];rfl
 rw[l1,show(kepQ A (cutI x)).Every=((cutI x:Nat):Int) from rfl,Qnr hn hN,sbind,Qr9,sbind,Q9y,l2,l3];have hm:((iL (mrk A.length (cutI x))).length:Int)=((cnt A.length (cutI x):Nat):Int):=by rw[Q4t,Qu5]
 rw[hm,decide_eq_true rfl,bifT,decide_eq_true (show((A.length:Nat):Int)≤200 by omega),bifT,decide_eq_true rfl,bifT]
theorem Q92(a:Qu):Qbc a a=true:=by unfold Qbc;simp
theorem Q93{a b:Qu}(h:¬ a=b):Qbc a b=false:=by obtain⟨a1,a2⟩:=a;obtain⟨b1,b2⟩:=b;unfold Qbc;by_cases h1:a1=b1;have h2:¬ a2=b2:=λe=>h (by rw[h1,e]);simp[h2];simp[h1]
theorem Q7p{n j:Nat}{A:List Tri}{x:Int}(hn:big≤n)(hN:A.length≤200)(hj:j<cnt A.length (cutI x)):Qhs n (kepQ A (cutI x)) (sgm A.length (cutI x) (j*cutI x))=some true:=by obtain⟨l1,l2,l3⟩:=Qrf (A:=A) (c:=cutI x);unfold Qhs;rw[l1,show(kepQ A (cutI x)).Every=((cutI x:Nat):Int) from rfl,Qna hn hN,sbind,Q9y];have hm:sgm A.length (cutI x) (j*cutI x)∈(mrk A.length (cutI x)).reverse.map (sgm A.length (cutI x)):=List.mem_map_of_mem (List.mem_reverse.2 (List.mem_of_getElem? (Qrd hj)));obtain⟨i,hi⟩:=List.getElem?_of_mem hm;rw[Yx (P:=λ_ y=>¬ y=sgm A.length (cutI x) (j*cutI x)) (r:=true)];rw[if_neg λh=>h i _ hi rfl];intro i y _;constructor;intro h;rw[Q93 h];rfl;intro h;obtain rfl:=Classical.not_not.1 h;rw[Q92];rfl
noncomputable def anewQ(p:Qf):List Tri->Nat->List Rat->Qc ⊕ List (List Rat)
 | [],_,_=>.inr []
 | x::l,i,y=>match stepQ p x.1 x.2.1 y with
   | .inl f=>.inl ⟨f.Aq,((i+1:Nat):Int),f.Ax,f.At⟩
   | .inr z=>match anewQ p l (i+1) z.next with
     | .inl f=>.inl f
     | .inr r=>.inr (z.next::r)
theorem Q6c{p:Qf}:∀ {l:List Tri}{i:Nat}{y:List Rat}{r:List (List Rat)},anewQ p l i y=.inr r->r.length=l.length∧∀ a∈r,QR 129 a∧a.length=y.length
 | [],i,y,r,h=>by simp only[anewQ] at h;cases h;exact⟨rfl,λ_ h=>by cases h⟩
 | x::l,i,y,r,h=>by
   simp only[anewQ] at h;cases hs:stepQ p x.1 x.2.1 y with
   | inl f=>rw[hs] at h;cases h
   | inr z=>
     rw[hs] at h;simp only[] at h;cases hr:anewQ p l (i+1) z.next with
     | inl f=>rw[hr] at h;cases h
     | inr r'=>
       rw[hr] at h;cases h;obtain⟨_,_,z1,z2,_⟩:=Qa0 hs;obtain⟨a1,a2⟩:=Q6c hr;refine⟨by simp[a1],λa ha=>?_⟩;rcases List.mem_cons.1 ha with rfl | ha
       . exact⟨z1,z2⟩
       . have:=a2 a ha;exact⟨this.1,by rw[this.2,z2]⟩
theorem Q1i{p:Qf}(hp:∀(x:Tri) y f,stepQ p x.1 x.2.1 y=.inl f->f.Aq≠0):∀ {l:List Tri}{i:Nat}{y:List Rat}{f},anewQ p l i y=.inl f->f.Aq≠0
 | [],i,y,f,h=>by simp only[anewQ] at h;cases h
 | x::l,i,y,f,h=>by
   simp only[anewQ] at h;cases hs:stepQ p x.1 x.2.1 y with
   | inl g=>rw[hs] at h;cases h;exact hp x y g hs
   | inr z=>
     rw[hs] at h;simp only[] at h;cases hr:anewQ p l (i+1) z.next with
     | inl g=>rw[hr] at h;cases h;exact Q1i hp hr
     | inr r'=>rw[hr] at h;cases h
theorem Q94{n k d:Nat}{p:Qf}{m:Nat}{e:Rat}(hn:big≤n)(h0:129≤k)(hk:k<8000)(hw:PrbW k p)(hm:m≤200):∀(l:List Tri) (i:Nat) (t:Rat) (y:List Rat) (acc:List (List Rat)),ChT t l e->(∀ x∈l,TriK k d x)->QR k y->i+l.length≤200->acc.length+l.length≤400 →
 (rangeL (λ(i50:Nat) (x51:Qa) (s49:Qa×(List Qa)×(List (List Qa)))=>
  (Qcp n p s49.1 x51 s49.2.1).bind λr53=>
  bif !(Qo r53.2 (⟨0,0,0,0⟩:Qc)) then (
   some (Lp.out ((([]:List (List Qa)),(⟨r53.2.Aq,wrap64 ((wrap64 ((m:Int)+(i50:Int)))+(1:Int)),r53.2.Ax,r53.2.At⟩:Qc)))))
  else (
   (K1 n s49.1 x51).bind λr55=>
   (appM 24 s49.2.2 ([r53.1.A0]:List (List Qa))).bind λy57=>
   some (Lp.go (r55,r53.1.A0,y57)))) (toR (l.map (·.2.1))) i (toF t,toR y,toRR acc)).bind (lpK λ(s59:Qa×(List Qa)×(List (List Qa)))=>
  some (s59.2.2,(⟨0,0,0,0⟩:Qc))) =
  some (match anewQ p l (m+i) y with | .inl f=>([],f) | .inr r=>(toRR (acc++r),⟨0,0,0,0⟩)):=by
 intro l
 induction l with
 | nil=>intro i t y acc _ _ _ _ _;simp only[anewQ,List.append_nil];rfl
 | cons x l ih=>
   intro i t y acc hc hA hy hi ha;obtain⟨c1,c2⟩:=hc;obtain⟨a1,a2,a3,a4,a5⟩:=hA x (by simp);simp only[List.length_cons] at hi ha;subst c1;obtain⟨d1,d2⟩:=Qla (t:=toF x.1) (h:=toF x.2.1) (y:=toR y) hn h0 hk hw (Q6 a1) (Q6 a2) (J6 hy);rw[Q1,Q1,Kw] at d1 d2;have e0:toR ((x::l).map (·.2.1))=toF x.2.1::toR (l.map (·.2.1)):=rfl;rw[e0];simp only[rangeL,anewQ];rw[d1,sbind];cases hs:stepQ p x.1 x.2.1 y with
   | inl f=>
     have hf:=d2 f hs;simp only[];rw[show Qo f ⟨0,0,0,0⟩=false by obtain⟨f1,f2,f3,f4⟩:=f;exact Jw hf,Bool.not_false,bifT,sbind,sbind,Qft,w64 (x:=(m:Int)+(i:Int)) (by omega) (by omega),w64 (x:=(m:Int)+(i:Int)+1) (by omega) (by omega)];rw[show(m:Int)+(i:Int)+1=((m+i+1:Nat):Int) by omega]
   | inr z=>
     obtain⟨_,_,z1,z2,_⟩:=Qa0 hs;simp only[];rw[J2,Bool.not_true,bifF,Vd (k:=k) hn (by omega) (by omega) (Q6 a1) (Q6 a2),sbind,Q1,Q1,Km (by simp[Vs];omega) (by simp[Vs];omega),sbind,sbind];simp only[];have e1:toRR acc++[(toM z).A0]=toRR (acc++[z.next]):=by simp[toRR,toM]
     rw[e1,show(toM z).A0=toR z.next from rfl,ih (i+1) (x.1+x.2.1) z.next (acc++[z.next]) c2 (λa ha=>hA a (by simp[ha])) (Q8 z1 h0) (by omega) (by simp;omega),show m+(i+1)=m+i+1 by omega];cases hr:anewQ p l (m+i+1) z.next with
     | inl f=>rfl
     | inr r=>simp only[];rw[List.append_assoc];rfl
theorem Q4u{c:Nat}(h:1≤c):grd (((c:Nat):Int) != 0)=some ():=by unfold grd;rw[show(((c:Nat):Int) != 0)=true by simp;omega];rfl
theorem Qw8{j c:Nat}(hc:1≤c)(hj:j*c≤1000000):wrap64 (Int.tdiv ((j*c:Nat):Int) ((c:Nat):Int))=(j:Int):=by
 have e:Int.tdiv ((j*c:Nat):Int) ((c:Nat):Int)=(j:Int):=by rw[Int.natCast_mul,Int.mul_tdiv_cancel _ (by omega)]
 have hjj:j*1≤j*c:=Nat.mul_le_mul_left _ hc;rw[e,w64 (by omega) (by omega)]
def segA(A:List Tri)(c m:Nat):List Tri:=(A.take (min (m+c) A.length)).drop m
theorem Qh5{A:List Tri}{c m:Nat}:(segA A c m).length=min (m+c) A.length - m:=by unfold segA;simp
theorem Q95{A:List Tri}{c m:Nat}(hm:m<A.length)(hc:1≤c):(A.take (min (m+c) A.length - 1)).drop m=(segA A c m).take (min (m+c) A.length - 1 - m):=by unfold segA;rw[List.take_drop,List.take_take];congr 2;omega
theorem Qw9{A:List Tri}{c m:Nat}:∀ x∈segA A c m,x∈A:=λx hx=>List.mem_of_mem_take (List.mem_of_mem_drop hx)
theorem Qy1{A:List Tri}{c m:Nat}{t0 e0:Rat}(hc:ChT t0 A e0)(hm:m<A.length)(h1:1≤c):∃ e,ChT (A.getD m (0,0,[])).1 (segA A c m) e:=by
 have e1:A=A.take m++A.drop m:=(List.take_append_drop m A).symm;rw[e1] at hc;obtain⟨t',_,h2⟩:=Qu6 hc;have e2:A.drop m=segA A c m++A.drop (min (m+c) A.length):=by unfold segA;rw[List.drop_take];have:=List.take_append_drop (min (m+c) A.length - m) (A.drop m);rw[List.drop_drop,show m+(min (m+c) A.length - m)=min (m+c) A.length by omega] at this;exact this.symm
 have h3:=h2;rw[List.drop_eq_getElem_cons hm] at h3;have e3:(A.getD m (0,0,[])).1=t':=by rw[List.getD_eq_getElem?_getD,List.getElem?_eq_getElem hm];exact h3.1
 rw[e2] at h2;obtain⟨e,h4,_⟩:=Qu6 h2;exact⟨e,by rw[e3];exact h4⟩
theorem Jby{l:List Tri}{t e:Rat}(i:Nat)(h:ChT t l e):∃ e',ChT t (l.take i) e':=by rw[←List.take_append_drop i l] at h;obtain⟨e',h1,_⟩:=Qu6 h;exact⟨e',h1⟩
theorem Q96{A:List Tri}{c j:Nat}(hj:j<cnt A.length c):getI (kepQ A c).Ts (j:Int)=some (toF (A.getD (j*c) (0,0,[])).1):=by refine Ki ?_;show(toR _)[j]?=_;unfold toR;rw[List.getElem?_map,List.getElem?_map,Qrd hj];rfl
theorem Jfi{A:List Tri}{c j:Nat}(hj:j<cnt A.length c):getI (kepQ A c).Ys (j:Int)=some (toR (A.getD (j*c) (0,0,[])).2.2):=by refine Ki ?_;show(toRR _)[j]?=_;unfold toRR;rw[List.getElem?_map,List.getElem?_map,Qrd hj];rfl
theorem Qxa{A:List Tri}{m:Nat}(hm:m<A.length):A.getD m (0,0,[])∈A:=by rw[List.getD_eq_getElem?_getD,List.getElem?_eq_getElem hm];exact List.getElem_mem hm
theorem Q97{n k d j:Nat}{p:Qf}{A:List Tri}{x:Int}{t0 e0:Rat}(hn:big≤n)(h0:129≤k)(hk:k<8000)(hw:PrbW k p)(hr:prbR p)(hd:(d:Int)=p.Tape.Au)(hA:∀ t∈A,TriK k d t)(hN:A.length≤200)(hc:ChT t0 A e0)(hj:j<cnt A.length (cutI x)):
 Qi2 n p (kepQ A (cutI x)) (sgm A.length (cutI x) (j*cutI x))=some (match anewQ p ((segA A (cutI x) (j*cutI x)).take (min (j*cutI x+cutI x) A.length - 1 - j*cutI x)) (j*cutI x) (A.getD (j*cutI x) (0,0,[])).2.2 with
  | .inl f=>([],f)
  | .inr r=>(toRR ((A.getD (j*cutI x) (0,0,[])).2.2::r),⟨0,0,0,0⟩)):=by
 obtain⟨c1,c2⟩:=cut_b x;have hm:=(Qec c1).1 hj;have hK:=Q0j (x:=x) hn (show 1≤k by omega) (by omega) hA hN;have hG:=Q7p (x:=x) hn hN hj;unfold Qi2;simp only[jn_eq];rw[Qif hn h0 hk hw,sbind,dP_t hr,Bool.not_true,bifF,hK,sbind,Bool.not_true,bifF,hG,sbind,Bool.not_true,bifF];generalize hcc:cutI x=c at *;obtain⟨b1,b2,b3,b4,b5⟩:=hA _ (Qxa hm);obtain⟨e,hce⟩:=Qy1 hc hm c1;show((grd (((c:Nat):Int) != 0)).bind λ_=>_)=_;rw[Q4u c1,sbind];show((getI (kepQ A c).Ts (wrap64 (Int.tdiv ((j*c:Nat):Int) ((c:Nat):Int)))).bind λ_=>_)=_;rw[Qw8 c1 (by omega),Q96 hj,sbind];show((grd (((c:Nat):Int) != 0)).bind λ_=>_)=_;rw[Q4u c1,sbind];show((getI (kepQ A c).Ys (wrap64 (Int.tdiv ((j*c:Nat):Int) ((c:Nat):Int)))).bind λ_=>_)=_;rw[Qw8 c1 (by omega),Jfi hj,sbind,Q2,b5,decide_eq_true hd,Bool.not_true,bifF,Qb2 hn,sbind,Xx (k:=k) hn (by omega) (by omega) (Q6 (by rw[Qq7];omega)) (J6 b4) (by rw[Q2,b5];obtain⟨g,_⟩:=hr;have:=g.1.1.2;omega),sbind,Q1,Kw,Qq6];have eT:wrap64 ((sgm A.length c (j*c)).To - 1)=((min (j*c+c) A.length - 1:Nat):Int):=by
  show wrap64 (((min (j*c+c) A.length:Nat):Int) - 1)=_;rw[w64 (by omega) (by omega)];omega
 have eS:sub (kepQ A c).Aw ((j*c:Nat):Int) ((min (j*c+c) A.length - 1:Nat):Int)=some (toR (((segA A c (j*c)).take (min (j*c+c) A.length - 1 - j*c)).map (·.2.1))):=by rw[Qzr (by omega) (by rw[Qrf.1];omega),←Q95 hm c1];show some (((toR (A.map (·.2.1))).take _).drop _)=_;unfold toR;rw[←List.map_take,←List.map_take,←List.map_drop,←List.map_drop]
 rw[eT];show((sub (kepQ A c).Aw ((j*c:Nat):Int) _).bind λ_=>_)=_;rw[eS,sbind];obtain⟨e',hce'⟩:=Jby (min (j*c+c) A.length - 1 - j*c) hce;have hlp:=Q94 (n:=n) (k:=k) (d:=d) (p:=p) (m:=j*c) (e:=e') hn h0 hk hw (by omega) ((segA A c (j*c)).take (min (j*c+c) A.length - 1 - j*c)) 0 (A.getD (j*c) (0,0,[])).1 (A.getD (j*c) (0,0,[])).2.2 [(A.getD (j*c) (0,0,[])).2.2] hce' (λx hx=>hA x (Qw9 x (List.mem_of_mem_take hx))) b4 (by rw[List.length_take,Qh5];omega) (by rw[List.length_take,Qh5];simp;omega);refine hlp.trans ?_;rw[Nat.add_zero];rfl
theorem Q4v{n k d j:Nat}{p:Qf}{w sum:List Qa}{g:Qh}{A:List Tri}{x:Int}{t0 e0:Rat}(hn:big≤n)(h1:1≤k)(hk:k<1099511627776)(hA:∀ t∈A,TriK k d t)(hN:A.length≤200)(hc:ChT t0 A e0)(hj:j<cnt A.length (cutI x)):
 Z4 n p (kepQ A (cutI x)) w sum g (sgm A.length (cutI x) (j*cutI x))=some (toR ((segA A (cutI x) (j*cutI x)).map (·.1))):=by
 obtain⟨c1,c2⟩:=cut_b x;have hm:=(Qec c1).1 hj;unfold Z4;generalize hcc:cutI x=c at *;obtain⟨b1,b2,b3,b4,b5⟩:=hA _ (Qxa hm);obtain⟨e,hce⟩:=Qy1 hc hm c1;show((grd (((c:Nat):Int) != 0)).bind λ_=>_)=_;rw[Q4u c1,sbind];show((getI (kepQ A c).Ts (wrap64 (Int.tdiv ((j*c:Nat):Int) ((c:Nat):Int)))).bind λ_=>_)=_;rw[Qw8 c1 (by omega),Q96 hj,sbind];have eS:sub (kepQ A c).Aw ((j*c:Nat):Int) ((min (j*c+c) A.length:Nat):Int)=some (toR ((segA A c (j*c)).map (·.2.1))):=by
  rw[Qzr (by omega) (by rw[Qrf.1];omega)];show some (((toR (A.map (·.2.1))).take _).drop _)=_;unfold toR segA;rw[←List.map_take,←List.map_take,←List.map_drop,←List.map_drop]
 show((sub (kepQ A c).Aw ((j*c:Nat):Int) ((min (j*c+c) A.length:Nat):Int)).bind λ_=>_)=_;rw[eS,sbind]
 have key:∀(l:List Tri) (i:Nat) (t:Rat) (acc:List Rat),ChT t l e->(∀ x∈l,TriK k d x)->acc.length+l.length≤400 →
  (rangeL (λ(_:Nat) (x25:Qa) (s23:Qa×(List Qa))=>
  (appM 56 s23.2 ([s23.1]:List Qa)).bind λy27=>
  (K1 n s23.1 x25).bind λr29=>
  some (Lp.go (r29,y27))) (toR (l.map (·.2.1))) i (toF t,toR acc)).bind (lpK λ(s31:Qa×(List Qa))=>
 some s31.2)=some (toR (acc++l.map (·.1))):=by
  intro l
  induction l with
  | nil=>intro i t acc _ _ _;show some (toR acc)=some (toR (acc++[]));rw[List.append_nil]
  | cons y l ih=>
    intro i t acc hc hA ha;obtain⟨q1,q2⟩:=hc;obtain⟨a1,a2,_⟩:=hA y (by simp);simp only[List.length_cons] at ha;subst q1;have e0:toR ((y::l).map (·.2.1))=toF y.2.1::toR (l.map (·.2.1)):=rfl;rw[e0];simp only[rangeL];rw[Km (by simp[Q2];omega) (by simp[Q2];omega),sbind,Vd (k:=k) hn h1 hk (Q6 a1) (Q6 a2),sbind,Q1,Q1,sbind];have e1:toR acc++[toF y.1]=toR (acc++[y.1]):=by simp[toR]
    rw[e1];refine(ih (i+1) (y.1+y.2.1) (acc++[y.1]) q2 (λa ha=>hA a (by simp[ha])) (by simp;omega)).trans ?_;rw[List.map_cons,List.append_assoc];rfl
 exact(key (segA A c (j*c)) 0 _ [] hce (λx hx=>hA x (Qw9 x hx)) (by rw[Qh5];simp;omega)).trans rfl
noncomputable def bstQ(p:Qf)(i:Nat)(x:Tri)(y:List Rat)(g:List Rat×List Rat):Qc ⊕ (List Rat×List Rat):=
 match backThQ p x.1 x.2.1 y g.1 with
 | .inl f=>.inl ⟨f.Aq,((i+1:Nat):Int),f.Ax,f.At⟩
 | .inr z=>match fitQ (limQ p.Ap) (addQ g.2 z.2.2) 0 with
   | some a=>.inl ⟨6,((i+1:Nat):Int),10,300+(a:Int)⟩
   | none=>.inr (z.2.1,addQ g.2 z.2.2)
theorem Q98{lim:Int}:∀ {l:List Rat}{i a:Nat},fitQ lim l i=some a->a<i+l.length
 | [],i,a,h=>by cases h
 | q::l,i,a,h=>by simp only[fitQ] at h;split at h;have:=Q98 h;simp only[List.length_cons];omega;cases h;simp
theorem Q7q{n k d i:Nat}{p:Qf}{kept:K3}{w sum y:List Rat}{g:Qh}{x:Tri}(hn:big≤n)(h0:129≤k)(hk:k<8000)(hw:PrbW k p)(hr:prbR p)(hSz:getI kept.Aw (i:Int)=some (toF x.2.1))(hi:i≤200)(hx:TriK k d x)(hy:QR k y)(hyl:y.length=d)(hwq:QR k w)(hs:QR 129 sum)(hsl:sum.length=p.P.length)(hlim:g.limit=limQ p.Ap):
 ∃ R,Zw n p kept (toR w) (toR sum) g (i:Int) (toF x.1) (toR y)=some R∧match bstQ p i x y (w,sum) with
   | .inl f=>R.1=f∧f.Aq≠0
   | .inr z=>∃ g',g'.limit=limQ p.Ap∧R=(⟨0,0,0,0⟩,p,kept,toR z.1,toR z.2,g')∧QR 129 z.1∧QR 129 z.2∧z.1.length=d∧z.2.length=p.P.length:=by
 obtain⟨x1,x2,_⟩:=hx;have hPl:p.P.length≤1000000:=by have h3:=hr.2.2;obtain⟨⟨⟨_,_⟩,⟨d3,d4⟩,_⟩,_⟩:=hr.1;omega
 obtain⟨d1,d2,d3⟩:=Qvj (n:=n) (k:=k) (p:=p) (t:=toF x.1) (h:=toF x.2.1) (y:=toR y) (w:=toR w) hn h0 hk hw (Q6 x1) (Q6 x2) (J6 hy) (J6 hwq);rw[Q1,Q1,Kw,Kw] at d1 d2 d3;have hl4:limQ p.Ap≤4096:=by unfold limQ;omega
 unfold Zw bstQ;rw[hSz,sbind,d1,sbind];cases hb:backThQ p x.1 x.2.1 y w with
 | inl f=>
   have hf:=d2 f hb;simp only[];rw[show Qo f ⟨0,0,0,0⟩=false by obtain⟨f1,f2,f3,f4⟩:=f;exact Jw hf,Bool.not_false,bifT,w1 (by omega)];exact⟨_,rfl,rfl,hf⟩
 | inr z=>
   obtain⟨_,z1,z2,z3,z4,z5⟩:=d3 z hb;simp only[];rw[J2,Bool.not_true,bifF,Qaz (k:=129) hn (by decide) (by decide) (J6 hs) (J6 z2) (by rw[Q2];omega),sbind,if_pos (by rw[Q2,Q2];omega),Kw,Kw];have hq:QR 1099511627775 (addQ sum z.2.2):=Q8 (Qq1 hs z2) (by decide);have hal:(addQ sum z.2.2).length=p.P.length:=by rw[Qeu];omega
   obtain⟨g',g1,g2⟩:=Qoo (g:=g) hn hq;simp only[];rw[g2,hlim,sbind];cases hfit:fitQ (limQ p.Ap) (addQ sum z.2.2) 0 with
   | some a=>
     have ha:=Q98 hfit;simp only[];rw[Bool.not_false,bifT,w1 (by omega),w64 (x:=300+(a:Int)) (by omega) (by omega)];exact⟨_,rfl,rfl,by decide⟩
   | none=>
     simp only[];rw[Bool.not_true,bifF];exact⟨_,rfl,g',by rw[g1,hlim],rfl,z1,Qj3 hl4 hfit,by rw[z3,Q2,hyl],hal⟩
noncomputable def swQ(p:Qf)(m:Nat)(xs:List Tri)(ys:List (List Rat)):Nat->List Rat×List Rat->Qc ⊕ (List Rat×List Rat)
 | 0,g=>.inr g
 | d+1,g=>match bstQ p (m+d) (xs.getD d (0,0,[])) (ys.getD d []) g with
   | .inl f=>.inl f
   | .inr z=>swQ p m xs ys d z
noncomputable def segQ(p:Qf)(A:List Tri)(c m:Nat)(g:List Rat×List Rat):Qc ⊕ (List Rat×List Rat):=
 match anewQ p ((segA A c m).take (min (m+c) A.length - 1 - m)) m (A.getD m (0,0,[])).2.2 with
 | .inl f=>.inl f
 | .inr r=>swQ p m (segA A c m) ((A.getD m (0,0,[])).2.2::r) (min (m+c) A.length - m) g
theorem Q5k{σ τ:Type}{f:Nat->σ->Option (Lp σ τ)}{L:Nat}{s:σ}:rangeN f (L:Int) s=rangeD f L s:=by unfold rangeN;rw[decide_eq_true (show(-9223372036854775808:Int)<(L:Int) by omega),Int.toNat_natCast];rfl
theorem Jdc{n k d m:Nat}{p:Qf}{kept:K3}{xs:List Tri}{ys:List (List Rat)}(hn:big≤n)(h0:129≤k)(hk:k<8000)(hw:PrbW k p)(hr:prbR p)(hm:m+xs.length≤200)(hyl:ys.length=xs.length)
 (hx:∀(i:Nat) x,xs[i]?=some x->TriK k d x∧getI kept.Aw ((m+i:Nat):Int)=some (toF x.2.1)) (hy:∀ y∈ys,QR k y∧y.length=d) :
 ∀(j:Nat) (w sum:List Rat) (g:Qh),j≤xs.length->QR k w->QR 129 sum->sum.length=p.P.length->g.limit=limQ p.Ap →
 ∃ o,rangeD (λ(i21:Nat) (s30:Qf×K3×(List Qa)×(List Qa)×Qh)=>
   (getI (toR (xs.map (·.1))) (i21:Int)).bind λy31=>
   (getI (toRR ys) (i21:Int)).bind λy33=>
   (Zw n s30.1 s30.2.1 s30.2.2.1 s30.2.2.2.1 s30.2.2.2.2 (wrap64 ((m:Int)+(i21:Int))) y31 y33).bind λr35=>
   bif !(Qo r35.1 (⟨0,0,0,0⟩:Qc)) then (
    some (Lp.out (r35.2.1,r35.2.2.1,r35.2.2.2.1,r35.2.2.2.2.1,r35.2.2.2.2.2,r35.1)))
   else (
    some (Lp.go (r35.2.1,r35.2.2.1,r35.2.2.2.1,r35.2.2.2.2.1,r35.2.2.2.2.2)))) j (p,kept,toR w,toR sum,g)=some o ∧
   match swQ p m xs ys j (w,sum) with
   | .inl f=>∃ q,o=.out q∧q.2.2.2.2.2=f∧f.Aq≠0
   | .inr z=>∃ g',o=.go (p,kept,toR z.1,toR z.2,g')∧g'.limit=limQ p.Ap∧QR k z.1∧QR 129 z.2∧z.1.length=(if j=0 then w.length else d)∧z.2.length=p.P.length:=by
 intro j
 induction j with
 | zero=>
   intro w sum g _ hw hs hl hlim;exact⟨_,rfl,g,rfl,hlim,hw,hs,rfl,hl⟩
 | succ j ih=>
   intro w sum g hj hwq hs hl hlim;have hxj:xs[j]?=some (xs[j]'(by omega)):=List.getElem?_eq_getElem (by omega);have hyj:ys[j]?=some (ys[j]'(by omega)):=List.getElem?_eq_getElem (by omega);have hym:=List.getElem_mem (l:=ys) (n:=j) (by omega);generalize xs[j]'(by omega)=x at hxj;generalize ys[j]'(by omega)=y at hyj hym;obtain⟨x1,x2⟩:=hx j x hxj;obtain⟨y1,y2⟩:=hy y hym;obtain⟨R,r1,r2⟩:=Q7q (n:=n) (k:=k) (d:=d) (i:=m+j) (p:=p) (kept:=kept) (w:=w) (sum:=sum) (y:=y) (g:=g) (x:=x) hn h0 hk hw hr x2 (by omega) x1 y1 y2 hwq hs hl hlim;have g1:getI (toR (xs.map (·.1))) (j:Int)=some (toF x.1):=Ki (by unfold toR;rw[List.getElem?_map,List.getElem?_map,hxj];rfl);have g2:getI (toRR ys) (j:Int)=some (toR y):=Ki (by unfold toRR;rw[List.getElem?_map,hyj];rfl);simp only[rangeD,swQ];rw[g1,sbind,g2,sbind,w64 (x:=(m:Int)+(j:Int)) (by omega) (by omega),show(m:Int)+(j:Int)=((m+j:Nat):Int) by omega,r1,sbind,List.getD_eq_getElem?_getD,hxj,List.getD_eq_getElem?_getD,hyj];simp only[Option.getD_some];cases hb:bstQ p (m+j) x y (w,sum) with
   | inl f=>
     rw[hb] at r2;obtain⟨q1,q2⟩:=r2;rw[show Qo R.1 ⟨0,0,0,0⟩=false by rw[q1];obtain⟨f1,f2,f3,f4⟩:=f;exact Jw q2,Bool.not_false,bifT,sbind];exact⟨_,rfl,_,rfl,q1,q2⟩
   | inr z=>
     rw[hb] at r2;obtain⟨g',l1,rfl,l3,l4,l5,l6⟩:=r2;rw[J2,Bool.not_true,bifF,sbind];obtain⟨o,o1,o2⟩:=ih z.1 z.2 g' (by omega) (Q8 l3 h0) l4 l6 l1;refine⟨o,o1,?_⟩;simp only[];cases hs2:swQ p m xs ys j z with
     | inl f=>rw[hs2] at o2;exact o2
     | inr z'=>
       rw[hs2] at o2;obtain⟨g2,e1,e2,e3,e4,e5,e6⟩:=o2;refine⟨g2,e1,e2,e3,e4,?_,e6⟩;rw[if_neg (Nat.succ_ne_zero j),e5];split;exact l5;rfl
theorem Q4w{n k d j:Nat}{p:Qf}{A:List Tri}{x:Int}{t0 e0:Rat}{w sum:List Rat}{g:Qh}(hn:big≤n)(h0:129≤k)(hk:k<8000)(hw:PrbW k p)(hr:prbR p)(hd:(d:Int)=p.Tape.Au)(hA:∀ t∈A,TriK k d t)(hN:A.length≤200)(hc:ChT t0 A e0)(hj:j<cnt A.length (cutI x))
 (hwq:QR k w) (hwl:w.length=d) (hs:QR 129 sum) (hsl:sum.length=p.P.length) (hlim:g.limit=limQ p.Ap) :
 ∃ R,Yt n p (kepQ A (cutI x)) (toR w) (toR sum) g (sgm A.length (cutI x) (j*cutI x))=some R∧match segQ p A (cutI x) (j*cutI x) (w,sum) with
   | .inl f=>R.1=f∧f.Aq≠0
   | .inr z=>∃ g',g'.limit=limQ p.Ap∧R=(⟨0,0,0,0⟩,p,kepQ A (cutI x),toR z.1,toR z.2,g')∧QR k z.1∧QR 129 z.2∧z.1.length=d∧z.2.length=p.P.length:=by
 obtain⟨c1,c2⟩:=cut_b x;have hm:=(Qec c1).1 hj;have hAn:=Q97 (x:=x) hn h0 hk hw hr hd hA hN hc hj;have hMo:=Q4v (n:=n) (k:=k) (d:=d) (p:=p) (w:=toR w) (sum:=toR sum) (g:=g) (x:=x) hn (by omega) (by omega) hA hN hc hj;unfold Yt segQ;rw[hAn,sbind];generalize hcc:cutI x=c at *;obtain⟨b1,b2,b3,b4,b5⟩:=hA _ (Qxa hm);cases ha:anewQ p ((segA A c (j*c)).take (min (j*c+c) A.length - 1 - j*c)) (j*c) (A.getD (j*c) (0,0,[])).2.2 with
 | inl f=>
   have hf:=Q1i (λx y f h=>Qym h) ha;simp only[];rw[show Qo f ⟨0,0,0,0⟩=false by obtain⟨f1,f2,f3,f4⟩:=f;exact Jw hf,Bool.not_false,bifT];exact⟨_,rfl,rfl,hf⟩
 | inr r=>
   obtain⟨r1,r2⟩:=Q6c ha;simp only[];rw[J2,Bool.not_true,bifF,hMo,sbind];have hL:wrap64 ((sgm A.length c (j*c)).To - (sgm A.length c (j*c)).From)=((min (j*c+c) A.length - j*c:Nat):Int):=by show wrap64 (((min (j*c+c) A.length:Nat):Int) - ((j*c:Nat):Int))=_;rw[w64 (by omega) (by omega)];omega
   rw[hL,Q5k];have hrl:r.length=min (j*c+c) A.length - 1 - j*c:=by rw[r1,List.length_take,Qh5];omega
   obtain⟨o,o1,o2⟩:=Jdc (n:=n) (k:=k) (d:=d) (m:=j*c) (p:=p) (kept:=kepQ A c) (xs:=segA A c (j*c)) (ys:=(A.getD (j*c) (0,0,[])).2.2::r) hn h0 hk hw hr (by rw[Qh5];omega) (by rw[List.length_cons,hrl,Qh5];omega)
    (λi y hy=>⟨hA y (Qw9 y (List.mem_of_getElem? hy)),Ki (by
     have hi:=(List.getElem?_eq_some_iff.1 hy).1;rw[Qh5] at hi;show(toR _)[j*c+i]?=_;unfold toR;rw[List.getElem?_map,List.getElem?_map];unfold segA at hy;rw[List.getElem?_drop,List.getElem?_take_of_lt (by omega)] at hy
     rw[hy];rfl)⟩)
    (λy hy=>by
     rcases List.mem_cons.1 hy with rfl | hy;exact⟨b4,b5⟩
     have:=r2 y hy;exact⟨Q8 this.1 h0,by rw[this.2,b5]⟩)
    (min (j*c+c) A.length - j*c) w sum g (by rw[Qh5];omega) hwq hs hsl hlim
   erw [o1]
   rw[sbind];cases hsw:swQ p (j*c) (segA A c (j*c)) ((A.getD (j*c) (0,0,[])).2.2::r) (min (j*c+c) A.length - j*c) (w,sum) with
   | inl f=>
     rw[hsw] at o2;obtain⟨q,rfl,q2,q3⟩:=o2;exact⟨_,rfl,q2,q3⟩
   | inr z=>
     rw[hsw] at o2;obtain⟨g',rfl,q2,q3,q4,q5,q6⟩:=o2;refine⟨_,rfl,g',q2,rfl,q3,q4,?_,q6⟩;rw[q5,if_neg (by omega)]
noncomputable def allQ(p:Qf)(A:List Tri)(c:Nat):List Nat->List Rat×List Rat->Qc ⊕ (List Rat×List Rat)
 | [],g=>.inr g
 | m::l,g=>match segQ p A c m g with
   | .inl f=>.inl f
   | .inr z=>allQ p A c l z
def SwR(p:Qf)(h:Qs)(w:List Rat):Prop:=prbR p∧Qld h∧(h.Y.length:Int)=p.Tape.Au∧w.length=h.Y.length
open Classical in
noncomputable def sweepQ(p:Qf)(h:Qs)(w:List Rat)(c:Nat):Qc ⊕ (List Rat×List Rat):=
 if SwR p h w then allQ p (tri h) c (mrk (tri h).length c).reverse (w,List.replicate p.P.length 0) else .inl ⟨2,0,0,0⟩
theorem Jbz{n k d:Nat}{p:Qf}{A:List Tri}{x:Int}{t0 e0:Rat}(hn:big≤n)(h0:129≤k)(hk:k<8000)(hw:PrbW k p)(hr:prbR p)(hd:(d:Int)=p.Tape.Au)(hA:∀ t∈A,TriK k d t)(hN:A.length≤200)(hc:ChT t0 A e0):
 ∀(l:List Nat) (i:Nat) (w sum:List Rat) (g:Qh),(∀ m∈l,∃ j,j<cnt A.length (cutI x)∧m=j*cutI x)->QR k w->w.length=d->QR 129 sum->sum.length=p.P.length->g.limit=limQ p.Ap →
 (rangeL (λ(_:Nat) (x59:Qu) (s57:Qf×K3×(List Qa)×(List Qa)×Qh)=>
  (Yt n s57.1 s57.2.1 s57.2.2.1 s57.2.2.2.1 s57.2.2.2.2 x59).bind λr61=>
  bif !(Qo r61.1 (⟨0,0,0,0⟩:Qc)) then (
   some (Lp.out (((⟨[],[]⟩:Jk),r61.1))))
  else (
   some (Lp.go (r61.2.1,r61.2.2.1,r61.2.2.2.1,r61.2.2.2.2.1,r61.2.2.2.2.2)))) (l.map (sgm A.length (cutI x))) i (p,kepQ A (cutI x),toR w,toR sum,g)).bind (lpK λ(s63:Qf×K3×(List Qa)×(List Qa)×Qh)=>
  some ((⟨s63.2.2.1,s63.2.2.2.1⟩:Jk),(⟨0,0,0,0⟩:Qc))) =
  some (match allQ p A (cutI x) l (w,sum) with | .inl f=>(⟨[],[]⟩,f) | .inr z=>(⟨toR z.1,toR z.2⟩,⟨0,0,0,0⟩)) ∧
  (∀ f,allQ p A (cutI x) l (w,sum)=.inl f->f.Aq≠0)∧∀ z,allQ p A (cutI x) l (w,sum)=.inr z->QR k z.1∧QR 129 z.2∧z.1.length=d∧z.2.length=p.P.length:=by
 intro l
 induction l with
 | nil=>intro i w sum g _ hw hl hs hsl _;exact⟨rfl,(λf h=>by cases h),λz h=>by cases h;exact⟨hw,hs,hl,hsl⟩⟩
 | cons m l ih=>
   intro i w sum g hl hwq hwl hs hsl hlim;obtain⟨j,hj,rfl⟩:=hl m (by simp);obtain⟨R,r1,r2⟩:=Q4w (n:=n) (k:=k) (d:=d) (j:=j) (p:=p) (A:=A) (x:=x) (w:=w) (sum:=sum) (g:=g) hn h0 hk hw hr hd hA hN hc hj hwq hwl hs hsl hlim;simp only[List.map_cons,rangeL,allQ];rw[r1,sbind];cases hb:segQ p A (cutI x) (j*cutI x) (w,sum) with
   | inl f=>
     rw[hb] at r2;obtain⟨q1,q2⟩:=r2;rw[show Qo R.1 ⟨0,0,0,0⟩=false by rw[q1];obtain⟨f1,f2,f3,f4⟩:=f;exact Jw q2,Bool.not_false,bifT,sbind,sbind,Qft,q1];exact⟨rfl,(λf' h=>by cases h;exact q2),λz h=>by cases h⟩
   | inr z=>
     rw[hb] at r2;obtain⟨g',l1,rfl,l3,l4,l5,l6⟩:=r2;rw[J2,Bool.not_true,bifF,sbind];exact ih (i+1) z.1 z.2 g' (λm hm=>hl m (by simp[hm])) l3 l5 l4 l6 l1
theorem Qed{n k:Nat}{p:Qf}{h:Qs}{w:List Qa}{x:Int}(hn:big≤n)(h0:129≤k)(hk:k<8000)(hw:PrbW k p)(hl:h.Ao.length≤200)(ht:∀ t∈h.Ao,FT k t)(hT:Fk k h.T)(hY:FR k h.Y)(hYl:h.Y.length≤1000000)(hwk:FR k w)(hwl:w.length≤1000000):
 Z5 n p h w x=some (match sweepQ p h (rv w) (cutI x) with | .inl f=>(⟨[],[]⟩,f) | .inr z=>(⟨toR z.1,toR z.2⟩,⟨0,0,0,0⟩)) ∧
  (∀ f,sweepQ p h (rv w) (cutI x)=.inl f->f.Aq≠0)∧∀ z,sweepQ p h (rv w) (cutI x)=.inr z->QR k z.1∧QR 129 z.2∧z.1.length=h.Y.length∧z.2.length=p.P.length:=by
 obtain⟨c1,c2⟩:=cut_b x;unfold Z5 sweepQ;simp only[jn_eq];rw[Qif hn h0 hk hw,sbind,bifnP];by_cases hr:prbR p
 case neg=>rw[if_neg hr,if_neg (λg=>hr g.1),bifT];exact⟨rfl,(λf h=>by cases h;decide),λz h=>by cases h⟩
 rw[if_pos hr,Qle hn (by omega) (by omega) (by omega) ht hT hY hYl,sbind,bifnP];by_cases hp:Qld h
 case neg=>rw[if_neg hp,if_neg (λg=>hp g.2.1),bifT];exact⟨rfl,(λf h=>by cases h;decide),λz h=>by cases h⟩
 rw[if_pos hp];by_cases hd:(h.Y.length:Int)=p.Tape.Au
 case neg=>rw[decide_eq_false hd,if_neg (λg=>hd g.2.2.1),Bool.not_false,bifT,bifT];exact⟨rfl,(λf h=>by cases h;decide),λz h=>by cases h⟩
 rw[decide_eq_true hd,Bool.not_true,bifF];by_cases hwY:(w.length:Int)=(h.Y.length:Int)
 case neg=>rw[decide_eq_false hwY,if_neg (λg=>hwY (by have:=g.2.2.2;rw[Q3] at this;omega)),Bool.not_false,bifT];exact⟨rfl,(λf h=>by cases h;decide),λz h=>by cases h⟩
 have hwe:w.length=h.Y.length:=by omega
 rw[decide_eq_true hwY,if_pos ⟨hr,hp,hd,by rw[Q3];exact hwe⟩,Bool.not_true,bifF];have hPl:p.P.length≤300:=by have h3:=hr.2.2;obtain⟨⟨⟨_,_⟩,⟨d3,d4⟩,_⟩,_⟩:=hr.1;omega
 have hN:(tri h).length≤200:=by have:=Qlc h.Ao;rw[Qre];omega
 rw[Jdb (x:=x) hn (by omega) (by omega) hl ht hT hY hYl,sbind,Qb2 hn,sbind,Xx (k:=k) hn (by omega) (by omega) (Q6 (by rw[Qq7];omega)) hwk hwl,sbind,Q1,Qq6,Qb3 hn hPl,sbind];unfold Wf;rw[sbind,Qrf.1,Qna hn hN,sbind]
 have hlp:=Jbz (n:=n) (k:=k) (d:=h.Y.length) (p:=p) (A:=tri h) (x:=x) hn h0 hk hw hr hd (Jfh (by omega) hp ht) hN (Q91 hp) (mrk (tri h).length (cutI x)).reverse 0 (rv w) (List.replicate p.P.length 0) ⟨⟨0,0⟩,min (max p.Ap 0) 4096⟩
  (λm hm=>by obtain⟨j,h1,h2,_⟩:=Q0h c1 (List.mem_reverse.1 hm);exact⟨j,h1,h2⟩) (QR_rv hwk (by omega)) (by rw[Q3];exact hwe) (λq hq=>by rw[List.eq_of_mem_replicate hq,Zn];decide) (by simp) rfl
 exact hlp
theorem w44:Vz big=some true:=by kernel_rfl
def MCh(p:Qf):Rat->List Rat->List Tri->Rat->List Rat->Prop
 | T,Y,[],E,Z=>E=T∧Z=Y
 | T,Y,x::l,E,Z=>x.1=T∧x.2.2=Y∧∃ z,stepQ p T x.2.1 Y=.inr z∧MCh p (T+x.2.1) z.next l E Z
theorem Qmj{p:Qf}:∀ {hs:List Rat}{i:Nat}{T:Rat}{Y:List Rat}{tr:List TryQ}{z},marchQ p hs i T Y tr=.inr z->∃ l:List TryQ,z.1=tr++l∧l.map (·.H)=hs∧MCh p T Y (l.map λt=>(t.T,t.H,t.Y)) z.2.1 z.2.2
 | [],i,T,Y,tr,z,h=>by simp only[marchQ] at h;cases h;exact⟨[],by simp,rfl,rfl,rfl⟩
 | x::hs,i,T,Y,tr,z,h=>by
   simp only[marchQ] at h;cases hs2:stepQ p T x Y with
   | inl f=>rw[hs2] at h;cases h
   | inr m=>
     rw[hs2] at h;obtain⟨l,h1,h2,h3⟩:=Qmj h;exact⟨⟨T,x,normQ m.err,Y⟩::l,by rw[h1,List.append_assoc];rfl,by simp[h2],rfl,rfl,m,hs2,h3⟩
theorem Q4x{p:Qf}:∀(m:Nat) {A:List Tri}{T E:Rat}{Y Z:List Rat},MCh p T Y A E Z->m<A.length->MCh p (A.getD m (0,0,[])).1 (A.getD m (0,0,[])).2.2 (A.drop m) E Z
 | 0,x::l,T,E,Y,Z,h,hm=>by obtain⟨h1,h2,h3⟩:=h;show MCh p x.1 x.2.2 (x::l) E Z;rw[h1,h2];exact⟨h1,h2,h3⟩
 | m+1,x::l,T,E,Y,Z,h,hm=>by obtain⟨_,_,z,_,h4⟩:=h;exact Q4x m h4 (by simp only[List.length_cons] at hm;omega)
 | _,[],_,_,_,_,_,hm=>by simp at hm
theorem Qy2{p:Qf}:∀(L:Nat) {l:List Tri}{i:Nat}{T E:Rat}{Y Z:List Rat},MCh p T Y l E Z->L<l.length->anewQ p (l.take L) i Y=.inr (((l.take (L+1)).drop 1).map (·.2.2))
 | 0,x::l,i,T,E,Y,Z,h,hL=>by simp[anewQ]
 | L+1,x::y::l,i,T,E,Y,Z,h,hL=>by obtain⟨h1,h2,z,h3,h4⟩:=h;obtain⟨g1,g2,g3⟩:=h4;simp only[List.take_succ_cons,anewQ];rw[h1,h3];simp only[];have ih:=Qy2 L (i:=i+1) (show MCh p (T+x.2.1) z.next (y::l) E Z from⟨g1,g2,g3⟩) (by simp only[List.length_cons] at hL ⊢;omega);rw[ih];simp only[List.take_succ_cons,List.drop_succ_cons,List.drop_zero,List.map_cons];rw[←g2]
 | L+1,[x],_,_,_,_,_,_,hL=>by simp at hL
 | _,[],_,_,_,_,_,_,hL=>by simp at hL
theorem Q99{p:Qf}{A:List Tri}{c m:Nat}{T E:Rat}{Y Z:List Rat}(h:MCh p T Y A E Z)(hm:m<A.length)(hc:1≤c)(g:List Rat×List Rat):segQ p A c m g=swQ p m (segA A c m) ((segA A c m).map (·.2.2)) (min (m+c) A.length - m) g:=by
 have h1:=Q4x m h hm;have h2:=Qy2 (p:=p) (min (m+c) A.length - 1 - m) (i:=m) h1 (by rw[List.length_drop];omega);have e1:(segA A c m).take (min (m+c) A.length - 1 - m)=(A.drop m).take (min (m+c) A.length - 1 - m):=by unfold segA;rw[List.drop_take,List.take_take];congr 1;omega
 have e2:segA A c m=(A.drop m).take (min (m+c) A.length - 1 - m+1):=by unfold segA;rw[List.drop_take];congr 1;omega
 unfold segQ;rw[e1,h2];simp only[];have e3:(A.getD m (0,0,[])).2.2::List.map (·.2.2) (List.drop 1 ((A.drop m).take (min (m+c) A.length - 1 - m+1)))=(segA A c m).map (·.2.2):=by rw[e2,List.drop_eq_getElem_cons hm,List.take_succ_cons,List.map_cons,List.drop_succ_cons,List.drop_zero,List.getD_eq_getElem?_getD,List.getElem?_eq_getElem hm];rfl
 rw[e3]
theorem Q6d{p:Qf}{A:List Tri}{c m:Nat}(hm:m≤A.length):∀(L:Nat) (g:List Rat×List Rat),L≤min (m+c) A.length - m->swQ p 0 A (A.map (·.2.2)) (m+L) g=match swQ p m (segA A c m) ((segA A c m).map (·.2.2)) L g with | .inl f=>.inl f | .inr z=>swQ p 0 A (A.map (·.2.2)) m z
 | 0,g,_=>rfl
 | L+1,g,hL=>by
   have e:(segA A c m)[L]?=A[m+L]?:=by unfold segA;rw[List.getElem?_drop,List.getElem?_take_of_lt (by omega)]
   have e1:(segA A c m).getD L (0,0,[])=A.getD (m+L) (0,0,[]):=by rw[List.getD_eq_getElem?_getD,List.getD_eq_getElem?_getD,e]
   have e2:((segA A c m).map (·.2.2)).getD L []=(A.map (·.2.2)).getD (m+L) []:=by rw[List.getD_eq_getElem?_getD,List.getD_eq_getElem?_getD,List.getElem?_map,List.getElem?_map,e]
   show swQ p 0 A (A.map (·.2.2)) (m+L+1) g=_;simp only[swQ];rw[e1,e2,Nat.zero_add];cases hb:bstQ p (m+L) (A.getD (m+L) (0,0,[])) ((A.map (·.2.2)).getD (m+L) []) g with
   | inl f=>rfl
   | inr z=>exact Q6d hm L z (by omega)
theorem Q1j{p:Qf}{A:List Tri}{c:Nat}{T E:Rat}{Y Z:List Rat}(h:MCh p T Y A E Z)(hc:1≤c):∀(q:Nat) (g:List Rat×List Rat),q≤cnt A.length c->allQ p A c ((mrk A.length c).take q).reverse g=swQ p 0 A (A.map (·.2.2)) (min (q*c) A.length) g
 | 0,g,_=>by simp[allQ,swQ]
 | q+1,g,hq=>by
   have hm:=(Qec hc).1 (show q<cnt A.length c by omega);rw[Qj4 (Qrd (show q<cnt A.length c by omega)),List.reverse_append];simp only[List.reverse_cons,List.reverse_nil,List.nil_append,List.singleton_append,allQ];rw[Q99 h hm hc,show min ((q+1)*c) A.length=q*c+(min (q*c+c) A.length - q*c) by rw[Nat.succ_mul];omega,Q6d (c:=c) (show q*c≤A.length by omega) _ g (Nat.le_refl _)];cases hs:swQ p (q*c) (segA A c (q*c)) ((segA A c (q*c)).map (·.2.2)) (min (q*c+c) A.length - q*c) g with
   | inl f=>rfl
   | inr z=>
     simp only[];rw[Q1j h hc q z (by omega),Nat.min_eq_left (by omega)]
theorem Qns{p:Qf}{A:List Tri}{c:Nat}{T E:Rat}{Y Z:List Rat}(h:MCh p T Y A E Z)(hc:1≤c)(g:List Rat×List Rat):allQ p A c (mrk A.length c).reverse g=swQ p 0 A (A.map (·.2.2)) A.length g:=by
 have:=Q1j h hc (cnt A.length c) g (Nat.le_refl _);rw[show cnt A.length c=(mrk A.length c).length from(Qma _ _).symm,List.take_length,Qma] at this;rw[this];have hge:¬ cnt A.length c*c<A.length:=λh=>by have:=(Qec hc).2 h;omega
 rw[Nat.min_eq_right (by omega)]
theorem Qup{l:List TryQ}{T:Qa}{Y:List Qa}:tri ⟨l.map toTry,T,Y⟩=l.map λt=>(t.T,t.H,t.Y):=by unfold tri okT;rw[List.filter_eq_self.2 (λa ha=>by obtain⟨t,_,rfl⟩:=List.mem_map.1 ha;rfl),List.map_map];refine List.map_congr_left λt _=>?_;show(fv (toF t.T),fv (toF t.H),rv (toR t.Y))=_;rw[Q1,Q1,Kw]
theorem FT_TQ{k m:Nat}{t:TryQ}(h:TQ k m t)(hm:m≤1000000):FT k (toTry t):=by
 obtain⟨h1,h2,h3,h4,h5⟩:=h;refine⟨λf hf=>?_,J6 h4,by show(toR t.Y).length≤_;rw[Q2,h5];exact hm⟩;have hf':f=toF t.T∨f=toF t.H∨f=toF t.H∨f=toF t.A1:=by simpa [toTry] using hf
 rcases hf' with rfl | rfl | rfl | rfl;exact Q6 h1;exact Q6 h2;exact Q6 h2;exact Q6 h3
theorem Quq{k:Nat}:Fk k noH.T:=⟨(by intro x h;cases h),Nat.zero_le _,(by intro x h;cases h),Nat.zero_le _⟩
def AC(p:Qf)(V:List Rat):List Tri->List Rat->List Rat->Prop
 | [],U,E=>E=U
 | x::l,U,E=>∃ z,tiltQ p x.1 x.2.1 x.2.2 U V=.inr z∧AC p V l z.2.1 E
theorem AC_of{p:Qf}{V:List Rat}:∀ {l:List Qy}{i:Nat}{U:List Rat}{r},alongQ p V l i U=.inr r->AC p V (l.map triT) U (r.getLastD U)
 | [],i,U,r,h=>by simp only[alongQ] at h;cases h;rfl
 | t::l,i,U,r,h=>by
   simp only[alongQ] at h;cases hs:tiltQ p (fv t.T) (fv t.H) (rv t.Y) U V with
   | inl f=>rw[hs] at h;cases h
   | inr z=>
     rw[hs] at h;simp only[] at h;cases hr:alongQ p V l (i+1) z.2.1 with
     | inl f=>rw[hr] at h;cases h
     | inr r'=>
       rw[hr] at h;cases h;refine⟨z,hs,?_⟩;have:=AC_of hr;rw[List.getLastD_cons];exact this
theorem Q6e{p:Qf}{V:List Rat}{x:Tri}:∀ {l:List Tri}{U E:List Rat},AC p V (l++[x]) U E->∃ U',AC p V l U U'∧∃ z,tiltQ p x.1 x.2.1 x.2.2 U' V=.inr z∧E=z.2.1
 | [],U,E,h=>by obtain⟨z,h1,h2⟩:=h;exact⟨U,rfl,z,h1,h2⟩
 | y::l,U,E,h=>by obtain⟨z,h1,h2⟩:=h;obtain⟨U',h3,h4⟩:=Q6e h2;exact⟨U',⟨z,h1,h3⟩,h4⟩
theorem Qqa{p:Qf}{V U:List Rat}{A:List Tri}{g:List Rat×List Rat}(hP:∀ T H Y W b,backThQ p T H Y W=.inr b->b.2.2.length=p.P.length):∀(n:Nat) (w s Un:List Rat),n≤A.length->s.length=p.P.length->AC p V (A.take n) U Un->swQ p 0 A (A.map (·.2.2)) n (w,s)=.inr g →
 psum w Un p.Tape.Au.toNat+psum s V p.Tape.Ay.toNat=psum g.1 U p.Tape.Au.toNat+psum g.2 V p.Tape.Ay.toNat
 | 0,w,s,Un,_,_,ha,h=>by simp only[swQ] at h;cases h;have ha':Un=U:=ha;rw[ha']
 | n+1,w,s,Un,hn,hs,ha,h=>by
   have hx:A[n]?=some (A[n]'(by omega)):=List.getElem?_eq_getElem (by omega);generalize A[n]'(by omega)=x at hx;rw[Qj4 hx] at ha;obtain⟨U',h1,z,h2,rfl⟩:=Q6e ha;simp only[swQ] at h;rw[List.getD_eq_getElem?_getD,hx,List.getD_eq_getElem?_getD,List.getElem?_map,hx] at h;simp only[Option.getD_some,Option.map_some,bstQ] at h;cases hb:backThQ p x.1 x.2.1 x.2.2 w with
   | inl f=>rw[hb] at h;cases h
   | inr b=>
     rw[hb] at h;simp only[] at h;cases hf:fitQ (limQ p.Ap) (addQ s b.2.2) 0 with
     | some a=>rw[hf] at h;cases h
     | none=>
       rw[hf] at h;have hbl:=hP _ _ _ _ _ hb;have ih:=Qqa hP n b.2.1 (addQ s b.2.2) U' (by omega) (by rw[Qeu];omega) h1 h;have key:=backTilt h2 hb;have e:psum (addQ s b.2.2) V p.Tape.Ay.toNat=psum s V p.Tape.Ay.toNat+psum b.2.2 V p.Tape.Ay.toNat:=by rw[Wa,Qor (by omega),Wa,Wa (a:=V) (b:=b.2.2)]
       rw[key,←ih,e];grind
theorem Qwa{t:Ql}{s:Qv}{lim:Int}{T H:Rat}{P W:List Rat}{yss:List (List Rat)}:∀ {i:Nat}{a z},BdL t.Au.toNat t.Ay.toNat a->bstagesQ t s lim T H P W yss i a=.inr z->BdL t.Au.toNat t.Ay.toNat z
 | 0,a,z,ha,h=>by simp only[bstagesQ] at h;cases h;exact ha
 | i+1,a,z,ha,h=>by
   simp only[bstagesQ] at h;cases hs:bstageQ t lim T H P (yss.getD i []) ((rv s.C).getD i 0) (bslQ (s.A.map rv) ((rv s.B).getD i 0) H W i a.ls) i with
   | inl f=>rw[hs] at h;cases h
   | inr g=>
     rw[hs] at h;have hg:g.1.length=t.Au.toNat∧g.2.length=t.Ay.toNat:=by obtain⟨x,h1,h2⟩:=Qv6 hs;rw[h2];exact Q4o h1
     exact Qwa (ha.step hg.1 hg.2) h
theorem Qy3{p:Qf}{T H:Rat}{Y W:List Rat}{z}(h:backThQ p T H Y W=.inr z):z.2.2.length=p.P.length:=by obtain⟨d1,d2⟩:=Qv7 h;obtain⟨_,_,hb⟩:=Qum h;obtain⟨x,b1,hx⟩:=Q4p hb;have:=Qwa ⟨d1,by simp only[List.length_replicate];exact d2,λ_ h=>by cases h⟩ b1;rw[hx];show x.P.length=_;rw[this.p,←d2,Q3]
theorem Jaa(l:List Qy):(l.map nT).map triT=l.map triT:=by rw[List.map_map];refine List.map_congr_left λt _=>?_;show(fv (toF (fv t.T)),fv (toF (fv t.H)),rv (toR (rv t.Y)))=_;rw[Q1,Q1,Kw];rfl
end Go.Proofs.YtkkfedionkhgnaaGreatDoor
