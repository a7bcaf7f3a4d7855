import Derived.Test.YtlfphifbmoccgaaGreatDoorMod
import Derived.Test.YtlfphifbmoccgaaGreatDoorModbb
import Derived.Test.YtlfphifbmoccgaaGreatDoorP1
import Derived.Test.YtlfphifbmoccgaaGreatDoorP2
import Derived.Test.YtlfphifbmoccgaaGreatDoorPb1
namespace Go.Proofs.YtlfphifbmoccgaaGreatDoor
open Go Go.RowKit
def absQ(q:Rat):Rat:=if q.num<0 then -q else q
theorem Jb7(q:Rat):toF (absQ q)=⟨⟨false,(toF q).Num.Abs⟩,(toF q).Den⟩:=by unfold absQ toF toW;split;rw[Qz1,Q5x,Int.natAbs_neg,decide_eq_false (by omega)];rw[decide_eq_false (by omega)]
theorem Q2d{n k:Nat}{f:Qa}(hn:big≤n)(hk:k<1099511627776)(hf:Fk k f):Qld n f=some (toF (absQ (fv f))):=by unfold Qld;rw[Wa hn (Fk_Fw hf (by omega)),sbind,Jb7]
def maxQ(a b:Rat):Rat:=if 0<(b - a).num.sign then b else a
theorem Q0j{n k:Nat}{f g:Qa}(hn:big≤n)(h1:1≤k)(hk:k<1099511627776)(hf:Fk k f)(hg:Fk k g):Qle n [f,g]=some (toF (maxQ (fv f) (fv g))):=by unfold Qle;simp only[jn_eq,rangeL];have hF:Fk k (toF (fv f)):=Jp (qw_fv hf h1);rw[Wb hn,sbind,show decide (((0:Nat):Int)=0)=true from rfl,bifT,bifT,Wa hn (Fk_Fw hf (by omega)),sbind,sbind];simp only[];rw[show decide (((0+1:Nat):Int)=0)=false from rfl,bifF,Qnw hn h1 hk hg hF,sbind,Q5,bifd];unfold maxQ;split;rw[Wa hn (Fk_Fw hg (by omega)),sbind];rfl;rfl
def normQ(l:List Rat):Rat:=l.foldl (λb x=>maxQ b (absQ x)) 0
theorem Q9h(q:Rat):qw (absQ q)=qw q:=by unfold absQ;split;exact Qnd q;rfl
theorem Jed{a b:Rat}{k:Nat}(ha:qw a≤k)(hb:qw b≤k):qw (maxQ a b)≤k:=by unfold maxQ;split<;>assumption
theorem Q2e{n k:Nat}{a:List Qa}(hn:big≤n)(h1:1≤k)(hk:k<1099511627776)(ha:FR k a):Qiv n a=some (toF (normQ (rv a))):=by
 unfold Qiv;have hq:∀(l:List Rat) (b:Rat),QR k l->qw b≤k->qw (l.foldl (λb x=>maxQ b (absQ x)) b)≤k:=by
  intro l
  induction l with
  | nil=>intro b _ hb;exact hb
  | cons x l ih=>intro b hl hb;exact ih _ (λq hq=>hl q (.tail _ hq)) (Jed hb (by rw[Q9h];exact hl x (.head _)))
 rw[Wb hn,sbind,Qez (λi=>toF ((rv (a.take i)).foldl (λb x=>maxQ b (absQ x)) 0)) a,Yv,List.take_length];rfl;intro i x hx;have e1:a.take (i+1)=a.take i++[x]:=by rw[List.take_add_one,hx];rfl
 have e3:rv (a.take (i+1))=rv (a.take i)++[fv x]:=by unfold rv;rw[e1,List.map_append];rfl
 have hx1:=ha x (Jt hx);have hb:=hq (rv (a.take i)) 0 (QR_rv (λy hy=>ha y (List.mem_of_mem_take hy)) h1) (by rw[Z1];exact h1);rw[Q2d hn hk hx1,sbind,Q0j hn h1 hk (Jp hb) (Jp (by rw[Q9h];exact qw_fv hx1 h1)),sbind,e3,List.foldl_append,Q5,Q5];rfl;rfl
set_option maxRecDepth 100000
theorem Q1k{lim:Int}{code:List Qs}{vs:List Rat}:∀ {i:Nat}{s z},(∀ j,s.co.getD j 0=0)->pullQ lim code vs i s=.inr z->z=s
 | 0,s,z,_,h=>by simp only[pullQ] at h;cases h;rfl
 | i+1,s,z,hc,h=>by
   simp only[pullQ] at h;cases hx:code[i]? with
   | none=>rw[hx] at h;cases h;rfl
   | some x=>
     rw[hx] at h;simp only[] at h;split at h
     case isFalse=>cases h
     have e:Qca x (s.co.getD i 0) (vs.getD i 0) vs s=s:=by unfold Qca;rw[if_pos (hc i)]
     rw[e] at h;exact Q1k hc h
theorem Q4l{m j:Nat}:(List.replicate m (0:Rat)).getD j 0=0:=by rw[List.getD_eq_getElem?_getD,List.getElem?_replicate];split<;>rfl
theorem Jas{m j:Nat}:∀ {os:List Int},coQ m os (List.replicate j 0)=List.replicate m 0:=by
 intro os;unfold coQ;generalize List.replicate m (0:Rat)=a
 induction os generalizing j with
 | nil=>simp
 | cons o os ih=>
   cases j with
   | zero=>simp
   | succ j=>
     rw[List.replicate_succ,List.zip_cons_cons,List.foldl_cons,Qyz];exact ih
theorem Q7d{l:List Rat}:scaleQ 0 l=List.replicate l.length 0:=by
 unfold scaleQ
 induction l with
 | nil=>rfl
 | cons a l ih=>rw[List.map_cons,ih,List.length_cons,List.replicate_succ,Rat.zero_mul]
theorem Q9i{t:Qm}{lim:Int}{T:Rat}{Y P:List Rat}{j:Nat}{z}(h:backQ t lim T Y P (List.replicate j 0)=.inr z):z.2.1=List.replicate t.Dim.toNat 0∧z.2.2=List.replicate t.Par.toNat 0:=by obtain⟨vs,x,_,h2,rfl⟩:=Qmq h;rw[Jas] at h2;have:=Q1k (λj=>Q4l) h2;subst this;exact⟨rfl,rfl⟩
theorem Qu6{t:Qm}{s:Qt}{lim:Int}{T:Rat}{P W:List Rat}{yss:List (List Rat)}:∀ {i:Nat}{a z},BdL t.Dim.toNat t.Par.toNat a->bstagesQ t s lim T 0 P W yss i a=.inr z->z.Y=a.Y∧z.P=a.P
 | 0,a,z,_,h=>by simp only[bstagesQ] at h;cases h;exact⟨rfl,rfl⟩
 | i+1,a,z,g,h=>by
   simp only[bstagesQ] at h;have e:∃ j,bslQ (s.A.map rv) ((rv s.B).getD i 0) 0 W i a.ls=List.replicate j 0:=⟨_,by unfold bslQ;rw[Q7d]⟩
   obtain⟨j,e⟩:=e;rw[e] at h;cases s1:bstageQ t lim T 0 P (yss.getD i []) ((rv s.C).getD i 0) (List.replicate j 0) i with
   | inl f=>rw[s1] at h;cases h
   | inr w=>
     rw[s1] at h;obtain⟨x,b1,rfl⟩:=Qjx s1;obtain⟨e1,e2⟩:=Q9i b1;simp only[] at h;obtain⟨f1,f2⟩:=Qu6 (g.step (by rw[e1];simp) (by rw[e2];simp)) h;rw[f1,f2,e1,e2];simp only[];rw[←g.y,←g.p,Qqm,Qqm];exact⟨rfl,rfl⟩
theorem Q5h{p:Qh}{T:Rat}{Y W:List Rat}{z}(h:backThQ p T 0 Y W=.inr z):z.2.1=W∧z.2.2=List.replicate p.P.length 0:=by
 obtain⟨l1,l2⟩:=Qhm h;obtain⟨_,_,a3⟩:=Qiq h;obtain⟨x,b1,e⟩:=Qph a3;have g:BdL p.Tape.Dim.toNat p.Tape.Par.toNat ⟨[],W,List.replicate (rv p.P).length 0⟩:=⟨l1,by simp;exact l2,λ_ h=>by cases h⟩
 obtain⟨e1,e2⟩:=Qu6 g b1;rw[e,e1,e2,Jb];exact⟨rfl,rfl⟩
set_option maxRecDepth 100000
theorem Qu7{f:Nat->Rat}:∀ {i:Nat},sumN f (i+1)=f 0+sumN (λj=>f (j+1)) i
 | 0=>by simp only[sumN];grind
 | i+1=>by rw[sumN,Qu7 (i:=i),sumN];grind
theorem Qe3{f g:Nat->Rat}:∀ {i:Nat},(∀ j,j<i->f j=g j)->sumN f i=sumN g i
 | 0,_=>rfl
 | i+1,h=>by rw[sumN,sumN,Qe3 λj hj=>h j (by omega),h i (by omega)]
theorem Qxf{f g:Nat->Rat}{c:Rat}:∀ {i:Nat},sumN (λj=>f j+c*g j) i=sumN f i+c*sumN g i
 | 0=>by simp only[sumN];grind
 | i+1=>by rw[sumN,sumN,sumN,Qxf];grind
theorem Qs0{f:Nat->Rat}{c:Rat}:∀ {i:Nat},sumN (λj=>c*f j) i=c*sumN f i
 | 0=>by simp only[sumN];grind
 | i+1=>by rw[sumN,sumN,Qs0];grind
theorem Qbo{a b:List Rat}{i:Nat}:psum a b i=psum b a i:=Qe3 λj _=>Rat.mul_comm _ _
theorem Qxg{c:Rat}{a b d:List Rat}{i:Nat}(h:b.length=a.length):psum d (linQ c a b) i=c*psum d a i+psum d b i:=by unfold psum;rw[Rat.add_comm,←Qxf];refine Qe3 λj _=>?_;rw[Qin h];grind
theorem Qs1{a b d:List Rat}{i:Nat}(h:b.length=a.length):psum d (addQ a b) i=psum d a i+psum d b i:=by
 have e:addQ a b=linQ 1 a b:=by unfold addQ linQ;congr 1;funext x y;rw[Rat.one_mul]
 rw[e,Qxg h,Rat.one_mul]
theorem Qi1{c:Rat}{a d:List Rat}{i:Nat}:psum d (scaleQ c a) i=c*psum d a i:=by
 unfold psum;rw[←Qs0];refine Qe3 λj _=>?_;have e:(scaleQ c a).getD j 0=c*a.getD j 0:=by
  unfold scaleQ;rw[List.getD_eq_getElem?_getD,List.getD_eq_getElem?_getD,List.getElem?_map];cases a[j]? with
  | none=>show(0:Rat)=c*0;rw[Rat.mul_zero]
  | some x=>rfl
 rw[e];grind
theorem Qkw{d:List Rat}{m i:Nat}:psum d (List.replicate m 0) i=0:=by
 unfold psum
 induction i with
 | zero=>rfl
 | succ i ih=>rw[sumN,ih,Q4l];grind
theorem Q9j{x y:Rat}{a b:List Rat}{i:Nat}:psum (x::a) (y::b) (i+1)=x*y+psum a b i:=by unfold psum;rw[Qu7];rfl
theorem Qpi{m i:Nat}{d:List Rat}:∀ {cs:List Rat}{l:List (List Rat)}{z:List Rat},cs.length=l.length->(∀ a∈l,a.length=m)->z.length=m →
 psum d (mixQ cs l z) i=psum d z i+sumN (λj=>cs.getD j 0*psum d (l.getD j []) i) l.length
 | [],[],z,_,_,_=>by simp only[mixQ,List.length_nil,sumN];grind
 | [],_::_,_,h,_,_=>by simp at h
 | _::_,[],_,h,_,_=>by simp at h
 | c::cs,a::l,z,h,hl,hz=>by
   have ea:List.zipWith (λx o=>o+c*x) a z=linQ c a z:=by unfold linQ;congr 1;funext x o;rw[Rat.add_comm]
   have ha:=hl a (.head _);simp only[mixQ];rw[ea,Qpi (by simpa using h) (λa' h'=>hl a' (.tail _ h')) (by rw[Qvo (by omega)];exact ha),Qxg (by omega),List.length_cons,Qu7];simp only[List.getD_cons_zero,List.getD_cons_succ];grind
theorem Qy2{l:List Rat}{a:Int}{c:Rat}{j:Nat}:(addAt l a c).getD j 0=if j=a.toNat∧j<l.length then l.getD j 0+c else l.getD j 0:=by unfold addAt;generalize a.toNat=a;rw[List.getD_eq_getElem?_getD,List.getD_eq_getElem?_getD,List.getD_eq_getElem?_getD,List.getElem?_set];by_cases h:j=a;subst h;by_cases hl:j<l.length;rw[if_pos rfl,if_pos hl,if_pos ⟨rfl,hl⟩];rfl;rw[if_pos rfl,if_neg hl,if_neg (λh=>hl h.2),List.getElem?_eq_none (by omega)];rw[if_neg (λe=>h e.symm),if_neg (λe=>h e.1)]
theorem Qoo{l d:List Rat}{a:Int}{c:Rat}:∀ {i:Nat},a.toNat<i->a.toNat<l.length->psum (addAt l a c) d i=psum l d i+c*d.getD a.toNat 0
 | 0,h,_=>by omega
 | i+1,h,hl=>by
   rw[Qe1,Qe1,Qy2];by_cases e:a.toNat=i;have:psum (addAt l a c) d i=psum l d i:=Qe3 λj hj=>by rw[Qy2,if_neg (by omega)]
   rw[this,if_pos ⟨e.symm,by omega⟩,e];grind;rw[Qoo (by omega) hl,if_neg (by omega)];grind
theorem Q4m{t:Qm}{i:Nat}{x:Qs}(h:mayR t i x):x.Op=1∨x.Op=2∨x.Op=3∨x.Op=4∨x.Op=6∨x.Op=7∨x.Op=8∨x.Op=9∨x.Op=10∨x.Op=11:=by unfold mayR at h;by_cases c1:x.Op=1;omega;rw[if_neg c1] at h;by_cases c2:x.Op=2;omega;by_cases c3:x.Op=3;omega;by_cases c4:x.Op=4;omega;by_cases c6:x.Op=6;omega;by_cases c11:x.Op=11;omega;rw[if_neg c2,if_neg c3,if_neg c4,if_neg c6,if_neg c11] at h;have h2:=h.2.2;unfold rdT at h2;rw[if_neg (by omega)] at h2;by_cases c7:x.Op=7∨x.Op=8∨x.Op=9∨x.Op=10;omega;rw[if_neg c7] at h2;simp at h2
section
variable {t:Qm}{lim:Int}{T':Rat}{Y' P' vs ds:List Rat}
def inn(T':Rat)(Y' P' ds:List Rat)(s:BkS)(i:Nat):Rat:=psum s.co ds i+s.T*T'+psum s.Y Y' s.Y.length+psum s.P P' s.P.length
theorem Jat{x:Qs}{i:Nat}{s:BkS}(hm:mayR t i x)(hs:ds.getD i 0=slopeQ x (vs.getD i 0) T' Y' P' vs ds)(hc:i≤s.co.length)(hy:(s.Y.length:Int)=t.Dim)(hp:(s.P.length:Int)=t.Par):
 inn T' Y' P' ds s (i+1)=inn T' Y' P' ds (Qca x (s.co.getD i 0) (vs.getD i 0) vs s) i:=by
 have rd:=Qrw hm;have dA:x.Op=6∨x.Op=11∨x.Op=7∨x.Op=8∨x.Op=9∨x.Op=10->0≤x.A∧x.A<(i:Int):=λh=>rd _ (rdT_A h);have dB:x.Op=7∨x.Op=8∨x.Op=9∨x.Op=10->0≤x.B∧x.B<(i:Int):=λh=>rd _ (rdT_B h);rw[Qy0];unfold inn;rw[Qe1,hs];generalize s.co.getD i 0=c;generalize vs.getD i 0=r;have one:∀ q:Rat,x.A.toNat<i->psum (addAt s.co x.A q) ds i=psum s.co ds i+q*ds.getD x.A.toNat 0:=λq h=>Qoo h (by omega)
 have two:∀ q q':Rat,x.A.toNat<i->x.B.toNat<i->psum (addAt (addAt s.co x.A q) x.B q') ds i=psum s.co ds i+q*ds.getD x.A.toNat 0+q'*ds.getD x.B.toNat 0:=λq q' h h'=>by rw[Qoo h' (by rw[Zs];omega),one q h]
 rcases Q4m hm with o | o | o | o | o | o | o | o | o | o<;>simp only[bk1,slopeQ,o,Int.reduceEq,if_false,if_true,↓reduceIte];grind;grind;have:=Qyl hm o;rw[Zs,Qoo (by omega) (by omega)];grind;have:=Qym hm o;rw[Zs,Qoo (by omega) (by omega)];grind;rw[one _ (by have:=dA (by omega);omega)];generalize ds.getD x.A.toNat 0=d1;grind;rw[two _ _ (by have:=dA (by omega);omega) (by have:=dB (by omega);omega)];generalize ds.getD x.A.toNat 0=d1;generalize ds.getD x.B.toNat 0=d2;grind;rw[two _ _ (by have:=dA (by omega);omega) (by have:=dB (by omega);omega)];generalize ds.getD x.A.toNat 0=d1;generalize ds.getD x.B.toNat 0=d2;grind;rw[two _ _ (by have:=dA (by omega);omega) (by have:=dB (by omega);omega)];generalize ds.getD x.A.toNat 0=d1;generalize ds.getD x.B.toNat 0=d2;generalize vs.getD x.A.toNat 0=v1;generalize vs.getD x.B.toNat 0=v2;grind;rw[two _ _ (by have:=dA (by omega);omega) (by have:=dB (by omega);omega)];simp only[Rat.div_def];generalize ds.getD x.A.toNat 0=d1;generalize ds.getD x.B.toNat 0=d2;generalize (vs.getD x.B.toNat 0)⁻¹=v2;grind;rw[one _ (by have:=dA (by omega);omega)];generalize ds.getD x.A.toNat 0=d1;generalize turnQ (vs.getD x.A.toNat 0) r x.B=tq;generalize (x.B:Rat)=e;grind
theorem Q4n{code:List Qs}:∀ {i:Nat}{s z},i≤code.length->i≤s.co.length->(s.Y.length:Int)=t.Dim->(s.P.length:Int)=t.Par →
 (∀(j:Nat) x,code[j]?=some x->mayR t j x∧ds.getD j 0=slopeQ x (vs.getD j 0) T' Y' P' vs ds)->pullQ lim code vs i s=.inr z->inn T' Y' P' ds s i=inn T' Y' P' ds z 0
 | 0,s,z,_,_,_,_,_,h=>by simp only[pullQ] at h;cases h;rfl
 | i+1,s,z,hi,hc,hy,hp,hm,h=>by
   have hx:code[i]?=some (code[i]'(by omega)):=List.getElem?_eq_getElem _;generalize code[i]'(by omega)=x at hx;obtain⟨m1,m2⟩:=hm i x hx;simp only[pullQ,hx] at h;split at h
   case isFalse=>cases h
   obtain⟨a1,a2,a3⟩:=Ql1 (x:=x) (c:=s.co.getD i 0) (r:=vs.getD i 0) (vs:=vs) (s:=s);rw[Jat m1 m2 (by omega) hy hp];exact Q4n (by omega) (by omega) (by rw[a2];exact hy) (by rw[a3];exact hp) hm h
end
theorem Qb3{l:List Rat}{i j:Nat}(h:j<i):(l.take i).getD j 0=l.getD j 0:=by rw[List.getD_eq_getElem?_getD,List.getD_eq_getElem?_getD,List.getElem?_take,if_pos h]
theorem Q7e{t:Qm}{x:Qs}{i:Nat}{q T:Rat}{Y P vs ds:List Rat}(hm:mayR t i x):slopeQ x q T Y P (vs.take i) (ds.take i)=slopeQ x q T Y P vs ds:=by
 have rd:=Qrw hm;have dA:x.Op=6∨x.Op=11∨x.Op=7∨x.Op=8∨x.Op=9∨x.Op=10->0≤x.A∧x.A<(i:Int):=λh=>rd _ (rdT_A h);have dB:x.Op=7∨x.Op=8∨x.Op=9∨x.Op=10->0≤x.B∧x.B<(i:Int):=λh=>rd _ (rdT_B h);rcases Q4m hm with o | o | o | o | o | o | o | o | o | o<;>simp only[slopeQ,o,Int.reduceEq,if_false,if_true,↓reduceIte]
 . rw[Qb3 (by have:=dA (by omega);omega)]
 all_goals first
  | rw[Qb3 (by have:=dA (by omega);omega),Qb3 (by have:=dB (by omega);omega),Qb3 (by have:=dA (by omega);omega),Qb3 (by have:=dB (by omega);omega)]
  | rw[Qb3 (by have:=dA (by omega);omega),Qb3 (by have:=dB (by omega);omega),Qb3 (by have:=dB (by omega);omega)]
  | rw[Qb3 (by have:=dA (by omega);omega),Qb3 (by have:=dB (by omega);omega)]
  | rw[Qb3 (by have:=dA (by omega);omega),Qb3 (by have:=dA (by omega);omega)]
theorem Q4o{lim:Int}{T:Rat}{Y P:List Rat}{T':Rat}{Y' P':List Rat}:∀ {c:List Qs}{i:Nat}{vs ds:List Rat}{l},ds.length=vs.length->prunQ lim T Y P T' Y' P' c i vs ds=.inr l →
 (∃ e,l.1=vs++e)∧(∃ e,l.2=ds++e)∧runQ lim T Y P c i vs=.inr l.1∧∀(q:Nat) x,c[q]?=some x->l.2.getD (vs.length+q) 0=slopeQ x (l.1.getD (vs.length+q) 0) T' Y' P' (l.1.take (vs.length+q)) (l.2.take (vs.length+q))
 | [],i,vs,ds,l,hd,h=>by simp only[prunQ] at h;cases h;exact⟨⟨[],by simp⟩,⟨[],by simp⟩,rfl,λq x hx=>by simp at hx⟩
 | x::c,i,vs,ds,l,hd,h=>by
   simp only[prunQ] at h;simp only[runQ];cases hq:opQ x T Y P vs with
   | none=>rw[hq] at h;cases h
   | some q=>
     rw[hq] at h;simp only[] at h ⊢;split at h
     case isFalse=>cases h
     rename_i hf;split at h
     case isFalse=>cases h
     rw[if_pos hf];obtain⟨⟨e1,h1⟩,⟨e2,h2⟩,h3,h4⟩:=Q4o (by simp;exact hd) h;refine⟨⟨q::e1,by rw[h1];simp⟩,⟨_::e2,by rw[h2];simp;rfl⟩,h3,λk y hy=>?_⟩;cases k with
     | zero=>
       simp only[List.getElem?_cons_zero,Option.some.injEq] at hy;subst hy;rw[Nat.add_zero,h1,h2];have g1:(vs++[q]++e1).getD vs.length 0=q:=by rw[List.append_assoc,List.getD_eq_getElem?_getD,List.getElem?_append_right (Nat.le_refl _),Nat.sub_self];rfl
       have g2:∀ w:Rat,(ds++[w]++e2).getD vs.length 0=w:=λw=>by rw[List.append_assoc,List.getD_eq_getElem?_getD,←hd,List.getElem?_append_right (Nat.le_refl _),Nat.sub_self];rfl
       have g3:(vs++[q]++e1).take vs.length=vs:=by rw[List.append_assoc,List.take_left]
       have g4:∀ w:Rat,(ds++[w]++e2).take vs.length=ds:=λw=>by rw[List.append_assoc,←hd,List.take_left]
       rw[g1,g2,g3,g4]
     | succ k=>
       have:=h4 k y (by simpa using hy);rw[List.length_append,List.length_singleton,show vs.length+1+k=vs.length+(k+1) by omega] at this;exact this
theorem Q53{ds:List Rat}{m:Nat}:∀ {os:List Int}{w a:List Rat},w.length=os.length->(∀ o∈os,o.toNat<m)->a.length=m →
 psum ((List.zip os w).foldl (λco z=>addAt co z.1 z.2) a) ds m=psum a ds m+psum w (os.map λo=>ds.getD o.toNat 0) w.length
 | [],[],a,_,_,_=>by simp[psum,sumN];grind
 | [],_::_,_,h,_,_=>by simp at h
 | _::_,[],_,h,_,_=>by simp at h
 | o::os,x::w,a,h,ho,ha=>by have h0:=ho o (.head _);simp only[List.zip_cons_cons,List.foldl_cons,List.map_cons,List.length_cons];rw[Q53 (by simpa using h) (λo' h'=>ho o' (.tail _ h')) (by rw[Zs];exact ha),Qoo h0 (by omega),Q9j];grind
theorem Jau{t:Qm}{lim:Int}{T T':Rat}{Y P Y' P' w:List Rat}{z l}(ht:tapeR t)(hw:w.length=t.Outs.length)(hb:backQ t lim T Y P w=.inr z)(hp:pfieldQ t lim T Y P T' Y' P'=.inr l):
 psum w l.2 w.length=z.1*T'+psum z.2.1 Y' t.Dim.toNat+psum z.2.2 P' t.Par.toNat:=by
 obtain⟨⟨d1,d2⟩,⟨d3,d4⟩,d5,d6⟩:=ht.1;unfold pfieldQ at hp;cases hr:prunQ lim T Y P T' Y' P' t.Code 0 [] [] with
 | inl e=>rw[hr] at hp;cases hp
 | inr q=>
   rw[hr] at hp;cases hp;obtain⟨_,_,r1,r2⟩:=Q4o rfl hr;obtain⟨vs,x,b1,b2,rfl⟩:=Qmq hb;rw[r1] at b1;injection b1 with b1
   subst b1;have hvl:q.1.length=t.Code.length:=by
    have:∀ {c:List Qs}{i:Nat}{vs l:List Rat},runQ lim T Y P c i vs=.inr l->l.length=vs.length+c.length:=by
     intro c
     induction c with
     | nil=>intro i vs l h;simp only[runQ] at h;cases h;rfl
     | cons x c ih=>
       intro i vs l h;simp only[runQ] at h;cases hq:opQ x T Y P vs with
       | none=>rw[hq] at h;cases h
       | some q=>
         rw[hq] at h;simp only[] at h;split at h;rw[ih h];simp;omega;cases h
    have:=this r1
    simpa using this
   have hs:=Qxc b2
   have key:=Q4n (t:=t) (T':=T') (Y':=Y') (P':=P') (ds:=q.2) (by omega) (by simp only[Q52];omega) (by simp;omega) (by simp;omega) (λj x hx=>⟨ht.2.1 j x hx,by
    have:=r2 j x hx;rw[List.length_nil,Nat.zero_add,Q7e (ht.2.1 j x hx)] at this
    exact this⟩) b2
   unfold inn at key;simp only[] at key;unfold coQ at key;rw[Q53 hw (λo ho=>by have:=ht.2.2 o ho;omega) (by simp),Qbo,Qkw,Qbo (a:=List.replicate t.Dim.toNat 0),Qkw,Qbo (a:=List.replicate t.Par.toNat 0),Qkw] at key;have y1:=hs.y;have y2:=hs.p;simp only[List.length_replicate] at y1 y2;rw[y1,y2,show psum x.co q.2 0=0 from rfl] at key;simp only[];grind
set_option maxRecDepth 100000
theorem Qwq{t:Qm}{lim:Int}{T H:Rat}{U V P:List Rat}:∀ {r:List ((List Rat×Rat)×List Rat)}{i:Nat}{kss z},tstagesQ t lim T H U V P r i kss=.inr z →
 (∃ e,z=kss++e)∧z.length=kss.length+r.length∧∀(q:Nat) x,r[q]?=some x->∃ l,pfieldQ t lim (T+H*x.1.2) x.2 P 0 (fromQ H U x.1.1 (z.take (kss.length+q))) V=.inr l∧z[kss.length+q]?=some l.2
 | [],i,kss,z,h=>by simp only[tstagesQ] at h;cases h;exact⟨⟨[],by simp⟩,rfl,λq x hx=>by simp at hx⟩
 | x::r,i,kss,z,h=>by
   simp only[tstagesQ] at h;cases hs:tstageQ t lim T H U V P x.2 x.1.1 x.1.2 i kss with
   | inl f=>rw[hs] at h;cases h
   | inr w=>
     rw[hs] at h;simp only[] at h;obtain⟨⟨e,h1⟩,h2,h3⟩:=Qwq h;refine⟨⟨w::e,by rw[h1];simp⟩,by rw[h2];simp;omega,λq y hy=>?_⟩;cases q with
     | zero=>
       simp only[List.getElem?_cons_zero,Option.some.injEq] at hy;subst hy;unfold tstageQ at hs;cases hf:fitQ lim (fromQ H U x.1.1 kss) 0 with
       | some j=>rw[hf] at hs;cases hs
       | none=>
         rw[hf] at hs;simp only[] at hs;cases hp:pfieldQ t lim (T+H*x.1.2) x.2 P 0 (fromQ H U x.1.1 kss) V with
         | inl e=>rw[hp] at hs;cases hs
         | inr l=>
           rw[hp] at hs;cases hs;refine⟨l,?_,?_⟩;rw[Nat.add_zero,h1,List.append_assoc,List.take_left];exact hp;rw[Nat.add_zero,h1,List.append_assoc,List.getElem?_append_right (Nat.le_refl _),Nat.sub_self];rfl
     | succ q=>
       have:=h3 q y (by simpa using hy);rw[List.length_append,List.length_singleton,show kss.length+1+q=kss.length+(q+1) by omega] at this;exact this
theorem Q7f{l:List (List Rat)}{i j:Nat}(h:j<i):(l.take i).getD j []=l.getD j []:=by rw[List.getD_eq_getElem?_getD,List.getD_eq_getElem?_getD,List.getElem?_take,if_pos h]
def gQ(s:Qt)(H:Rat)(W:List Rat)(j i:Nat)(ls:List (List Rat)):List Rat:=
 scaleQ H (mixQ (((s.A.map rv).drop i).map λa=>a.getD j 0) ls (scaleQ ((rv s.B).getD j 0) W))
theorem Jb8{s:Qt}{H:Rat}{W u:List Rat}{i j m:Nat}{ls:List (List Rat)}{x d:List Rat}{a:List Qa}(ha:s.A[i]?=some a)(hl:ls.length+(i+1)=s.A.length)(h1:∀ x∈ls,x.length=m)(hx:x.length=m)(hW:W.length=m):
 psum d (gQ s H W j i (x::ls)) m=psum d (gQ s H W j (i+1) ls) m+H*((rv a).getD j 0*psum d x m):=by
 have hi:=Ve ha;have e:(s.A.map rv).drop i=rv a::(s.A.map rv).drop (i+1):=by
  have hm:(s.A.map rv)[i]?=some (rv a):=by rw[List.getElem?_map,ha];rfl
  have hi2:=Ve hm;rw[List.drop_eq_getElem_cons hi2];rw[List.getElem?_eq_getElem hi2] at hm;rw[Option.some.inj hm]
 have l0:(scaleQ ((rv s.B).getD j 0) W).length=m:=by rw[X6];exact hW
 have ea:∀(c:Rat) (a z:List Rat),List.zipWith (λx o=>o+c*x) a z=linQ c a z:=λc a z=>by unfold linQ;congr 1;funext x o;rw[Rat.add_comm]
 have hcl:(((s.A.map rv).drop (i+1)).map λa=>a.getD j 0).length=ls.length:=by rw[List.length_map,List.length_drop,List.length_map];omega
 unfold gQ;rw[Qi1,Qi1,e,List.map_cons];simp only[mixQ];rw[ea,Qpi (m:=m) hcl h1 (by rw[Qvo (by omega)];exact hx),Qpi (m:=m) hcl h1 l0,Qxg (by omega)];grind
theorem Qwr{t:Qm}{s:Qt}{lim:Int}{T H:Rat}{P W U V:List Rat}{yss kss:List (List Rat)}(ht:tapeR t)(hs:schR s)(hU:U.length=t.Dim.toNat)(hW:W.length=t.Dim.toNat)
 (hkl:kss.length=s.B.length) (hkm:∀ a∈kss,a.length=t.Dim.toNat) (hyl:yss.length=s.B.length)
 (hk:∀(q:Nat) x,(List.zip (pairQ s) yss)[q]?=some x->∃ l,pfieldQ t lim (T+H*x.1.2) x.2 P 0 (fromQ H U x.1.1 (kss.take q)) V=.inr l∧kss[q]?=some l.2):∀ {i:Nat}{a z},i≤s.B.length->a.ls.length+i=s.B.length->BdL t.Dim.toNat t.Par.toNat a →
 bstagesQ t s lim T H P W yss i a=.inr z->psum z.Y U t.Dim.toNat+psum z.P V t.Par.toNat=psum a.Y U t.Dim.toNat+psum a.P V t.Par.toNat+sumN (λj=>psum (kss.getD j []) (gQ s H W j i a.ls) t.Dim.toNat) i
 | 0,a,z,_,_,_,h=>by simp only[bstagesQ] at h;cases h;simp only[sumN];grind
 | i+1,a,z,hi,hal,g,h=>by
   obtain⟨⟨d1,d2⟩,⟨d3,d4⟩,d5,d6⟩:=ht.1;obtain⟨⟨g1,g2⟩,g3,g4,g5,g6⟩:=hs.2.1;simp only[bstagesQ] at h;obtain⟨ai,hai⟩:∃ x,s.A[i]?=some x:=⟨s.A[i]'(by omega),List.getElem?_eq_getElem _⟩
   obtain⟨ci,hci⟩:∃ x,s.C[i]?=some x:=⟨s.C[i]'(by omega),List.getElem?_eq_getElem _⟩
   obtain⟨yi,hyi⟩:∃ x,yss[i]?=some x:=⟨yss[i]'(by omega),List.getElem?_eq_getElem _⟩
   have hz:(List.zip (pairQ s) yss)[i]?=some ((rv ai,fv ci),yi):=by rw[List.getElem?_zip_eq_some];refine⟨?_,hyi⟩;unfold pairQ rv;rw[List.getElem?_zip_eq_some];simp only[List.getElem?_map];exact⟨by rw[hai];rfl,by rw[hci];rfl⟩
   obtain⟨l,k1,k2⟩:=hk i _ hz;have ey:yss.getD i []=yi:=by rw[List.getD_eq_getElem?_getD,hyi];rfl
   rw[ey,Qgi hci,show bslQ (s.A.map rv) ((rv s.B).getD i 0) H W i a.ls=gQ s H W i (i+1) a.ls from rfl] at h;have hGl:(gQ s H W i (i+1) a.ls).length=t.Dim.toNat:=by have:=Qxe (As:=s.A.map rv) (b:=(rv s.B).getD i 0) (H:=H) (i:=i) (W:=W) (l:=a.ls) (by rw[hW];exact g.l);rw[hW] at this;exact this
   cases s1:bstageQ t lim T H P yi (fv ci) (gQ s H W i (i+1) a.ls) i with
   | inl f=>rw[s1] at h;cases h
   | inr w=>
     rw[s1] at h;obtain⟨x,b1,rfl⟩:=Qjx s1;obtain⟨l1,l2⟩:=Qxd b1;simp only[] at h;have ih:=Qwr ht hs hU hW hkl hkm hyl hk (by omega) (by show a.ls.length+1+i=_;omega) (g.step l1 l2) h;have adj:=Jau ht (by omega) b1 k1;rw[hGl,Rat.mul_zero,Rat.zero_add] at adj;simp only[] at adj;have ek:kss.getD i []=l.2:=by rw[List.getD_eq_getElem?_getD,k2];rfl
     have hal2:=g6 i ai hai;have hkt:(kss.take i).length=i:=by rw[List.length_take];omega
     have hkm2:∀ a∈kss.take i,a.length=t.Dim.toNat:=λa ha=>hkm a (List.mem_of_mem_take ha);have hx:psum x.2.1 (fromQ H U (rv ai) (kss.take i)) t.Dim.toNat=psum x.2.1 U t.Dim.toNat+H*sumN (λj=>(rv ai).getD j 0*psum (kss.getD j []) x.2.1 t.Dim.toNat) i:=by unfold fromQ towQ;rw[Qs1 (by rw[X6,Qfj (m:=U.length) (λa ha=>by rw[hkm2 a ha,hU]) (by simp)]),Qi1,Qpi (m:=U.length) (by rw[Jb];omega) (λa ha=>by rw[hkm2 a ha,hU]) (by simp),Qkw,Rat.zero_add,hkt];congr 2;refine Qe3 λj hj=>?_;rw[Qbo,Q7f hj]
     have hS:sumN (λj=>psum (kss.getD j []) (gQ s H W j i (x.2.1::a.ls)) t.Dim.toNat) i=sumN (λj=>psum (kss.getD j []) (gQ s H W j (i+1) a.ls) t.Dim.toNat) i+H*sumN (λj=>(rv ai).getD j 0*psum (kss.getD j []) x.2.1 t.Dim.toNat) i:=by rw[←Qxf];refine Qe3 λj hj=>?_;exact Jb8 (u:=U) hai (by omega) g.l l1 hW
     rw[hS] at ih;simp only[] at ih;rw[Qbo (a:=addQ a.Y x.2.1),Qs1 (by rw[l1,g.y]),Qbo (a:=addQ a.P x.2.2),Qs1 (by rw[l2,g.p])] at ih;rw[hx,Qbo (b:=l.2),←ek] at adj;rw[sumN,Qbo (a:=a.Y),Qbo (a:=a.P)];rw[Qbo (a:=x.2.1),Qbo (a:=x.2.2)] at adj;grind
theorem Jav{t:Qm}{s:Qt}{lim:Int}{T H:Rat}{P W U V:List Rat}{yss:List (List Rat)}{z x}(hlim:lim≤4096)(ht:tapeR t)(hs:schR s)(hU:U.length=t.Dim.toNat)(hW:W.length=t.Dim.toNat)(hP:P.length=t.Par.toNat)(hyl:yss.length=s.B.length)
 (h1:tdoQ t s lim T H U V P yss=.inr z) (h2:bdoQ t s lim T H P W yss=.inr x):psum W z.1 t.Dim.toNat=psum x.1 U t.Dim.toNat+psum x.2 V t.Par.toNat:=by
 obtain⟨⟨d1,d2⟩,⟨d3,d4⟩,d5,d6⟩:=ht.1;obtain⟨⟨g1,g2⟩,g3,g4,g5,g6⟩:=hs.2.1;obtain⟨y,b1,rfl⟩:=Qph h2;unfold tdoQ at h1;cases hk:tstagesQ t lim T H U V P (List.zip (pairQ s) yss) 0 [] with
 | inl f=>rw[hk] at h1;cases h1
 | inr kss=>
   rw[hk] at h1;simp only[] at h1;rw[Qkt h1];obtain⟨_,k2,k3⟩:=Qwq hk;have hkm:=Qm3 hlim (by omega) (λ_ h=>by cases h) hk;have hkl:kss.length=s.B.length:=by rw[k2,List.length_nil,Nat.zero_add,List.length_zip];unfold pairQ;rw[List.length_zip,List.length_map,Jb];omega
   have gB:BdL t.Dim.toNat t.Par.toNat ⟨[],W,List.replicate P.length 0⟩:=⟨hW,by simp;exact hP,λ_ h=>by cases h⟩
   have key:=Qwr ht hs hU hW hkl (λa ha=>by rw[hkm a ha,hU]) hyl (λq x hx=>by
    have:=k3 q x hx
    rwa [List.length_nil,Nat.zero_add] at this) (Nat.le_refl _) (by simp) gB b1
   simp only[] at key ⊢;rw[key,Qbo (a:=List.replicate P.length 0),Qkw];unfold fromQ towQ;rw[Qs1 (by rw[X6,Qfj (m:=U.length) (λa ha=>hkm a ha) (by simp)]),Qi1,Qpi (m:=U.length) (by rw[Jb];omega) (λa ha=>hkm a ha) (by simp),Qkw,Rat.zero_add,Rat.add_zero,hkl,←Qs0];congr 1;refine Qe3 λj hj=>?_;have e:gQ s H W j s.B.length []=scaleQ H (scaleQ ((rv s.B).getD j 0) W):=by unfold gQ;cases ((s.A.map rv).drop s.B.length).map λa=>a.getD j 0<;>rfl
   rw[e,Qi1,Qi1,Qbo (a:=W)]
theorem backTilt{p:Qh}{T H:Rat}{Y W U V:List Rat}{z x}(h1:tiltQ p T H Y U V=.inr z)(h2:backThQ p T H Y W=.inr x):psum W z.2.1 p.Tape.Dim.toNat=psum x.2.1 U p.Tape.Dim.toNat+psum x.2.2 V p.Tape.Par.toNat:=by
 obtain⟨a1,a2,a3,a4⟩:=Qku h1;obtain⟨l1,l2⟩:=Qhm h2;obtain⟨b1,b2,b3⟩:=Qiq h2;rw[a1] at b1;injection b1 with b1
 rw[←b1] at b3;obtain⟨r1,r2,_⟩:=Qba a1;obtain⟨r6,r7⟩:=Qw7 a1;exact Jav (by unfold limQ;omega) r1.1 r1.2.1 (by omega) l1 l2 r7 a4 b3
set_option maxRecDepth 100000
theorem Q9k:∀ m:Nat,normQ (List.replicate m 0)=0:=by
 have e:maxQ 0 (absQ 0)=0:=by decide +kernel
 have h:∀ m:Nat,(List.replicate m (0:Rat)).foldl (λb x=>maxQ b (absQ x)) 0=0:=by
  intro m
  induction m with
  | zero=>rfl
  | succ m ih=>rw[List.replicate_succ,List.foldl_cons,e];exact ih
 exact h
theorem Qy3{n k:Nat}{a b c d:List Qa}(hn:big≤n)(h1:1≤k)(hk:k<1000)(ha:FR k a)(hb:FR k b)(hc:FR k c)(hd:FR k d)(hl:a.length≤1000)(hl2:b.length≤1000)(e1:a.length=c.length)(e2:b.length=d.length):
 Qdq n ⟨a,b⟩ c d=some (toF (psum (rv a) (rv c) a.length+psum (rv b) (rv d) b.length),true):=by
 have bnd:∀ {a b:List Qa},FR k a->FR k b->∀ i:Nat,qw (psum (rv a) (rv b) i)≤1+i*(k+k+1):=by
  intro a b ha hb i
  induction i with
  | zero=>show qw 0≤_;rw[Z1];omega
  | succ i ih=>
    have e:=Qae ih (Yx (Wc (i:=i) (QR_rv ha h1) h1) (Wc (i:=i) (QR_rv hb h1) h1));have:(i+1)*(k+k+1)=i*(k+k+1)+(k+k+1):=Nat.succ_mul _ _;rw[Qe1];omega
 have b1:=bnd ha hc a.length;have b2:=bnd hb hd b.length;have m1:a.length*(k+k+1)≤1000*(k+k+1):=Nat.mul_le_mul_right _ hl;have m2:b.length*(k+k+1)≤1000*(k+k+1):=Nat.mul_le_mul_right _ hl2;unfold Qdq;rw[Qip hn h1 (by omega) ha hc hl,sbind,Qip hn h1 (by omega) hb hd hl2,sbind,if_pos e1,if_pos e2];simp only[jn_eq,Bool.not_true,bifF];rw[Vw (k:=1+1000*(k+k+1)) hn (by omega) (by omega) (Jp (by omega)) (Jp (by omega)),sbind,Q5,Q5]
theorem Q4p(p:Qx)(f:J9)(b:Kt)(w:List Qc)(hB:Vv p)(hF:Zh f)(hb:Qag b)(hwB:Q6 w):∃ n,Ze n p f b w=some true:=by
 refine⟨big,?_⟩;have hn:big≤big:=Nat.le_refl _;unfold Ze;simp only[jn_eq];obtain⟨v,e1,e2⟩:=Qhs (p:=p) (a:=10) (b:=4) (k:=2) hn (by decide) (by decide);rw[show((10:Nat):Int)=10 from rfl,show((4:Nat):Int)=4 from rfl,show((2:Nat):Int)=2 from rfl] at e1;rw[e1,sbind];cases v
 case true=>rw[bifT,bifT,w35];rfl
 obtain⟨⟨t1,t2,t3⟩,⟨s1,s2,s3,s4,s5,s6⟩,p1⟩:=e2 rfl;rw[bifF];by_cases c1:(3:Int)<(p.Scheme.B.length:Int)
 . rw[decide_eq_true c1,bifT,bifT,w35];rfl
 rw[decide_eq_false c1,bifF];obtain⟨v,e3,e4⟩:=Ql0 (f:=f) hn;rw[e3,sbind];cases v
 case true=>rw[bifT,bifT,w35];rfl
 obtain⟨f1,f2,f3⟩:=e4 rfl;obtain⟨v,e5,e6⟩:=Qe0 (b:=b) hn;rw[bifF,e5,sbind];cases v
 case true=>rw[bifT,bifT,w35];rfl
 obtain⟨u1,v1⟩:=e6 rfl;obtain⟨v,e7,e8⟩:=Vp (l:=w) (many:=6) (k:=2) hn (by decide);rw[show((6:Nat):Int)=6 from rfl,show((2:Nat):Int)=2 from rfl] at e7;rw[bifF,e7,sbind];cases v
 case true=>rw[bifT,w35];rfl
 rw[bifF];have uw:=e8 rfl;obtain⟨bu1,bv1,_⟩:=hb;have hw:=Qvp (bits:=1500) hB (by decide) (e2 rfl);have hT:Fk 129 (tF f.T):=Vg (Fk_tF hF.1 f1) (by decide);have hH:Fk 129 (tF f.H):=Vg (Fk_tF hF.2.1 f2) (by decide);have hY:FR 129 (f.Y.map tF):=J6 (FR_tF hF.2.2.1 f3) (by decide);have h0:Fk 129 (toF 0):=Jp (by rw[Z1];decide);have hU:FR 129 (b.U.map tF):=J6 (FR_tF bu1 u1) (by decide);have hV:FR 129 (b.V.map tF):=J6 (FR_tF bv1 v1) (by decide);have hW:FR 129 (w.map tF):=J6 (FR_tF hwB uw) (by decide);have lW:(w.map tF).length≤6:=by have:=uw.1;rw[List.length_map];omega
 have to:∀ x:Qc,Jf x=some (tF x):=λ_=>rfl;rw[Qj7 hn (by omega) (by omega) (by omega) (by have:=s3.1;omega) (by have:=s4.1;omega) (by have:=s5.1;omega) (λr hr=>by have:=(s6 r hr).1;omega) (by have:=p1.1;omega),sbind,to,sbind,to,sbind,Kd hn (by have:=f3.1;omega),sbind,Kd hn (by have:=u1.1;omega),sbind,Kd hn (by have:=v1.1;omega),sbind,Kd hn (by have:=uw.1;omega),sbind];rw[show(⟨(tP p).Tape,(tP p).Scheme,(tP p).P,1500⟩:Qh)=⟨tT p.Tape,tS p.Scheme,p.P.map tF,1500⟩ from rfl];generalize (⟨tT p.Tape,tS p.Scheme,p.P.map tF,1500⟩:Qh)=q at hw ⊢;generalize f.Y.map tF=y at *;generalize b.U.map tF=U at *;generalize b.V.map tF=V at *;generalize w.map tF=W at *;generalize tF f.T=t at *;generalize tF f.H=h at *;obtain⟨d1,x1,z1⟩:=Qb1 (t:=t) (h:=h) (y:=y) (u:=U) (v:=V) hn (by decide) (by decide) hw hT hH hY hU hV;obtain⟨d2,x2,z2⟩:=Qb2 (t:=t) (h:=h) (y:=y) (w:=W) hn (by decide) (by decide) hw hT hH hY hW;obtain⟨d3,x3,z3⟩:=Qb2 (t:=t) (h:=toF 0) (y:=y) (w:=W) hn (by decide) (by decide) hw hT h0 hY hW;rw[Q5] at d3 x3 z3;rw[d1,sbind,d2,sbind,Wb hn,sbind,d3,sbind];rcases hs3:backThQ q (fv t) 0 (rv y) (rv W) with e | z
 focus
  have:=x3 e hs3;obtain⟨a1,a2,a3,a4⟩:=e;simp only[];rw[Kv this,bifF,bifF]
 rotate_left
 focus
  obtain⟨_,q1,q2,_⟩:=z3 z hs3;obtain⟨k1,k2⟩:=Q5h hs3;simp only[];rw[Ku,bifT,Qcz (k:=129) hn (by decide) (by decide) (Kl q1) hW,sbind,Ky,decide_eq_true k1,Bool.not_true,bifF,Q2e (k:=129) hn (by decide) (by decide) (Kl q2),sbind,Ky,k2,Q9k,Qcg (k:=129) hn (by decide) (by decide) h0,sbind,Q5,show decide ((0:Rat).num.sign=0)=true from rfl,Bool.not_true,bifF]
 all_goals
  rcases hs1:tiltQ q (fv t) (fv h) (rv y) (rv U) (rv V) with e | r1
  . have:=x1 e hs1
    obtain⟨a1,a2,a3,a4⟩:=e
    try simp only[]
    rw[Kv this,Bool.not_false,bifT,bifT,w35];rfl
  rcases hs2:backThQ q (fv t) (fv h) (rv y) (rv W) with e | r2
  . have:=x2 e hs2
    obtain⟨a1,a2,a3,a4⟩:=e
    try simp only[]
    rw[Ku,Bool.not_true,bifF,Kv this,Bool.not_false,bifT,w35];rfl
  obtain⟨st,b1,b2,b3,b4⟩:=z1 r1 hs1;obtain⟨_,c1,c2,c3,c4,c5⟩:=z2 r2 hs2;obtain⟨l1,l2⟩:=Qhm hs2;have key:=backTilt hs1 hs2;obtain⟨⟨i1,i2⟩,⟨i3,i4⟩,i5,i6⟩:=(Qba st).1.1.1;rw[Jb] at l1 l2
  try simp only[]
  rw[Ku,Bool.not_true,bifF,bifF,Qip (k:=129) hn (by decide) (by decide) hW (Kl b1) (by omega),sbind,Qy3 (k:=129) hn (by decide) (by decide) (Kl c1) (Kl c2) hU hV (by rw[Q7];omega) (by rw[Q7];omega) (by rw[Q7];omega) (by rw[Q7];omega),sbind,Q7,Q7,Q7,if_pos (by omega),Ky,Ky,Ky,l1,show r2.2.1.length=q.Tape.Dim.toNat by omega,show r2.2.2.length=q.Tape.Par.toNat by omega,←key];simp only[];have hq:qw (psum (rv W) r1.2.1 q.Tape.Dim.toNat)≤1+6*259:=by
   have bnd:∀ i:Nat,qw (psum (rv W) r1.2.1 i)≤1+i*259:=by
    intro i
    induction i with
    | zero=>show qw 0≤_;rw[Z1];omega
    | succ i ih=>
      have e:=Qae ih (Yx (Wc (i:=i) (QR_rv hW (by decide)) (by decide)) (Wc (i:=i) b1 (by decide)));rw[Qe1];omega
   have:=bnd q.Tape.Dim.toNat;have hd:q.Tape.Dim.toNat*259≤6*259:=Nat.mul_le_mul_right _ (by omega);omega
  rw[bifT,bifT,Qdm (k:=1+6*259) hn (by decide) (by decide) (Jp hq) (Jp hq),sbind,decide_eq_true rfl,bifT,w35];rfl
end Go.Proofs.YtlfphifbmoccgaaGreatDoor
