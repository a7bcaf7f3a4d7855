import Derived.Test.YtmnalemmhfjacaaGreatDoorP2
namespace Go.Proofs.YtmnalemmhfjacaaGreatDoor
open Go Go.RowKit
set_option maxRecDepth 100000
def pullQ(lim:Int)(code:List Qt)(vs:List Rat):Nat->BkS->Nat ⊕ BkS
 | 0,s=>.inr s
 | i+1,s=>match code[i]? with
   | none=>.inr s
   | some x=>if (qz (s.co.getD i 0):Int)<=lim then pullQ lim code vs i (Qc1 x (s.co.getD i 0) (vs.getD i 0) vs s) else .inl i
def coQ(m:Nat)(outs:List Int)(w:List Rat):List Rat:=(List.zip outs w).foldl (λco z=>addAt co z.1 z.2) (List.replicate m 0)
def backQ(t:Qk)(lim:Int)(T:Rat)(Y P w:List Rat):(Int×Int×Nat) ⊕ (Rat×List Rat×List Rat):=
 match runQ lim T Y P t.Code 0 [] with
 | .inl e=>.inl (e.1,0,e.2)
 | .inr vs=>match pullQ lim t.Code vs vs.length ⟨coQ vs.length t.Af w,0,List.replicate t.Ae.toNat 0,List.replicate t.Ao.toNat 0⟩ with
   | .inl i=>.inl (6,2,i)
   | .inr s=>match fitQ lim (s.T::(s.Y++s.P)) 0 with
     | some j=>.inl (6,3,j)
     | none=>.inr (s.T,s.Y,s.P)
theorem Qy6{n k:Nat}{t:Qk}{p:Km}{bits:Int}(a:big<=n)(j:129<=k)(hk:k<1048576)(s:Qrh n k t)(f:Fk k p.T)(i:FR k p.Y)(d:FR k p.P)(u:(p.Y.length:Int)=t.Ae)(q:(p.P.length:Int)=t.Ao):
 Qei n t p bits=some (match runQ (min (max bits 0) 4096) (fv p.T) (rv p.Y) (rv p.P) t.Code 0 [] with | .inl e=>([],⟨e.1,0,0,(e.2:Int)⟩) | .inr l=>(toR l,⟨0,0,0,0⟩)):=by
 obtain⟨r,h,w⟩:=s;obtain⟨⟨v,x⟩,⟨A,B⟩,C,E⟩:=r.1;have eT:=qw_fv f om;have eY:=QR_rv i om;have eP:=QR_rv d om;unfold Qei Qbe Vx;rw[Ju a (Fk_Fw f om),sbind,Yp a om i om,sbind,Yp a om d om,sbind,sbind,sbind];simp only[];obtain⟨G,e⟩:=Q0t (g:=⟨⟨0,0⟩,min (max bits 0) 4096⟩) a j hk r h w eT eY eP (by rw[Q4];exact u) (by rw[Q4];exact q) (by simp only[];omega);rw[e,sbind];simp only[];cases runQ (min (max bits 0) 4096) (fv p.T) (rv p.Y) (rv p.P) t.Code 0 []<;>rfl
theorem Q03(m:Nat):rv (List.replicate m (⟨⟨false,[]⟩,[]⟩:Qa))=List.replicate m 0:=by unfold rv;rw[List.map_replicate];congr 1
theorem Q04(m k:Nat):FR k (List.replicate m (⟨⟨false,[]⟩,[]⟩:Qa)):=λx a=>by rw[(gj.1 a).2];exact⟨(λ_ h=>by cases h),xo _,(λ_ h=>by cases h),xo _⟩
theorem Qoh{n:Nat}{a b:Nat}(d:big<=n)(e:a<=300)(hb:b<=300):Qe8 n (a:Int) (b:Int)=some (toF 0,toR (List.replicate a 0),toR (List.replicate b 0)):=by unfold Qe8;rw[Wr d,sbind,Qaw d e,sbind,Qaw d hb,sbind]
theorem Qvn{k m:Nat}(hk:1<=k):QR k (List.replicate m 0):=λq a=>by rw[(gj.1 a).2,Qaa];exact hk
theorem Q6k{n:Nat}{t:Qk}{vs:List Rat}{F:Qa×List Qa×List Qa}(B:big<=n)(W:tapeR t)(X:QR 129 vs)(Y:vs.length=t.Code.length):∀(i:Nat) (m:Nat) (co:List Qa) (s:BkS) (g:Qg) (b:Nat),i<=vs.length->i<m->129<=b->b+i*3000<100000000->BkW b co s->co.length=vs.length->(s.Y.length:Int)=t.Ae->(s.P.length:Int)=t.Ao->g.limit<=4096 ->
 ∃ E f,E.limit=g.limit/\loopM (λ(a:Qk×(List Qa)×(List Qa)×Qa×(List Qa)×(List Qa)×Qg×Int)=>
  bif decide ((0:Int)<=a.2.2.2.2.2.2.2) then (
   (getI a.2.2.1 a.2.2.2.2.2.2.2).bind λK=>
   (Jy n K).bind λJ=>
   (Ko n a.2.2.2.2.2.2.1 J).bind λC=>
   bif !C.1 then (
    some (Lp.out (Lp.out (((⟨F.1,F.2.1,F.2.2⟩:Kn),(⟨(6:Int),0,(2:Int),a.2.2.2.2.2.2.2⟩:Qc))))))
   else (
    (Wv n a.1 a.2.1 a.2.2.1 a.2.2.2.1 a.2.2.2.2.1 a.2.2.2.2.2.1 a.2.2.2.2.2.2.2).bind λd=>
    some (Lp.go (d.1,d.2.1,d.2.2.2.1,d.2.2.1,d.2.2.2.2.1,d.2.2.2.2.2,C.2,wrap64 (a.2.2.2.2.2.2.2 - (1:Int))))))
  else (
   some (Lp.out (Lp.go (a.1,a.2.1,a.2.2.1,a.2.2.2.1,a.2.2.2.2.1,a.2.2.2.2.2.1,a.2.2.2.2.2.2.1))))) m (t,toR vs,co,toF s.T,toR s.Y,toR s.P,g,(i:Int) - 1) =
   some (match pullQ g.limit t.Code vs i s with | .inl j=>Lp.out (((⟨F.1,F.2.1,F.2.2⟩:Kn),(⟨6,0,2,(j:Int)⟩:Qc))) | .inr z=>Lp.go (t,toR vs,f,toF z.T,toR z.Y,toR z.P,E)) /\
   ∀ z,pullQ g.limit t.Code vs i s=.inr z->qw z.T<=b+i*3000/\QR (b+i*3000) z.Y/\QR (b+i*3000) z.P/\z.Y.length=s.Y.length/\z.P.length=s.P.length:=by
 intro i
 induction i with
 | zero=>
   intro m co s g b _ M A _ l _ _ _ _;refine⟨g,co,rfl,?_,?_⟩;simp only[pullQ];refine Wz ?_ M;rw[oo (show ¬(0:Int)<=((0:Nat):Int) - 1 by omega),bifF];intro z v;simp only[pullQ] at v;cases v;exact⟨by have:=l.t;omega,Ja l.y om,Ja l.p om,rfl,rfl⟩
 | succ i Z=>
   intro m co s g b hi M A T l I O N V;have G:t.Code[i]?=some (t.Code[i]' om):=ol _;generalize t.Code[i]' om=x at G;obtain⟨cF,e⟩:∃ cF,co[i]?=some cF:=⟨co[i]' om,ol _⟩
   have L:s.co.getD i 0=fv cF:=by rw[<-l.c];exact Qgv e
   have kcF:Fk b cF:=l.k cF (yb e);have hq:=qw_fv kcF om;obtain⟨m,rfl⟩:∃ q,m=q+1:=⟨m - 1,om⟩
   simp only[pullQ,G];by_cases u:(qz (s.co.getD i 0):Int)<=g.limit;have U:qw (s.co.getD i 0)<=129:=by have:=qw_qz (q:=s.co.getD i 0) (b:=4096) om;omega
   obtain⟨f,P,Q,e3⟩:=Q02 (i:=i) B A om l G (W.2.1 i x G) X om I U O N;obtain⟨l1,l2,l3⟩:=Qph (x:=x) (c:=s.co.getD i 0) (r:=vs.getD i 0) (vs:=vs) (s:=s);simp only[oi u];rw[L] at u;obtain⟨E,H,R,S,f3⟩:=Z m f _ (noteG g (fv cF)) (b+3000) om om om om Q om (by rw[l2];exact O) (by rw[l3];exact N) V;refine⟨E,H,R,?_,λz v=>?_⟩;refine(Qd6 ?_).trans S;rw[show((i+1:Nat):Int) - 1=(i:Int) by omega,oj (show(0:Int)<=(i:Int) by omega),bifT,Kj e,sbind,Ju B (Fk_Fw kcF om),sbind,Qh7 B om,sbind];simp only[];rw[oj u,ot,bifF,P,sbind,w64 om om];obtain⟨k1,k2,k3,k4,k5⟩:=f3 z v;exact⟨om,Ja k2 om,Ja k3 om,om,om⟩;simp only[oh u];rw[L] at u;refine⟨g,co,rfl,?_,λz v=>by cases v⟩;refine Wz ?_ om;rw[show((i+1:Nat):Int) - 1=(i:Int) by omega,oj (show(0:Int)<=(i:Int) by omega),bifT,Kj e,sbind,Ju B (Fk_Fw kcF om),sbind,Qh7 B om,sbind];simp only[];rw[oo u,ov,bifT]
theorem Qw9{n k kw:Nat}{t:Qk}{p:Km}{w:List Qa}{bits:Int}(H:big<=n)(h1:129<=k)(hk:k<1048576)(L:1<=kw)(hkw:kw<=1000000)(U:Qrh n k t)(hT:Fk k p.T)(hY:FR k p.Y)(hP:FR k p.P)(hw:FR kw w)(hy:(p.Y.length:Int)=t.Ae)(A:(p.P.length:Int)=t.Ao)(hwl:w.length=t.Af.length):
 Qhe n t p w bits=some (match backQ t (min (max bits 0) 4096) (fv p.T) (rv p.Y) (rv p.P) (rv w) with | .inl e=>(⟨toF 0,[],[]⟩,⟨e.1,0,e.2.1,(e.2.2:Int)⟩) | .inr z=>(⟨toF z.1,toR z.2.1,toR z.2.2⟩,⟨0,0,0,0⟩)) /\
 (∀ e,backQ t (min (max bits 0) 4096) (fv p.T) (rv p.Y) (rv p.P) (rv w)=.inl e->e.1≠0)/\∀ z,backQ t (min (max bits 0) 4096) (fv p.T) (rv p.Y) (rv p.P) (rv w)=.inr z->QR 129 z.2.1/\QR 129 z.2.2/\(z.2.1.length:Int)=t.Ae/\(z.2.2.length:Int)=t.Ao:=by
 have hd:=U.r.1;obtain⟨⟨d1,d2⟩,⟨d3,d4⟩,d5,d6⟩:=hd;unfold Qhe backQ;have z0:=Qoh (n:=n) (a:=0) (b:=0) H oy oy;rw[show((0:Nat):Int)=0 from rfl] at z0;rw[z0,sbind,oj (show(w.length:Int)=(t.Af.length:Int) by omega),ot,bifF,Qy6 H h1 hk U hT hY hP hy A,sbind];cases hr:runQ (min (max bits 0) 4096) (fv p.T) (rv p.Y) (rv p.P) t.Code 0 [] with
 | inl e=>
   have hk:=Qmr hr;simp only[];rw[Jt om,ov,bifT];exact⟨rfl,(λg hg=>by cases hg;show e.1≠0;omega),λz hz=>by cases hz⟩
 | inr vs=>
   obtain⟨l1,l2⟩:=Qr3 om (λ_ h=>by cases h) hr;have hl:vs.length=t.Code.length:=by simpa using l1
   simp only[];rw[Jv,ot,bifF,Q3,Qhj om om,sbind];have zz:=Qoh (n:=n) (a:=t.Ae.toNat) (b:=t.Ao.toNat) H om om;rw[Int.toNat_of_nonneg om,Int.toNat_of_nonneg d3] at zz;rw[zz,sbind]
   have N:∀(os:List Int) (i:Nat) (co:List Qa) (q:List Rat) (b:Nat) (K:Lp (Qk×(List Qa)×(List Qa)×Qa) (Kn×Qc)->Option (Kn×Qc)),(∀(j:Nat) o,os[j]?=some o->(0<=o/\o<(vs.length:Int))/\t.Af[i+j]?=some o)->i+os.length=t.Af.length->rv co=q->FR b co->co.length=vs.length->b+os.length*(kw+1)<1000000000 ->
    ∃ f,(rangeL (λ(i27:Nat) (x28:Int) (C:Qk×(List Qa)×(List Qa)×Qa)=>
      (getI w (i27:Int)).bind λy30=>
      (Q8 n C.1 C.2.1 C.2.2.1 C.2.2.2 (toR (List.replicate t.Ae.toNat 0)) (toR (List.replicate t.Ao.toNat 0)) x28 y30).bind λB=>
      some (Lp.go (B.1,B.2.1,B.2.2.2,B.2.2.1))) os i (t,toR vs,co,toF 0)).bind K=K (.go (t,toR vs,f,toF 0))/\rv f=(List.zip os ((rv w).drop i)).foldl (λco z=>addAt co z.1 z.2) q/\FR (b+os.length*(kw+1)) f/\f.length=vs.length:=by
    intro os
    induction os with
    | nil=>
      intro i co q b K _ _ e hb hc _;exact⟨co,rfl,by rw[List.zip_nil_left];exact e,K9 hb om,hc⟩
    | cons o os ih=>
      intro i co q b K hm hi e hb hc hlt;rw[ow] at hi hlt;obtain⟨⟨o1,o2⟩,o3⟩:=hm 0 o rfl;have G:i<w.length:=om
      have O:w[i]?=some w[i]:=ol G;have P:=hw w[i] (wb G);have hdrop:(rv w).drop i=fv w[i]::(rv w).drop (i+1):=by
       have J:i<(rv w).length:=by rw[Q4];exact G
       rw[xh J];congr 1;exact vo _
      generalize w[i]=wi at O P hdrop;have M:(os.length+1)*(kw+1)=os.length*(kw+1)+(kw+1):=ua _ _;obtain⟨X,s1,s2,s3,s4⟩:=Qmw (n:=n) (t:=t) (done:=toR vs) (gT:=toF 0) (gY:=toR (List.replicate t.Ae.toNat 0)) (gP:=toR (List.replicate t.Ao.toNat 0)) (a:=o) H L om hb P o1 om
      obtain⟨f,Y,S,f3,Z⟩:=ih (i+1) X (addAt q o (fv wi)) (b+kw+1) K (λj o' T=>by
       have:=hm (j+1) o' (by simpa using T)
       rwa [show i+(j+1)=i+1+j by omega] at this) om (by rw[s2,e]) s3 om om
      refine⟨f,?_,?_,K9 f3 (by rw[ow,M];omega),Z⟩
      . simp only[rangeL]
        rw[Kj O,sbind,s1,sbind];exact Y
      . rw[hdrop,List.zip_cons_cons,List.foldl_cons]
        exact S
   have hkm:t.Af.length*(kw+1)<=6*(kw+1):=xq _ om
   obtain⟨f,Y,S,f3,Z⟩:=N t.Af 0 (List.replicate vs.length ⟨⟨false,[]⟩,[]⟩) (List.replicate vs.length 0) 129 (lpK λ(E:Qk×(List Qa)×(List Qa)×Qa)=>
    (Vx bits).bind λr35=>
    (loopM (λ(d:Qk×(List Qa)×(List Qa)×Qa×(List Qa)×(List Qa)×Qg×Int)=>
     bif decide ((0:Int)<=d.2.2.2.2.2.2.2) then (
      (getI d.2.2.1 d.2.2.2.2.2.2.2).bind λy58=>
      (Jy n y58).bind λr60=>
      (Ko n d.2.2.2.2.2.2.1 r60).bind λQ=>
      bif !Q.1 then (
       some (Lp.out (Lp.out (((⟨toF 0,toR (List.replicate 0 0),toR (List.replicate 0 0)⟩:Kn),(⟨(6:Int),0,(2:Int),d.2.2.2.2.2.2.2⟩:Qc))))))
      else (
       (Wv n d.1 d.2.1 d.2.2.1 d.2.2.2.1 d.2.2.2.2.1 d.2.2.2.2.2.1 d.2.2.2.2.2.2.2).bind λu=>
       some (Lp.go (u.1,u.2.1,u.2.2.2.1,u.2.2.1,u.2.2.2.2.1,u.2.2.2.2.2,Q.2,wrap64 (d.2.2.2.2.2.2.2 - (1:Int))))))
     else (
      some (Lp.out (Lp.go (d.1,d.2.1,d.2.2.1,d.2.2.2.1,d.2.2.2.2.1,d.2.2.2.2.2.1,d.2.2.2.2.2.2.1))))) n (E.1,E.2.1,E.2.2.1,E.2.2.2,toR (List.replicate t.Ae.toNat 0),toR (List.replicate t.Ao.toNat 0),r35,wrap64 ((vs.length:Int) - (1:Int)))).bind (lpK λ(s:Qk×(List Qa)×(List Qa)×Qa×(List Qa)×(List Qa)×Qg)=>
    (Qis (⟨s.2.2.2.1,s.2.2.2.2.1,s.2.2.2.2.2.1⟩:Kn)).bind λr66=>
    (Vk n s.2.2.2.2.2.2 r66).bind λR=>
    bif !R.2.1 then (
     some ((⟨toF 0,toR (List.replicate 0 0),toR (List.replicate 0 0)⟩:Kn),(⟨(6:Int),0,(3:Int),R.1⟩:Qc)))
    else (
     some ((⟨s.2.2.2.1,s.2.2.2.2.1,s.2.2.2.2.2.1⟩:Kn),(⟨0,0,0,0⟩:Qc))))) (λj o T=>by rw[xz];exact⟨by have:=U.r.2.2 o (Je T);omega,T⟩) om (Q03 _) (Q04 _ _) oa om
   rw[List.drop_zero] at S;have hw0:BkW (129+t.Af.length*(kw+1)) f ⟨coQ vs.length t.Af (rv w),0,List.replicate t.Ae.toNat 0,List.replicate t.Ao.toNat 0⟩:=⟨S,f3,by show qw 0<=_;rw[Qaa];omega,Qvn om,Qvn om⟩
   obtain⟨g',co2,p1,p2,p3⟩:=Q6k (F:=(toF 0,toR (List.replicate 0 0),toR (List.replicate 0 0))) H U.r l2 hl vs.length n f _ ⟨⟨0,0⟩,min (max bits 0) 4096⟩ _ (xd _) (by unfold big at H;omega) om om hw0 Z oe oe (by show min (max bits 0) 4096<=4096;omega);refine⟨?_,?_,?_⟩
   . refine Eq.trans Y ?_
     rw[Wi];unfold Vx;rw[sbind,w64 om om];simp only[] at p2 |-;rw[p2,sbind];cases A:pullQ (min (max bits 0) 4096) t.Code vs vs.length ⟨coQ vs.length t.Af (rv w),0,List.replicate t.Ae.toNat 0,List.replicate t.Ao.toNat 0⟩ with
     | inl j=>rfl
     | inr z=>
       obtain⟨b1,b2,b3,V,W⟩:=p3 z A;simp only[yf] at V W;simp only[];rw[Wi];unfold Qis;simp only[];rw[K0 (by rw[Q3];simp;omega) (by rw[Q3];simp;omega),sbind,K0 (by simp only[xk,Q3,ow,yx];omega) (by simp only[xk,Q3,ow,yx];omega),sbind,sbind];have el:[toF z.T]++toR z.Y++toR z.P=toR (z.T::(z.Y++z.P)):=by unfold toR;simp
       obtain⟨g2,r1,r2⟩:=Ql2 (g:=g') (l:=z.T::(z.Y++z.P)) H (λx v=>by
        rcases xj.1 v with rfl | v
        . omega
        . rcases xw.1 v with v | v
          . have:=b2 x v;omega
          . have:=b3 x v;omega)
       rw[el,r2,sbind,p1];simp only[];cases fitQ (min (max bits 0) 4096) (z.T::(z.Y++z.P)) 0<;>rfl
   . intro e r
     cases A:pullQ (min (max bits 0) 4096) t.Code vs vs.length ⟨coQ vs.length t.Af (rv w),0,List.replicate t.Ae.toNat 0,List.replicate t.Ao.toNat 0⟩ with
     | inl j=>rw[A] at r;cases r;show(6:Int)≠0;decide
     | inr z=>
       rw[A] at r;simp only[] at r;cases I:fitQ (min (max bits 0) 4096) (z.T::(z.Y++z.P)) 0 with
       | some j=>rw[I] at r;cases r;show(6:Int)≠0;decide
       | none=>rw[I] at r;cases r
   . intro e r
     cases A:pullQ (min (max bits 0) 4096) t.Code vs vs.length ⟨coQ vs.length t.Af (rv w),0,List.replicate t.Ae.toNat 0,List.replicate t.Ao.toNat 0⟩ with
     | inl j=>rw[A] at r;cases r
     | inr z=>
       obtain⟨b1,b2,b3,V,W⟩:=p3 z A;simp only[yf] at V W;rw[A] at r;simp only[] at r;cases I:fitQ (min (max bits 0) 4096) (z.T::(z.Y++z.P)) 0 with
       | some j=>rw[I] at r;cases r
       | none=>
         rw[I] at r;cases r;have hq:=Qh8 om I;exact⟨λx v=>hq x (.tail _ (List.mem_append_left _ v)),λx v=>hq x (.tail _ (List.mem_append_right _ v)),by show(z.Y.length:Int)=_;omega,by show(z.P.length:Int)=_;omega⟩
set_option maxRecDepth 100000
def bslQ(As:List (List Rat))(b H:Rat)(W:List Rat)(i:Nat)(ls:List (List Rat)):List Rat:=
 scaleQ H (mixQ ((As.drop (i+1)).map λa=>a.getD i 0) ls (scaleQ b W))
def bstageQ(t:Qk)(lim:Int)(T H:Rat)(P y:List Rat)(c:Rat)(k:List Rat)(i:Nat):Qc ⊕ (List Rat×List Rat):=
 match fitQ lim k 0 with
 | some j=>.inl ⟨6,0,(i:Int),300+(j:Int)⟩
 | none=>match backQ t lim (T+H*c) y P k with
   | .inl e=>.inl ⟨e.1,0,(i:Int),(e.2.2:Int)⟩
   | .inr z=>.inr (z.2.1,z.2.2)
structure BdS where
 ls:List (List Rat)
 Y:List Rat
 P:List Rat
def bstagesQ(t:Qk)(s:Qq)(lim:Int)(T H:Rat)(P W:List Rat)(yss:List (List Rat)):Nat->BdS->Qc ⊕ BdS
 | 0,z=>.inr z
 | i+1,z=>match bstageQ t lim T H P (yss.getD i []) ((rv s.C).getD i 0) (bslQ (s.A.map rv) ((rv s.B).getD i 0) H W i z.ls) i with
   | .inl f=>.inl f
   | .inr g=>bstagesQ t s lim T H P W yss i ⟨g.1::z.ls,addQ z.Y g.1,addQ z.P g.2⟩
def bdoQ(t:Qk)(s:Qq)(lim:Int)(T H:Rat)(P W:List Rat)(yss:List (List Rat)):Qc ⊕ (List Rat×List Rat):=
 match bstagesQ t s lim T H P W yss s.B.length ⟨[],W,List.replicate P.length 0⟩ with
 | .inl f=>.inl f
 | .inr z=>match fitQ lim z.Y 0 with
   | some j=>.inl ⟨6,0,(s.B.length:Int),300+(j:Int)⟩
   | none=>match fitQ lim z.P 0 with
     | some j=>.inl ⟨6,0,(s.B.length:Int)+1,300+(j:Int)⟩
     | none=>.inr (z.Y,z.P)
theorem Q9z{out l:List Rat}{c:Rat}:addQ out (scaleQ c l)=List.zipWith (λx o=>o+c*x) l out:=by unfold addQ scaleQ;rw[List.zipWith_map_right,List.zipWith_comm]
theorem Qp6{n k:Nat}{a b c d:List Qa}(l:big<=n)(j:1<=k)(hk:k<1099511627776)(q:FR k a)(hb:FR k b)(r:FR k c)(hd:FR k d)(s:a.length<=1000000)(i:b.length<=1000000):
 Qgp n ⟨a,b⟩ ⟨c,d⟩=some (if a.length=c.length/\b.length=d.length then (⟨toR (addQ (rv a) (rv c)),toR (addQ (rv b) (rv d))⟩,true) else (⟨[],[]⟩,false)):=by
 unfold Qgp;rw[Qbx l j hk q r s,sbind,Qbx l j hk hb hd i,sbind];simp only[jn_eq];by_cases e:a.length=c.length;by_cases f:b.length=d.length;rw[oi e,oi f,oi ⟨e,f⟩];rfl;rw[oi e,oh f,oh (λh:a.length=c.length/\b.length=d.length=>f h.2)];rfl;rw[oh e,oh (λh:a.length=c.length/\b.length=d.length=>e h.1)];rfl
section
variable {n k:Nat}{p:Qe}{t h:Qa}{y w:List Qa}{g:Qg}{md:Qy}{sm:Jb}
theorem Qpi{l:List Rat}{ys:List (List Qa)}{x2:Int}(r:big<=n)(i:QR 1099511627775 l)(q:l.length<=1000):
 ∃ a,a.limit=g.limit/\Vl n p t h w md ys sm g (toR l) x2=some (match fitQ g.limit l 0 with | none=>(⟨0,0,0,0⟩,a) | some j=>(⟨6,0,x2,300+(j:Int)⟩,a)):=by
 obtain⟨a,d,e⟩:=Ql2 (g:=g) r i;refine⟨a,d,?_⟩;unfold Vl;rw[e,sbind];cases f:fitQ g.limit l 0 with
 | none=>rfl
 | some j=>
   have:=Qr5 f;simp only[ov,bifT];rw[w64 om om]
theorem Q05{i:Nat}{b:Qa}{ls:List (List Rat)}{ys:List (List Qa)}(C:big<=n)(h0:129<=k)(hk:k<8000)(ok:PrbOK n k p t h y)(hw:FR k w)(hwl:w.length=y.length)(hb:p.G8.B[i]?=some b)(hls:ls.length+(i+1)=p.G8.B.length)
 (f:∀ a∈ls,QR 129 a/\a.length=y.length) (P:∀(q:Nat) a,ls[q]?=some a->ys[i+1+q]?=some (toR a)) :
 X6 n p t h w md ys sm g (i:Int)=some (toR (bslQ (p.G8.A.map rv) (fv b) (fv h) (rv w) i ls))/\QR (21*k) (bslQ (p.G8.A.map rv) (fv b) (fv h) (rv w) i ls)/\(bslQ (p.G8.A.map rv) (fv b) (fv h) (rv w) i ls).length=w.length:=by
 obtain⟨⟨d1,d2⟩,⟨d3,d4⟩,d5,d6⟩:=ok.tp.r.1;obtain⟨⟨g1,g2⟩,g3,g4,g5,g6⟩:=ok.sr.2.1;have hyl:=ok.yl;have A:=ok.sw.b b (Je hb);have K:=qw_fv A om;have J:=qw_fv ok.hk om;have q0:=Qjs K (QR_rv hw om);have l0:(scaleQ (fv b) (rv w)).length=w.length:=by rw[Yf,Q4]
 have loop:∀(r:List (List Qa)) (ls:List (List Rat)) (j m c:Nat) (out:List Rat),r.length=ls.length->j+r.length=p.G8.B.length->(∀(q:Nat) a,r[q]?=some a->p.G8.A[j+q]?=some a)->(∀(q:Nat) a,ls[q]?=some a->ys[j+q]?=some (toR a))->(∀ a∈ls,QR 129 a/\a.length=y.length)->i<j->QR c out->1<=c->c+r.length*(k+130)<100000000->out.length=y.length->r.length<m ->
  loopM (λ(d:(List Qa)×Int)=>
   bif decide (d.2<(p.G8.B.length:Int)) then (
    (getI p.G8.A d.2).bind λT=>
    (getI T (i:Int)).bind λU=>
    (getI ys d.2).bind λV=>
    (Wa n U V).bind λR=>
    (Zv n ([d.1,R]:List (List Qa))).bind λS=>
    some (Lp.go (S.1,wrap64 (d.2+(1:Int)))))
   else (
    some (Lp.out d.1))) m (toR out,(j:Int))=some (toR (mixQ (r.map λa=>(rv a).getD i 0) ls out)):=by
  intro r
  induction r with
  | nil=>
    intro ls j m c out s N _ _ _ _ _ _ _ _ H;rw[yx] at s N H;have:ls=[]:=xm s.symm;subst this;refine Wz ?_ H;rw[oo om,bifF];rfl
  | cons a r ih=>
    intro ls j m c out s N W X I hij E hc1 L hol H;rw[ow] at s N H L;obtain⟨l,ls,rfl⟩:∃ l Q,ls=l::Q:=by
     cases ls with
     | nil=>simp at s
     | cons l ls=>exact⟨l,ls,rfl⟩
    rw[ow] at s;obtain⟨m,rfl⟩:∃ q,m=q+1:=⟨m - 1,om⟩
    have eA:p.G8.A[j]?=some a:=W 0 a rfl;have eY:ys[j]?=some (toR l):=X 0 l rfl;obtain⟨lq,ll⟩:=I l (.head _);have hal:=g6 j a eA;obtain⟨x,O⟩:∃ x,a[i]?=some x:=⟨a[i]' om,ol _⟩
    have G:=ok.sw.a a (Je eA) x (Je O);have Z:(r.length+1)*(k+130)=r.length*(k+130)+(k+130):=ua _ _;have q1:=Qjs (qw_fv G om) lq;have q2:=Qn9 E q1;have e1:(addQ out (scaleQ (fv x) l)).length=y.length:=by rw[Qdc,Yf];omega
    refine(Qd6 ?_).trans (ih ls (j+1) m (c+(k+129)+1) (addQ out (scaleQ (fv x) l)) om om (λq u e=>by have:=W (q+1) u (by simpa using e);rwa [show j+(q+1)=j+1+q by omega] at this) (λq u e=>by have:=X (q+1) u (by simpa using e);rwa [show j+(q+1)=j+1+q by omega] at this) (λu e=>I u (.tail _ e)) om q2 om om e1 om) |>.trans ?_
    simp only[];rw[oj om,bifT,Kj eA,sbind,Kj O,sbind,Kj eY,sbind,Xf (k:=k) C om om G (K9 (Kx lq) h0) (by rw[Q3];omega),sbind,Vf,Qbx (k:=c+(k+129)) C om om (Kx (Ja E om)) (Kx (Ja q1 om)) (by rw[Q3];omega),sbind,Q3,Q3,Yf,oi om,Vf,Vf,w1 om];simp only[xp,mixQ];rw[Q9z,Qgv O]
 have B:(p.G8.A.drop (i+1)).length=ls.length:=by rw[uz];omega
 have hm8:ls.length*(k+130)<=8*(k+130):=xq _ om;have e0:=loop (p.G8.A.drop (i+1)) ls (i+1) n (k+k) (scaleQ (fv b) (rv w)) B om (λq a e=>by rwa [vq] at e) P f om q0 om (by rw[B];omega) om (by unfold big at C;omega);have ea:((p.G8.A.map rv).drop (i+1)).map (λa=>a.getD i 0)=(p.G8.A.drop (i+1)).map λa=>(rv a).getD i 0:=by
  rw[<-vf,uc];rfl
 have M:QR k ((p.G8.A.drop (i+1)).map λa=>(rv a).getD i 0):=λq I=>by obtain⟨a,v,rfl⟩:=xa.1 I;exact Xg (QR_rv (ok.sw.a a (ve v)) om) om
 have qm:=Qoa (k:=129) M (λa v=>(f a v).1) q0;have lm:=Qep (m:=w.length) (cs:=(p.G8.A.drop (i+1)).map λa=>(rv a).getD i 0) (l:=ls) (λa v=>by rw[(f a v).2];omega) l0;have Y:ls.length*(k+129+1)<=8*(k+129+1):=xq _ om;unfold bslQ;rw[ea];refine⟨?_,Ja (Qjs J qm) om,by rw[Yf];exact lm⟩;unfold X6;rw[Kj hb,sbind,Xf (k:=k) C om om A hw om,sbind,w1 om,e0,sbind,Xf (k:=21*k) C om om (Kq ok.hk om) (Kx (Ja qm om)) (by rw[Q3];omega),sbind,Vf]
theorem Q18{i:Nat}{b c:Qa}{d sY sP:List Rat}{ls yss:List (List Rat)}{ys ks0:List (List Qa)}{nx er:List Qa}{bb:Nat}(B:big<=n)(h0:129<=k)(hk:k<8000)(ok:PrbOK n k p t h y)(hw:FR k w)(J:w.length=y.length)(Z:g.limit=limQ p.Ac)
 (hb:p.G8.B[i]?=some b) (Q:p.G8.C[i]?=some c) (L:yss[i]?=some d) (M:QR 129 d) (S:d.length=y.length) (I:ls.length+(i+1)=p.G8.B.length)
 (H:∀ a∈ls,QR 129 a/\a.length=y.length) (N:∀(q:Nat) a,ls[q]?=some a->ys[i+1+q]?=some (toR a)) (C:i<ys.length) (l:129<=bb) (Y:bb<1000000) (qY:QR bb sY) (qP:QR bb sP) (lY:sY.length=y.length) (lP:sP.length=p.P.length) :
 ∃ E,E.limit=g.limit/\∃ r,Xl n p t h w ⟨toRR yss,ks0,nx,er⟩ ys ⟨toR sY,toR sP⟩ g (i:Int)=some r /\
   match bstageQ p.Tape (limQ p.Ac) (fv t) (fv h) (rv p.P) d (fv c) (bslQ (p.G8.A.map rv) (fv b) (fv h) (rv w) i ls) i with
   | .inl f=>r.1=f/\f.Ad≠0
   | .inr z=>r=(⟨0,0,0,0⟩,p,t,h,w,⟨toRR yss,ks0,nx,er⟩,⟨toR (addQ sY z.1),toR (addQ sP z.2)⟩,ys.set i (toR z.1),E)/\QR 129 z.1/\QR 129 z.2/\z.1.length=y.length/\z.2.length=p.P.length:=by
 obtain⟨⟨d1,d2⟩,⟨d3,d4⟩,d5,d6⟩:=ok.tp.r.1;obtain⟨⟨g1,g2⟩,g3,g4,g5,g6⟩:=ok.sr.2.1;have hyl:=ok.yl;have hpl:=ok.pl;have s:=ok.sw.c c (Je Q);have hi:=Ke hb;obtain⟨s1,O,s3⟩:=Q05 (md:=⟨toRR yss,ks0,nx,er⟩) (sm:=⟨toR sY,toR sP⟩) (g:=g) B h0 hk ok hw J hb I H N;unfold Xl;rw[s1,sbind];generalize bslQ (p.G8.A.map rv) (fv b) (fv h) (rv w) i ls=K at O s3;obtain⟨E,V,W⟩:=Qpi (p:=p) (t:=t) (h:=h) (w:=w) (g:=g) (md:=⟨toRR yss,ks0,nx,er⟩) (sm:=⟨toR sY,toR sP⟩) (ys:=ys) (x2:=(i:Int)) B (Ja O (show 21*k<=1099511627775 by omega)) om;refine⟨E,V,?_⟩;rw[W,sbind,Z];unfold bstageQ;cases hf:fitQ (limQ p.Ac) K 0 with
 | some j=>
   simp only[];rw[Jt oy,ov,bifT];exact⟨_,rfl,rfl,oy⟩
 | none=>
   simp only[];rw[Jv,ot,bifF];have A:=Xi (qw_fv ok.hk om) (qw_fv s om);have P:=Zt (qw_fv ok.tk om) A;rw[Qnl B h0 om ok.tk ok.hk s Q,sbind,Kj (show(toRR yss)[i]?=some (toR d) by unfold toRR;rw[xy,L];rfl),sbind];obtain⟨X,G,f3⟩:=Qw9 (k:=22*k) (kw:=21*k) (t:=p.Tape) (p:=⟨toF (fv t+fv h*fv c),toR d,p.P⟩) (w:=toR K) (bits:=p.Ac) B om om om om ⟨ok.tp.r,ok.tp.h,λx hx=>Kq (ok.tp.w x hx) om⟩ (Qz om) (Kx (Ja M om)) (K9 ok.pk om) (Kx O) (by simp only[Q3];omega) ok.pl (by rw[Q3];omega);rw[X,sbind];simp only[] at G f3 |-;rw[Qu,Vf,Vf] at G f3 |-;have v:limQ p.Ac=min (max p.Ac 0) 4096:=rfl;rw[v];cases R:backQ p.Tape (min (max p.Ac 0) 4096) (fv t+fv h*fv c) d (rv p.P) K with
   | inl e=>
     have u:=G e R;simp only[];rw[Jt u,ov,bifT];exact⟨_,rfl,rfl,u⟩
   | inr z=>
     obtain⟨T,U,q3,q4⟩:=f3 z R;simp only[];rw[Jv,ot,bifF,Qeo C,sbind,Qp6 (k:=bb) B om om (Kx qY) (Kx qP) (Kx (Ja T l)) (Kx (Ja U l)) (by rw[Q3];omega) (by rw[Q3];omega),sbind,Q3,Q3,Q3,Q3,oi ⟨om,om⟩,Vf,Vf,Vf,Vf,yz];exact⟨_,rfl,rfl,T,U,om,om⟩
abbrev BdSt:=Qe×Qa×Qa×(List Qa)×Qy×(List (List Qa))×Jb×Qg×Int
abbrev BdG:=Qe×Qa×Qa×(List Qa)×Qy×(List (List Qa))×Jb×Qg
abbrev BdR:=Qc×Qe×Qa×Qa×(List Qa)×Qy×Jb×(List (List Qa))×Qg
def bdBody(n:Nat)(a:BdSt):Option (Lp BdSt (Lp BdG BdR)):=
    bif decide ((0:Int)<=a.2.2.2.2.2.2.2.2) then (
     (Xl n a.1 a.2.1 a.2.2.1 a.2.2.2.1 a.2.2.2.2.1 a.2.2.2.2.2.1 a.2.2.2.2.2.2.1 a.2.2.2.2.2.2.2.1 a.2.2.2.2.2.2.2.2).bind λd=>
     bif !(Qo d.1 (⟨0,0,0,0⟩:Qc)) then (
      some (Lp.out (Lp.out ((d.1,d.2.1,d.2.2.1,d.2.2.2.1,d.2.2.2.2.1,d.2.2.2.2.2.1,d.2.2.2.2.2.2.1,d.2.2.2.2.2.2.2.1,d.2.2.2.2.2.2.2.2)))))
     else (
      some (Lp.go (d.2.1,d.2.2.1,d.2.2.2.1,d.2.2.2.2.1,d.2.2.2.2.2.1,d.2.2.2.2.2.2.2.1,d.2.2.2.2.2.2.1,d.2.2.2.2.2.2.2.2,wrap64 (a.2.2.2.2.2.2.2.2 - (1:Int))))))
    else (
     some (Lp.out (Lp.go (a.1,a.2.1,a.2.2.1,a.2.2.2.1,a.2.2.2.2.1,a.2.2.2.2.2.1,a.2.2.2.2.2.2.1,a.2.2.2.2.2.2.2.1))))
def bdEnd(n:Nat)(x0_p:Qe)(t9:BdG):Option BdR:=
 (Vl n t9.1 t9.2.1 t9.2.2.1 t9.2.2.2.1 t9.2.2.2.2.1 t9.2.2.2.2.2.1 t9.2.2.2.2.2.2.1 t9.2.2.2.2.2.2.2 t9.2.2.2.2.2.2.1.Y (x0_p.G8.B.length:Int)).bind λa=>
 bif !(Qo a.1 (⟨0,0,0,0⟩:Qc)) then (
  some (a.1,t9.1,t9.2.1,t9.2.2.1,t9.2.2.2.1,t9.2.2.2.2.1,t9.2.2.2.2.2.2.1,t9.2.2.2.2.2.1,a.2))
 else (
  (Vl n t9.1 t9.2.1 t9.2.2.1 t9.2.2.2.1 t9.2.2.2.2.1 t9.2.2.2.2.2.1 t9.2.2.2.2.2.2.1 a.2 t9.2.2.2.2.2.2.1.P (wrap64 ((x0_p.G8.B.length:Int)+(1:Int)))).bind λd=>
  some (d.1,t9.1,t9.2.1,t9.2.2.1,t9.2.2.2.1,t9.2.2.2.2.1,t9.2.2.2.2.2.2.1,t9.2.2.2.2.2.1,d.2))
theorem Q6l(ys):Ze n p t h w md ys sm g=(loopM (bdBody n) n (p,t,h,w,md,ys,sm,g,wrap64 ((p.G8.B.length:Int) - (1:Int)))).bind (lpK (bdEnd n p)):=vj (vj rfl)
structure BdOK(b m mp:Nat)(z:BdS):Prop where
 y:QR b z.Y
 p:QR b z.P
 yl:z.Y.length=m
 pl:z.P.length=mp
 l:∀ a∈z.ls,QR 129 a/\a.length=m
theorem Q90{yss:List (List Rat)}{ks0:List (List Qa)}{nx er:List Qa}(hn:big<=n)(h0:129<=k)(hk:k<8000)(ok:PrbOK n k p t h y)(hw:FR k w)(P:w.length=y.length)
 (H:∀ a∈yss,QR 129 a/\a.length=y.length) (hyssl:yss.length=p.G8.B.length):∀(i m:Nat) (g:Qg) (z:BdS) (ys:List (List Qa)) (b:Nat),i<=p.G8.B.length->i<m->z.ls.length+i=p.G8.B.length->ys.length=p.G8.B.length->(∀(q:Nat) a,z.ls[q]?=some a->ys[i+q]?=some (toR a))->129<=b->b+i*130<1000000->BdOK b y.length p.P.length z->g.limit=limQ p.Ac ->
 match bstagesQ p.Tape p.G8 (limQ p.Ac) (fv t) (fv h) (rv p.P) (rv w) yss i z with
 | .inl f=>∃ r,loopM (bdBody n) m (p,t,h,w,⟨toRR yss,ks0,nx,er⟩,ys,⟨toR z.Y,toR z.P⟩,g,(i:Int) - 1)=some (Lp.out r)/\r.1=f/\f.Ad≠0
 | .inr x=>∃ K j,K.limit=limQ p.Ac/\loopM (bdBody n) m (p,t,h,w,⟨toRR yss,ks0,nx,er⟩,ys,⟨toR z.Y,toR z.P⟩,g,(i:Int) - 1)=some (Lp.go (p,t,h,w,⟨toRR yss,ks0,nx,er⟩,j,⟨toR x.Y,toR x.P⟩,K))/\BdOK (b+i*130) y.length p.P.length x:=by
 obtain⟨⟨g1,g2⟩,g3,g4,g5,g6⟩:=ok.sr.2.1;intro i
 induction i with
 | zero=>
   intro m g z ys b _ S _ _ _ _ _ d O;simp only[bstagesQ];refine⟨g,ys,O,Wz ?_ S,⟨Ja d.y om,Ja d.p om,d.yl,d.pl,d.l⟩⟩;unfold bdBody;simp only[];rw[oo om,bifF]
 | succ i ih=>
   intro m g z ys b hi S hzl G E N Z d O;obtain⟨m,rfl⟩:∃ q,m=q+1:=⟨m - 1,om⟩
   obtain⟨T,A⟩:∃ x,p.G8.B[i]?=some x:=⟨p.G8.B[i]' om,ol _⟩
   obtain⟨U,B⟩:∃ x,p.G8.C[i]?=some x:=⟨p.G8.C[i]' om,ol _⟩
   obtain⟨Q,e⟩:∃ x,yss[i]?=some x:=⟨yss[i]' om,ol _⟩
   obtain⟨yq,yl⟩:=H Q (Je e);obtain⟨K,e1,r,V,I⟩:=Q18 (g:=g) (ks0:=ks0) (nx:=nx) (er:=er) (ys:=ys) (ls:=z.ls) (sY:=z.Y) (sP:=z.P) (bb:=b) hn h0 hk ok hw P O A B e yq yl om d.l (λq a u=>E q a u) om N om d.y d.p d.yl d.pl;simp only[bstagesQ];have Y:yss.getD i []=Q:=by rw[oq,e];rfl
   rw[Y,Qgv B,Qgv A]
   have l:bdBody n (p,t,h,w,⟨toRR yss,ks0,nx,er⟩,ys,⟨toR z.Y,toR z.P⟩,g,((i+1:Nat):Int) - 1)=(bif !(Qo r.1 (⟨0,0,0,0⟩:Qc)) then (
    some (Lp.out (Lp.out ((r.1,r.2.1,r.2.2.1,r.2.2.2.1,r.2.2.2.2.1,r.2.2.2.2.2.1,r.2.2.2.2.2.2.1,r.2.2.2.2.2.2.2.1,r.2.2.2.2.2.2.2.2)))))
    else (
     some (Lp.go (r.2.1,r.2.2.1,r.2.2.2.1,r.2.2.2.2.1,r.2.2.2.2.2.1,r.2.2.2.2.2.2.2.1,r.2.2.2.2.2.2.1,r.2.2.2.2.2.2.2.2,wrap64 (((i+1:Nat):Int) - 1 - (1:Int)))))):=by
    unfold bdBody;simp only[];rw[oj om,bifT,show((i+1:Nat):Int) - 1=(i:Int) by omega,V,sbind]
   cases hs:bstageQ p.Tape (limQ p.Ac) (fv t) (fv h) (rv p.P) Q (fv U) (bslQ (p.G8.A.map rv) (fv T) (fv h) (rv w) i z.ls) i with
   | inl f=>
     rw[hs] at I;obtain⟨J,s⟩:=I;obtain⟨⟨f1,f2,f3,f4⟩,r⟩:=r;simp only[] at J;subst J;simp only[] at l |-;rw[Jt s,ov,bifT] at l;exact⟨_,Wz l om,rfl,s⟩
   | inr x=>
     rw[hs] at I;obtain⟨J,s,W,R,X⟩:=I;subst J;simp only[] at l |-;rw[Jv,ot,bifF,show((i+1:Nat):Int) - 1 - 1=(i:Int) - 1 by omega,w64 om om] at l;rw[Qd6 l];have C:(i+1)*130=i*130+130:=ua _ _
     have:=ih m K ⟨x.1::z.ls,addQ z.Y x.1,addQ z.P x.2⟩ (ys.set i (toR x.1)) (b+130) om om (by show z.ls.length+1+i=_;omega) (by rw[vk];exact G) (λq a u=>by
      cases q with
      | zero=>
        simp only[gh,Option.some.injEq] at u;subst u;rw[xf,List.getElem?_set_self om]
      | succ q=>
        rw[List.getElem?_set_ne om,show i+(q+1)=i+1+q by omega];exact E q a (by simpa using u)) om om ⟨Ja (Qn9 d.y s) om,Ja (Qn9 d.p W) om,by show(addQ z.Y x.1).length=_;rw[Qdc,R,d.yl,Nat.min_self],by show(addQ z.P x.2).length=_;rw[Qdc,X,d.pl,Nat.min_self],λa M=>by
        rcases xj.1 M with rfl | M;exact⟨s,R⟩
        exact d.l a M⟩ om
     simp only[] at this;cases hr:bstagesQ p.Tape p.G8 (limQ p.Ac) (fv t) (fv h) (rv p.P) (rv w) yss i ⟨x.1::z.ls,addQ z.Y x.1,addQ z.P x.2⟩ with
     | inl f=>rw[hr] at this;exact this
     | inr v=>
       rw[hr] at this;obtain⟨L,j,a1,a2,a3⟩:=this;exact⟨L,j,a1,a2,by rw[C,show b+(i*130+130)=b+130+i*130 by omega];exact a3⟩
theorem Q6m{yss:List (List Rat)}{ks0 ys:List (List Qa)}{nx er:List Qa}(v:big<=n)(h0:129<=k)(hk:k<8000)(ok:PrbOK n k p t h y)(E:FR k w)(d:w.length=y.length)
 (s:∀ a∈yss,QR 129 a/\a.length=y.length) (hyssl:yss.length=p.G8.B.length) (l:ys.length=p.G8.B.length) (L:g.limit=limQ p.Ac) :
 ∃ r,Ze n p t h w ⟨toRR yss,ks0,nx,er⟩ ys ⟨toR (rv w),toR (List.replicate p.P.length 0)⟩ g=some r /\
   match bdoQ p.Tape p.G8 (limQ p.Ac) (fv t) (fv h) (rv p.P) (rv w) yss with
   | .inl f=>r.1=f/\f.Ad≠0
   | .inr z=>r.1=⟨0,0,0,0⟩/\r.2.2.2.2.2.2.1=⟨toR z.1,toR z.2⟩/\QR 129 z.1/\QR 129 z.2/\z.1.length=w.length/\z.2.length=p.P.length:=by
 obtain⟨⟨O,P⟩,⟨Q,R⟩,S,T⟩:=ok.tp.r.1;obtain⟨⟨g1,U⟩,g3,g4,V,W⟩:=ok.sr.2.1;have N:=ok.yl;have M:=ok.pl;have i:=Q90 (ks0:=ks0) (nx:=nx) (er:=er) v h0 hk ok E d s hyssl p.G8.B.length n g ⟨[],rv w,List.replicate p.P.length 0⟩ ys k (xd _) (by unfold big at v;omega) oa l (λq a J=>by simp at J) h0 om ⟨QR_rv E om,Qvn om,by show(rv w).length=_;rw[Q4];exact d,oa,λ_ h=>by cases h⟩ L;rw[Q6l,w64 om om];unfold bdoQ;rw[Q4 p.P];simp only[] at i;cases hs:bstagesQ p.Tape p.G8 (limQ p.Ac) (fv t) (fv h) (rv p.P) (rv w) yss p.G8.B.length ⟨[],rv w,List.replicate p.P.length 0⟩ with
 | inl f=>
   rw[hs] at i;obtain⟨r,B,x,C⟩:=i;rw[B,sbind,Qfc];exact⟨r,rfl,x,C⟩
 | inr z=>
   rw[hs] at i;obtain⟨H,u,a1,a2,a3⟩:=i;rw[a2,sbind,Wi];unfold bdEnd;simp only[];obtain⟨e,B,x⟩:=Qpi (p:=p) (t:=t) (h:=h) (w:=w) (g:=H) (md:=⟨toRR yss,ks0,nx,er⟩) (sm:=⟨toR z.Y,toR z.P⟩) (ys:=u) (x2:=(p.G8.B.length:Int)) v (Ja a3.y om) (by rw[a3.yl];omega);rw[x,sbind,a1];cases K:fitQ (limQ p.Ac) z.Y 0 with
   | some j=>
     simp only[];rw[Jt oy,ov,bifT];exact⟨_,rfl,rfl,oy⟩
   | none=>
     simp only[];rw[Jv,ot,bifF,w1 om];obtain⟨I,C,G⟩:=Qpi (p:=p) (t:=t) (h:=h) (w:=w) (g:=e) (md:=⟨toRR yss,ks0,nx,er⟩) (sm:=⟨toR z.Y,toR z.P⟩) (ys:=u) (x2:=((p.G8.B.length+1:Nat):Int)) v (Ja a3.p om) (by rw[a3.pl];omega);rw[G,sbind,show e.limit=limQ p.Ac by omega];cases A:fitQ (limQ p.Ac) z.P 0 with
     | some j=>exact⟨_,rfl,rfl,by show(6:Int)≠0;decide⟩
     | none=>exact⟨_,rfl,rfl,rfl,Qh8 (by unfold limQ;omega) K,Qh8 (by unfold limQ;omega) A,by rw[a3.yl,d],a3.pl⟩
end
noncomputable def backThQ(p:Qe)(T H:Rat)(Y W:List Rat):Qc ⊕ (MadeQ×List Rat×List Rat):=
 match stepQ p T H Y with
 | .inl f=>if f.Ad=2\/W.length≠Y.length then .inl ⟨2,0,0,0⟩ else .inl f
 | .inr z=>if W.length≠Y.length then .inl ⟨2,0,0,0⟩ else match bdoQ p.Tape p.G8 (limQ p.Ac) T H (rv p.P) W z.ys with
   | .inl f=>.inl f
   | .inr x=>.inr (z,x.1,x.2)
theorem Qyb:∀ {l:List Rat},addQ l (List.replicate l.length 0)=l
 | []=>rfl
 | a::l=>by have:=Qyb (l:=l);unfold addQ at this |-;rw[ow,ug,List.zipWith_cons_cons,this,Rat.add_zero]
theorem Qsm{n k:Nat}{p:Qe}{t h:Qa}{y w:List Qa}(e:big<=n)(h0:129<=k)(hk:k<8000)(G:PrbW k p)(C:Fk k t)(B:Fk k h)(H:FR k y)(E:FR k w):
 Qdv n p t h y w=some (match backThQ p (fv t) (fv h) (rv y) (rv w) with | .inl f=>(⟨[],[]⟩,f) | .inr z=>(⟨toR z.2.1,toR z.2.2⟩,⟨0,0,0,0⟩))/\(∀ f,backThQ p (fv t) (fv h) (rv y) (rv w)=.inl f->f.Ad≠0)/\∀ z,backThQ p (fv t) (fv h) (rv y) (rv w)=.inr z->stepQ p (fv t) (fv h) (rv y)=.inr z.1/\QR 129 z.2.1/\QR 129 z.2.2/\z.2.1.length=y.length/\z.2.2.length=p.P.length/\w.length=y.length:=by
 obtain⟨s,u⟩:=Qi9 e h0 hk G C B H;unfold Qdv backThQ;simp only[jn_eq];rw[s,sbind];cases hs:stepQ p (fv t) (fv h) (rv y) with
 | inl f=>
   have A:=u f hs;obtain⟨v,P,f3,Q⟩:=f;simp only[];rw[Q4,Q4,bifd];by_cases c1:v=2
   . rw[oi c1,oi (Or.inl c1)]
     exact⟨rfl,(λf h=>by cases h;show(2:Int)≠0;decide),λz h=>by cases h⟩
   rw[oh c1];by_cases d:w.length=y.length
   case neg=>
    rw[oo (show ¬(w.length:Int)=(y.length:Int) by omega),oi (.inr d)];exact⟨rfl,(λf h=>by cases h;show(2:Int)≠0;decide),λz h=>by cases h⟩
   rw[oj (show(w.length:Int)=(y.length:Int) by omega),ot,bifF,Jt A,ov,bifT,oh (by rintro(g | g)<;>contradiction)];exact⟨rfl,(λf h=>by cases h;exact A),λz h=>by cases h⟩
 | inr z=>
   obtain⟨T,I,r3,r4,r5⟩:=Qeq hs;obtain⟨U,V⟩:=Qts hs;rw[Q4] at I;have ok:=G.ok e hk T C B H I;obtain⟨⟨s,u⟩,⟨W,X⟩,Y,Z⟩:=ok.tp.r.1;obtain⟨⟨g1,g2⟩,g3,g4,g5,g6⟩:=ok.sr.2.1;have S:=ok.pl;simp only[];rw[Q4,Q4,show decide ((0:Int)=2)=false from rfl,bifF];by_cases d:w.length=y.length
   case neg=>
    rw[oo (show ¬(w.length:Int)=(y.length:Int) by omega),oi d];exact⟨rfl,(λf h=>by cases h;show(2:Int)≠0;decide),λz h=>by cases h⟩
   rw[oj (show(w.length:Int)=(y.length:Int) by omega),ot,bifF,Jv,ot,bifF,oh (by simp[d])];rw[Qaw e om,sbind,Qp6 (k:=k) e om om E (λ_ h=>by cases h) (Kx (Qvn om)) (λ_ h=>by cases h) om oa,sbind,oi ⟨by rw[Q3];simp,rfl⟩,Qhj om om,sbind];unfold Vx;rw[sbind,Qaw e om,sbind,Vf];have O:addQ (rv w) (List.replicate w.length 0)=rv w:=by
    have:=Qyb (l:=rv w);rwa [Q4] at this
   rw[O];obtain⟨r,J,i⟩:=Q6m (g:=⟨⟨0,0⟩,min (max p.Ac 0) 4096⟩) (yss:=z.ys) (ks0:=toRR z.ks) (nx:=toR z.next) (er:=toR z.err) (ys:=List.replicate p.G8.B.length []) e h0 hk ok E d (λa R=>by have:=U a R;rwa [Q4] at this) V oa rfl;rw[show toM z=⟨toRR z.ys,toRR z.ks,toR z.next,toR z.err⟩ from rfl];simp only[];rw[J,sbind];cases hd:bdoQ p.Tape p.G8 (limQ p.Ac) (fv t) (fv h) (rv p.P) (rv w) z.ys with
   | inl f=>
     rw[hd] at i;obtain⟨q,j⟩:=i;refine⟨?_,(λf h=>by cases h;exact j),λz h=>by cases h⟩;simp only[];rw[q];obtain⟨v,P,f3,Q⟩:=f;rw[Jt j,ov,bifT]
   | inr x=>
     rw[hd] at i;obtain⟨q,j,K,L,M,N⟩:=i;refine⟨?_,(λf h=>by cases h),λz h=>by cases h;exact⟨rfl,K,L,M.trans d,N,d⟩⟩;simp only[];rw[q,j,Jv,ot,bifF]
set_option maxRecDepth 100000
theorem Q4g{l:List Rat}{a:Int}:addAt l a 0=l:=by unfold addAt;rw[Rat.add_zero];by_cases h:a.toNat<l.length;rw[oq,ol h];exact List.set_getElem_self h;exact List.set_eq_of_length_le om
def bk1(x:Qt)(c r:Rat)(vs:List Rat)(s:BkS):BkS:=
 if x.Op=2 then ⟨s.co,s.T+c,s.Y,s.P⟩ else
 if x.Op=3 then ⟨s.co,s.T,addAt s.Y x.A c,s.P⟩ else
 if x.Op=4 then ⟨s.co,s.T,s.Y,addAt s.P x.A c⟩ else
 if x.Op=6 then ⟨addAt s.co x.A (-c),s.T,s.Y,s.P⟩ else
 if x.Op=7 then ⟨addAt (addAt s.co x.A c) x.B c,s.T,s.Y,s.P⟩ else
 if x.Op=8 then ⟨addAt (addAt s.co x.A c) x.B (-c),s.T,s.Y,s.P⟩ else
 if x.Op=9 then ⟨addAt (addAt s.co x.A (c*vs.getD x.B.toNat 0)) x.B (c*vs.getD x.A.toNat 0),s.T,s.Y,s.P⟩ else
 if x.Op=10 then ⟨addAt (addAt s.co x.A (c / vs.getD x.B.toNat 0)) x.B (-(c / vs.getD x.B.toNat 0*r)),s.T,s.Y,s.P⟩ else
 if x.Op=11 then ⟨addAt s.co x.A (c*((x.B:Rat)*turnQ (vs.getD x.A.toNat 0) r x.B)),s.T,s.Y,s.P⟩ else s
theorem Jb3{x:Qt}{c r:Rat}{vs:List Rat}{s:BkS}:Qc1 x c r vs s=bk1 x c r vs s:=by
 by_cases h:c=0;subst h;unfold Qc1 bk1;rw[oi rfl];have a:-(0:Rat)=0:=by decide +kernel
 have d:∀ w:Rat,0 / w=0:=λw=>by rw[Rat.div_def,Rat.zero_mul]
 simp only[a,d,Rat.zero_mul,Q4g,Rat.add_zero,ite_self];unfold Qc1 bk1;rw[oh h]
structure SameL(a b:BkS):Prop where
 c:b.co.length=a.co.length
 y:b.Y.length=a.Y.length
 p:b.P.length=a.P.length
theorem Qty{lim:Int}{code:List Qt}{vs:List Rat}:∀ {i:Nat}{s z},pullQ lim code vs i s=.inr z->SameL s z
 | 0,s,z,h=>by simp only[pullQ] at h;cases h;exact⟨rfl,rfl,rfl⟩
 | i+1,s,z,h=>by
   simp only[pullQ] at h;cases a:code[i]? with
   | none=>rw[a] at h;cases h;exact⟨rfl,rfl,rfl⟩
   | some x=>
     rw[a] at h;simp only[] at h;split at h
     case isFalse=>cases h
     have:=Qty h;obtain⟨a1,a2,a3⟩:=Qph (x:=x) (c:=s.co.getD i 0) (r:=vs.getD i 0) (vs:=vs) (s:=s);exact⟨by rw[this.c,a1],by rw[this.y,a2],by rw[this.p,a3]⟩
theorem Q91{m:Nat}{os:List Int}{w:List Rat}:(coQ m os w).length=m:=by
 unfold coQ;have:∀(l:List (Int×Rat)) (a:List Rat),(l.foldl (λco z=>addAt co z.1 z.2) a).length=a.length:=by
  intro l
  induction l with
  | nil=>intro a;rfl
  | cons x l d=>intro a;rw[List.foldl_cons,d,Qh9]
 rw[this];simp
theorem Q06{t:Qk}{lim:Int}{T:Rat}{Y P w:List Rat}{z}(h:backQ t lim T Y P w=.inr z):∃ vs x,runQ lim T Y P t.Code 0 []=.inr vs/\pullQ lim t.Code vs vs.length ⟨coQ vs.length t.Af w,0,List.replicate t.Ae.toNat 0,List.replicate t.Ao.toNat 0⟩=.inr x/\z=(x.T,x.Y,x.P):=by
 unfold backQ at h;cases hr:runQ lim T Y P t.Code 0 [] with
 | inl e=>rw[hr] at h;cases h
 | inr vs=>
   rw[hr] at h;simp only[] at h;cases a:pullQ lim t.Code vs vs.length ⟨coQ vs.length t.Af w,0,List.replicate t.Ae.toNat 0,List.replicate t.Ao.toNat 0⟩ with
   | inl e=>rw[a] at h;cases h
   | inr x=>
     rw[a] at h;simp only[] at h;cases d:fitQ lim (x.T::(x.Y++x.P)) 0 with
     | some j=>rw[d] at h;cases h
     | none=>rw[d] at h;cases h;exact⟨vs,x,rfl,a,rfl⟩
theorem Q07{t:Qk}{lim:Int}{T:Rat}{Y P w:List Rat}{z}(h:backQ t lim T Y P w=.inr z):z.2.1.length=t.Ae.toNat/\z.2.2.length=t.Ao.toNat:=by obtain⟨vs,x,_,a,rfl⟩:=Q06 h;have:=Qty a;exact⟨by rw[this.y];simp,by rw[this.p];simp⟩
theorem Q79{As:List (List Rat)}{b H:Rat}{i:Nat}{W:List Rat}{l:List (List Rat)}(g:∀ a∈l,a.length=W.length):(bslQ As b H W i l).length=W.length:=by unfold bslQ;rw[Yf];exact Qep g (by rw[Yf])
theorem Qs3{t:Qk}{lim:Int}{T H c:Rat}{P y k:List Rat}{i:Nat}{z}(h:bstageQ t lim T H P y c k i=.inr z):∃ x,backQ t lim (T+H*c) y P k=.inr x/\z=(x.2.1,x.2.2):=by
 unfold bstageQ at h;cases a:fitQ lim k 0 with
 | some j=>rw[a] at h;cases h
 | none=>
   rw[a] at h;simp only[] at h;cases hb:backQ t lim (T+H*c) y P k with
   | inl e=>rw[hb] at h;cases h
   | inr x=>rw[hb] at h;cases h;exact⟨x,rfl,rfl⟩
structure BdL(m mp:Nat)(a:BdS):Prop where
 y:a.Y.length=m
 p:a.P.length=mp
 l:∀ x∈a.ls,x.length=m
theorem BdL.step{m mp:Nat}{a:BdS}(h:BdL m mp a){u v:List Rat}(e:u.length=m)(f:v.length=mp):BdL m mp ⟨u::a.ls,addQ a.Y u,addQ a.P v⟩:=
 ⟨by show(addQ a.Y u).length=_;rw[Qdc,h.y,e,Nat.min_self],by show(addQ a.P v).length=_;rw[Qdc,h.p,f,Nat.min_self],λx d=>by
  rcases xj.1 d with rfl | d;exact e
  exact h.l x d⟩
theorem Q08{t:Qk}{s:Qq}{lim:Int}{T H:Rat}{P W:List Rat}{yss:List (List Rat)}{z}(h:bdoQ t s lim T H P W yss=.inr z):∃ x,bstagesQ t s lim T H P W yss s.B.length ⟨[],W,List.replicate P.length 0⟩=.inr x/\z=(x.Y,x.P):=by
 unfold bdoQ at h;cases hs:bstagesQ t s lim T H P W yss s.B.length ⟨[],W,List.replicate P.length 0⟩ with
 | inl f=>rw[hs] at h;cases h
 | inr x=>
   rw[hs] at h;simp only[] at h;cases d:fitQ lim x.Y 0 with
   | some j=>rw[d] at h;cases h
   | none=>
     rw[d] at h;simp only[] at h;cases a:fitQ lim x.P 0 with
     | some j=>rw[a] at h;cases h
     | none=>rw[a] at h;cases h;exact⟨x,rfl,rfl⟩
theorem Qro{p:Qe}{T H:Rat}{Y W:List Rat}{z}(h:backThQ p T H Y W=.inr z):stepQ p T H Y=.inr z.1/\W.length=Y.length/\bdoQ p.Tape p.G8 (limQ p.Ac) T H (rv p.P) W z.1.ys=.inr z.2:=by
 unfold backThQ at h;cases hs:stepQ p T H Y with
 | inl f=>rw[hs] at h;simp only[] at h;split at h<;>cases h
 | inr m=>
   rw[hs] at h;simp only[] at h;by_cases a:W.length=Y.length
   case neg=>rw[oi a] at h;cases h
   rw[oh (by simp[a])] at h;cases hd:bdoQ p.Tape p.G8 (limQ p.Ac) T H (rv p.P) W m.ys with
   | inl f=>rw[hd] at h;cases h
   | inr x=>rw[hd] at h;cases h;exact⟨rfl,a,hd⟩
theorem Qs4{p:Qe}{T H:Rat}{Y W:List Rat}{z}(h:backThQ p T H Y W=.inr z):W.length=p.Tape.Ae.toNat/\(rv p.P).length=p.Tape.Ao.toNat:=by obtain⟨a1,a2,_⟩:=Qro h;obtain⟨a,d,_⟩:=Qeq a1;have:=a.2.2;rw[Q4];omega
theorem Q8a{m j:Nat}:(List.replicate m (0:Rat)).getD j 0=0:=by rw[oq,gg];split<;>rfl
set_option maxRecDepth 100000
def sumN(f:Nat->Rat):Nat->Rat
 | 0=>0
 | i+1=>sumN f i+f i
theorem Qrp{f:Nat->Rat}:∀ {i:Nat},sumN f (i+1)=f 0+sumN (λj=>f (j+1)) i
 | 0=>by simp only[sumN];grind
 | i+1=>by rw[sumN,Qrp (i:=i),sumN];grind
theorem Qc2{f g:Nat->Rat}:∀ {i:Nat},(∀ j,j<i->f j=g j)->sumN f i=sumN g i
 | 0,_=>rfl
 | i+1,h=>by rw[sumN,sumN,Qc2 λj a=>h j om,h i om]
theorem Qtz{f g:Nat->Rat}{c:Rat}:∀ {i:Nat},sumN (λj=>f j+c*g j) i=sumN f i+c*sumN g i
 | 0=>by simp only[sumN];grind
 | i+1=>by rw[sumN,sumN,sumN,Qtz];grind
theorem Qpj{f:Nat->Rat}{c:Rat}:∀ {i:Nat},sumN (λj=>c*f j) i=c*sumN f i
 | 0=>by simp only[sumN];grind
 | i+1=>by rw[sumN,sumN,Qpj];grind
def psum(a b:List Rat)(i:Nat):Rat:=sumN (λj=>a.getD j 0*b.getD j 0) i
theorem Vy{a b:List Rat}{i:Nat}:psum a b i=psum b a i:=Qc2 λ_ _=>Rat.mul_comm _ _
theorem Qmx{a b:List Rat}{i:Nat}:psum a b (i+1)=psum a b i+a.getD i 0*b.getD i 0:=rfl
theorem Qt0{c:Rat}{a b d:List Rat}{i:Nat}(h:b.length=a.length):psum d (linQ c a b) i=c*psum d a i+psum d b i:=by unfold psum;rw[Rat.add_comm,<-Qtz];refine Qc2 λj _=>?_;rw[Qju h];grind
theorem Ql5{a b d:List Rat}{i:Nat}(h:b.length=a.length):psum d (addQ a b) i=psum d a i+psum d b i:=by
 have e:addQ a b=linQ 1 a b:=by unfold addQ linQ;congr 1;funext x y;rw[Rat.one_mul]
 rw[e,Qt0 h,Rat.one_mul]
theorem Qgw{c:Rat}{a d:List Rat}{i:Nat}:psum d (scaleQ c a) i=c*psum d a i:=by
 unfold psum;rw[<-Qpj];refine Qc2 λj _=>?_;have e:(scaleQ c a).getD j 0=c*a.getD j 0:=by
  unfold scaleQ;rw[oq,oq,xy];cases a[j]? with
  | none=>show(0:Rat)=c*0;rw[Rat.mul_zero]
  | some x=>rfl
 rw[e];grind
theorem Qd9{d:List Rat}{m i:Nat}:psum d (List.replicate m 0) i=0:=by
 unfold psum
 induction i with
 | zero=>rfl
 | succ i a=>rw[sumN,a,Q8a];grind
theorem Q6n{x y:Rat}{a b:List Rat}{i:Nat}:psum (x::a) (y::b) (i+1)=x*y+psum a b i:=by unfold psum;rw[Qrp];rfl
theorem Ql6{m i:Nat}{d:List Rat}:∀ {cs:List Rat}{l:List (List Rat)}{z:List Rat},cs.length=l.length->(∀ a∈l,a.length=m)->z.length=m ->
 psum d (mixQ cs l z) i=psum d z i+sumN (λj=>cs.getD j 0*psum d (l.getD j []) i) l.length
 | [],[],z,_,_,_=>by simp only[mixQ,yx,sumN];grind
 | [],_::_,_,h,_,_=>by simp at h
 | _::_,[],_,h,_,_=>by simp at h
 | c::cs,a::l,z,h,e,u=>by
   have q:List.zipWith (λx o=>o+c*x) a z=linQ c a z:=by unfold linQ;congr 1;funext x o;rw[Rat.add_comm]
   have s:=e a (.head _);simp only[mixQ];rw[q,Ql6 (by simpa using h) (λf r=>e f (.tail _ r)) (by rw[Qr6 om];exact s),Qt0 om,ow,Qrp];simp only[List.getD_cons_zero,List.getD_cons_succ];grind
theorem Qvo{l:List Rat}{a:Int}{c:Rat}{j:Nat}:(addAt l a c).getD j 0=if j=a.toNat/\j<l.length then l.getD j 0+c else l.getD j 0:=by unfold addAt;generalize a.toNat=a;rw[oq,oq,oq,List.getElem?_set];by_cases h:j=a;subst h;by_cases d:j<l.length;rw[oi rfl,oi d,oi ⟨rfl,d⟩];rfl;rw[oi rfl,oh d,oh (λh=>d h.2),xn om];rw[oh (λe=>h e.symm),oh (λe=>h e.1)]
theorem Qle{l d:List Rat}{a:Int}{c:Rat}:∀ {i:Nat},a.toNat<i->a.toNat<l.length->psum (addAt l a c) d i=psum l d i+c*d.getD a.toNat 0
 | 0,h,_=>om
 | i+1,h,f=>by
   rw[Qmx,Qmx,Qvo];by_cases e:a.toNat=i;have:psum (addAt l a c) d i=psum l d i:=Qc2 λj q=>by rw[Qvo,oh om]
   rw[this,oi ⟨e.symm,om⟩,e];grind;rw[Qle om f,oh om];grind
theorem Q09{t:Qk}{i:Nat}{x:Qt}(h:mayR t i x):x.Op=1\/x.Op=2\/x.Op=3\/x.Op=4\/x.Op=6\/x.Op=7\/x.Op=8\/x.Op=9\/x.Op=10\/x.Op=11:=by unfold mayR at h;by_cases c1:x.Op=1;omega;rw[oh c1] at h;by_cases e:x.Op=2;omega;by_cases f:x.Op=3;omega;by_cases j:x.Op=4;omega;by_cases l:x.Op=6;omega;by_cases d:x.Op=11;omega;rw[oh e,oh f,oh j,oh l,oh d] at h;have a:=h.2.2;unfold rdT at a;rw[oh om] at a;by_cases q:x.Op=7\/x.Op=8\/x.Op=9\/x.Op=10;omega;rw[oh q] at a;simp at a
section
variable {t:Qk}{lim:Int}{T':Rat}{Y' P' vs ds:List Rat}
def inn(T':Rat)(Y' P' ds:List Rat)(s:BkS)(i:Nat):Rat:=psum s.co ds i+s.T*T'+psum s.Y Y' s.Y.length+psum s.P P' s.P.length
theorem Q8b{x:Qt}{i:Nat}{s:BkS}(d:mayR t i x)(hs:ds.getD i 0=slopeQ x (vs.getD i 0) T' Y' P' vs ds)(l:i<=s.co.length)(v:(s.Y.length:Int)=t.Ae)(u:(s.P.length:Int)=t.Ao):
 inn T' Y' P' ds s (i+1)=inn T' Y' P' ds (Qc1 x (s.co.getD i 0) (vs.getD i 0) vs s) i:=by
 have f:=Qob d;have dA:x.Op=6\/x.Op=11\/x.Op=7\/x.Op=8\/x.Op=9\/x.Op=10->0<=x.A/\x.A<(i:Int):=λh=>f _ (rdT_A h);have dB:x.Op=7\/x.Op=8\/x.Op=9\/x.Op=10->0<=x.B/\x.B<(i:Int):=λh=>f _ (rdT_B h);rw[Jb3];unfold inn;rw[Qmx,hs];generalize s.co.getD i 0=c;generalize vs.getD i 0=r;have one:∀ q:Rat,x.A.toNat<i->psum (addAt s.co x.A q) ds i=psum s.co ds i+q*ds.getD x.A.toNat 0:=λq h=>Qle h om
 have a:∀ q q':Rat,x.A.toNat<i->x.B.toNat<i->psum (addAt (addAt s.co x.A q) x.B q') ds i=psum s.co ds i+q*ds.getD x.A.toNat 0+q'*ds.getD x.B.toNat 0:=λq q' h j=>by rw[Qle j (by rw[Qh9];omega),one q h]
 rcases Q09 d with o | o | o | o | o | o | o | o | o | o<;>simp only[bk1,slopeQ,o,Int.reduceEq,↓reduceIte];grind;grind;have:=Qu5 d o;rw[Qh9,Qle om om];grind;have:=Qu6 d o;rw[Qh9,Qle om om];grind;rw[one _ (by have:=dA om;omega)];generalize ds.getD x.A.toNat 0=d1;grind;rw[a _ _ (by have:=dA om;omega) (by have:=dB om;omega)];generalize ds.getD x.A.toNat 0=d1;generalize ds.getD x.B.toNat 0=d2;grind;rw[a _ _ (by have:=dA om;omega) (by have:=dB om;omega)];generalize ds.getD x.A.toNat 0=d1;generalize ds.getD x.B.toNat 0=d2;grind;rw[a _ _ (by have:=dA om;omega) (by have:=dB om;omega)];generalize ds.getD x.A.toNat 0=d1;generalize ds.getD x.B.toNat 0=d2;generalize vs.getD x.A.toNat 0=v1;generalize vs.getD x.B.toNat 0=v2;grind;rw[a _ _ (by have:=dA om;omega) (by have:=dB om;omega)];simp only[Rat.div_def];generalize ds.getD x.A.toNat 0=d1;generalize ds.getD x.B.toNat 0=d2;generalize (vs.getD x.B.toNat 0)⁻¹=v2;grind;rw[one _ (by have:=dA om;omega)];generalize ds.getD x.A.toNat 0=d1;generalize turnQ (vs.getD x.A.toNat 0) r x.B=tq;generalize (x.B:Rat)=e;grind
theorem Q1a{code:List Qt}:∀ {i:Nat}{s z},i<=code.length->i<=s.co.length->(s.Y.length:Int)=t.Ae->(s.P.length:Int)=t.Ao ->
 (∀(j:Nat) x,code[j]?=some x->mayR t j x/\ds.getD j 0=slopeQ x (vs.getD j 0) T' Y' P' vs ds)->pullQ lim code vs i s=.inr z->inn T' Y' P' ds s i=inn T' Y' P' ds z 0
 | 0,s,z,_,_,_,_,_,h=>by simp only[pullQ] at h;cases h;rfl
 | i+1,s,z,hi,u,f,e,d,h=>by
   have a:code[i]?=some (code[i]' om):=ol _;generalize code[i]' om=x at a;obtain⟨l,q⟩:=d i x a;simp only[pullQ,a] at h;split at h
   case isFalse=>cases h
   obtain⟨a1,a2,a3⟩:=Qph (x:=x) (c:=s.co.getD i 0) (r:=vs.getD i 0) (vs:=vs) (s:=s);rw[Q8b l q om f e];exact Q1a om om (by rw[a2];exact f) (by rw[a3];exact e) d h
end
theorem Zx{l:List Rat}{i j:Nat}(h:j<i):(l.take i).getD j 0=l.getD j 0:=by rw[oq,oq,yh,oi h]
theorem Q4h{t:Qk}{x:Qt}{i:Nat}{q T:Rat}{Y P vs ds:List Rat}(a:mayR t i x):slopeQ x q T Y P (vs.take i) (ds.take i)=slopeQ x q T Y P vs ds:=by
 have d:=Qob a;have dA:x.Op=6\/x.Op=11\/x.Op=7\/x.Op=8\/x.Op=9\/x.Op=10->0<=x.A/\x.A<(i:Int):=λh=>d _ (rdT_A h);have dB:x.Op=7\/x.Op=8\/x.Op=9\/x.Op=10->0<=x.B/\x.B<(i:Int):=λh=>d _ (rdT_B h);rcases Q09 a with o | o | o | o | o | o | o | o | o | o<;>simp only[slopeQ,o,Int.reduceEq,↓reduceIte]
 . rw[Zx (by have:=dA om;omega)]
 all_goals first
  | rw[Zx (by have:=dA om;omega),Zx (by have:=dB om;omega),Zx (by have:=dA om;omega),Zx (by have:=dB om;omega)]
  | rw[Zx (by have:=dA om;omega),Zx (by have:=dB om;omega),Zx (by have:=dB om;omega)]
  | rw[Zx (by have:=dA om;omega),Zx (by have:=dB om;omega)]
  | rw[Zx (by have:=dA om;omega),Zx (by have:=dA om;omega)]
theorem Q1b{lim:Int}{T:Rat}{Y P:List Rat}{T':Rat}{Y' P':List Rat}:∀ {c:List Qt}{i:Nat}{vs ds:List Rat}{l},ds.length=vs.length->prunQ lim T Y P T' Y' P' c i vs ds=.inr l ->
 (∃ e,l.1=vs++e)/\(∃ e,l.2=ds++e)/\runQ lim T Y P c i vs=.inr l.1/\∀(q:Nat) x,c[q]?=some x->l.2.getD (vs.length+q) 0=slopeQ x (l.1.getD (vs.length+q) 0) T' Y' P' (l.1.take (vs.length+q)) (l.2.take (vs.length+q))
 | [],i,vs,ds,l,hd,h=>by simp only[prunQ] at h;cases h;exact⟨⟨[],oa⟩,⟨[],oa⟩,rfl,λq x C=>by simp at C⟩
 | x::c,i,vs,ds,l,hd,h=>by
   simp only[prunQ] at h;simp only[runQ];cases s:opQ x T Y P vs with
   | none=>rw[s] at h;cases h
   | some q=>
     rw[s] at h;simp only[] at h |-;split at h
     case isFalse=>cases h
     rename_i B;split at h
     case isFalse=>cases h
     rw[oi B];obtain⟨⟨a,j⟩,⟨d,r⟩,v,A⟩:=Q1b (by simp;exact hd) h;refine⟨⟨q::a,by rw[j];simp⟩,⟨_::d,by rw[r];simp;rfl⟩,v,λk y f=>?_⟩;cases k with
     | zero=>
       simp only[gh,Option.some.injEq] at f;subst f;rw[xf,j,r];have g1:(vs++[q]++a).getD vs.length 0=q:=by rw[xb,oq,yy (xd _),wx];rfl
       have u:∀ w:Rat,(ds++[w]++d).getD vs.length 0=w:=λw=>by rw[xb,oq,<-hd,yy (xd _),wx];rfl
       have g3:(vs++[q]++a).take vs.length=vs:=by rw[xb,List.take_left]
       have g4:∀ w:Rat,(ds++[w]++d).take vs.length=ds:=λw=>by rw[xb,<-hd,List.take_left]
       rw[g1,u,g3,g4]
     | succ k=>
       have:=A k y (by simpa using f);rw[xk,yt,show vs.length+1+k=vs.length+(k+1) by omega] at this;exact this
theorem Q20{ds:List Rat}{m:Nat}:∀ {os:List Int}{w a:List Rat},w.length=os.length->(∀ o∈os,o.toNat<m)->a.length=m ->
 psum ((List.zip os w).foldl (λco z=>addAt co z.1 z.2) a) ds m=psum a ds m+psum w (os.map λo=>ds.getD o.toNat 0) w.length
 | [],[],a,_,_,_=>by simp[psum,sumN];grind
 | [],_::_,_,h,_,_=>by simp at h
 | _::_,[],_,h,_,_=>by simp at h
 | o::os,x::w,a,h,d,f=>by have h0:=d o (.head _);simp only[List.zip_cons_cons,List.foldl_cons,xp,ow];rw[Q20 (by simpa using h) (λi e=>d i (.tail _ e)) (by rw[Qh9];exact f),Qle h0 om,Q6n];grind
theorem Q8c{t:Qk}{lim:Int}{T T':Rat}{Y P Y' P' w:List Rat}{z l}(r:tapeR t)(H:w.length=t.Af.length)(hb:backQ t lim T Y P w=.inr z)(d:pfieldQ t lim T Y P T' Y' P'=.inr l):
 psum w l.2 w.length=z.1*T'+psum z.2.1 Y' t.Ae.toNat+psum z.2.2 P' t.Ao.toNat:=by
 obtain⟨⟨K,L⟩,⟨M,N⟩,O,Q⟩:=r.1;unfold pfieldQ at d;cases hr:prunQ lim T Y P T' Y' P' t.Code 0 [] [] with
 | inl e=>rw[hr] at d;cases d
 | inr q=>
   rw[hr] at d;cases d;obtain⟨_,_,A,J⟩:=Q1b rfl hr;obtain⟨vs,x,f,u,rfl⟩:=Q06 hb;rw[A] at f;injection f with f
   subst f;have G:q.1.length=t.Code.length:=by
    have:∀ {c:List Qt}{i:Nat}{vs l:List Rat},runQ lim T Y P c i vs=.inr l->l.length=vs.length+c.length:=by
     intro c
     induction c with
     | nil=>intro i vs l h;simp only[runQ] at h;cases h;rfl
     | cons x c I=>
       intro i vs l h;simp only[runQ] at h;cases v:opQ x T Y P vs with
       | none=>rw[v] at h;cases h
       | some q=>
         rw[v] at h;simp only[] at h;split at h;rw[I h];simp;omega;cases h
    have:=this A
    simpa using this
   have hs:=Qty u
   have key:=Q1a (t:=t) (T':=T') (Y':=Y') (P':=P') (ds:=q.2) om (by simp only[Q91];omega) oe oe (λj x s=>⟨r.2.1 j x s,by
    have:=J j x s;rw[yx,xz,Q4h (r.2.1 j x s)] at this
    exact this⟩) u
   unfold inn at key;simp only[] at key;unfold coQ at key;rw[Q20 H (λo E=>by have:=r.2.2 o E;omega) oa,Vy,Qd9,Vy (a:=List.replicate t.Ae.toNat 0),Qd9,Vy (a:=List.replicate t.Ao.toNat 0),Qd9] at key;have B:=hs.y;have C:=hs.p;simp only[yf] at B C;rw[B,C,show psum x.co q.2 0=0 from rfl] at key;simp only[];grind
abbrev Tri:=Rat×Rat×List Rat
def triT(t:Qv):Tri:=(fv t.T,fv t.H,rv t.Y)
def tri(h:Qp):List Tri:=(okT h.Aa).map triT
def ChT:Rat->List Tri->Rat->Prop
 | t,[],e=>e=t
 | t,x::l,e=>x.1=t/\ChT (x.1+x.2.1) l e
theorem Qr7:∀ {l1 a:List Tri}{t e:Rat},ChT t (l1++a) e->∃ d,ChT t l1 d/\ChT d a e
 | [],a,t,e,h=>⟨t,rfl,h⟩
 | x::l1,a,t,e,h=>by obtain⟨f,i⟩:=h;obtain⟨d,j,l⟩:=Qr7 i;exact⟨d,⟨f,j⟩,l⟩
def atI(h:Qp)(i:Nat):Rat:=match h.Aa[i]? with
 | some t=>fv t.T
 | none=>fv h.T
theorem Q8d(h:Qp)(i:Nat):fv (nextT h i)=atI h (i+1):=by unfold nextT atI;cases h.Aa[i+1]?<;>rfl
theorem Qvp{h:Qp}(j:Qjc h):∀(m i:Nat),i+m=h.Aa.length->ChT (atI h i) ((okT (h.Aa.drop i)).map triT) (fv h.T)
 | 0,i,hi=>by have e:h.Aa[i]?=none:=xn om;rw[xv om];show fv h.T=atI h i;unfold atI;rw[e]
 | m+1,i,hi=>by
   have a:h.Aa[i]?=some (h.Aa[i]' om):=ol om;generalize h.Aa[i]' om=x at a;obtain⟨c1,d⟩:=j.n i x a;have l:=Qvp j m (i+1) om;rw[Q8d] at c1 d;have f:atI h i=fv x.T:=by unfold atI;rw[a]
   rw[Q0v a];unfold okT;rw[List.filter_cons];cases hk:x.Ok with
   | true=>
     rw[oi rfl,xp];refine⟨f.symm,?_⟩;show ChT (fv x.T+fv x.H) _ _;rw[<-c1 hk];exact l
   | false=>
     rw[oh oy,f,<-(d hk).1];exact l
theorem Q6o{h:Qp}(a:Qjc h):ChT (atI h 0) (tri h) (fv h.T):=Qvp a h.Aa.length 0 om
theorem Qr8(h:Qp):(tri h).length=(okT h.Aa).length:=by simp[tri]
theorem Q21(h:Qp):szs h=(tri h).map (·.2.1):=by unfold szs tri;rw[uc];rfl
def TriK(k d:Nat)(x:Tri):Prop:=qw x.1<=k/\qw x.2.1<=k/\0<x.2.1/\QR k x.2.2/\x.2.2.length=d
theorem Jb4{h:Qp}{k:Nat}(hk:1<=k)(f:Qjc h)(j:∀ t∈h.Aa,FT k t):∀ x∈tri h,TriK k h.Y.length x:=λx l=>by obtain⟨t,d,rfl⟩:=xa.1 l;have a:=(wh.1 d).1;obtain⟨e,i,_⟩:=j t a;have s:=f.s t a;exact⟨qw_fv (e _ oa) hk,qw_fv (e _ oa) hk,s.2.1,QR_rv i hk,by show(rv t.Y).length=_;rw[Q4];exact f.l.1 t a⟩
def kepQ(A:List Tri)(c:Nat):Kf:=⟨(c:Int),toR (A.map (·.2.1)),toR ((mrk A.length c).map λm=>(A.getD m (0,0,[])).1),toRR ((mrk A.length c).map λm=>(A.getD m (0,0,[])).2.2)⟩
theorem Q92{n k:Nat}{h:Qp}{x:Int}(r:big<=n)(u:1<=k)(hk:k<1099511627776)(I:h.Aa.length<=200)(v:∀ t∈h.Aa,FT k t)(C:Fk k h.T)(E:FR k h.Y)(l:h.Y.length<=1000000):
 Qj8 n h x=some (kepQ (tri h) (cutI x)):=by
 obtain⟨c1,H⟩:=cut_b x;have G:=Qki h.Aa;unfold Qj8;rw[Qo5,sbind,Qvk r u hk om v,sbind,Qvj r u hk om v C E l,sbind];have A:((toR (szs h)).length:Int)=(((tri h).length:Nat):Int):=by rw[Q3,Q21];simp
 have B:(tri h).length<=200:=by rw[Qr8];omega
 rw[A,Qo6 r B,sbind];have j:∀ m∈mrk (tri h).length (cutI x),m<(tri h).length:=λm a=>by obtain⟨_,_,_,h⟩:=Qwl c1 a;exact h
 have q:(mrk (tri h).length (cutI x)).length<=200:=by rw[Qlc];have:=Quu (n:=(tri h).length) c1;omega
 unfold kepQ;rw[Q21];generalize mrk (tri h).length (cutI x)=ms at j q |-
 have gT:∀ m,m<(tri h).length->getI (((okT h.Aa).map nT).map (·.T)++[toF (fv h.T)]) (m:Int)=some (toF ((tri h).getD m (0,0,[])).1):=λm a=>by
  have d:m<(okT h.Aa).length:=by rw[Qr8] at a;exact a
  refine Kj ?_;rw[yu oe,xy,xy,ol d,oq];simp[tri,ol d,triT,nT]
 have gY:∀ m,m<(tri h).length->getI (((okT h.Aa).map nT).map (·.Y)++[toR (rv h.Y)]) (m:Int)=some (toR ((tri h).getD m (0,0,[])).2.2):=λm a=>by
  have d:m<(okT h.Aa).length:=by rw[Qr8] at a;exact a
  refine Kj ?_;rw[yu oe,xy,xy,ol d,oq];simp[tri,ol d,triT,nT]
 rw[X8 (s:=(([]:List Qa),([]:List (List Qa)))) (F:=λi=>(toR ((ms.take i).map λm=>((tri h).getD m (0,0,[])).1),toRR ((ms.take i).map λm=>((tri h).getD m (0,0,[])).2.2))) (iL ms) (λi y f=>?_) rfl,Wi];rw[show(iL ms).length=ms.length by simp[iL],yr];unfold iL at f;rw[xy] at f;cases a:ms[i]? with
 | none=>rw[a] at f;cases f
 | some m=>
   rw[a] at f;cases f;have e:=j m (yb a);have hi:=(gz.1 a).1;simp only[];rw[gT m e,sbind,K0 (by simp[Q3];omega) (by simp[Q3];omega),sbind,gY m e,sbind,K0 (by simp[Vi];omega) (by simp[Vi];omega),sbind,uo,a];simp[toR,toRR]
theorem Qoi{A:List Tri}{c:Nat}:(kepQ A c).Sizes.length=A.length/\(kepQ A c).Ts.length=cnt A.length c/\(kepQ A c).Ys.length=cnt A.length c:=by refine⟨?_,?_,?_⟩;show(toR _).length=_;rw[Q3,xr];show(toR _).length=_;rw[Q3,xr,Qlc];show(toRR _).length=_;rw[Vi,xr,Qlc]
theorem Qxa{n k d:Nat}{A:List Tri}{x:Int}(e:big<=n)(f:1<=k)(hk:k<1099511627776)(j:∀ t∈A,TriK k d t)(l:A.length<=200):Qfz n (kepQ A (cutI x))=some true:=by
 obtain⟨c1,E⟩:=cut_b x;obtain⟨l1,B,C⟩:=Qoi (A:=A) (c:=cutI x);unfold Qfz;simp only[jn_eq];rw[Qx7]
 case hb=>
  intro i y u;have a:=yb u;obtain⟨q,r,rfl⟩:=xa.1 a;obtain⟨t,s,rfl⟩:=xa.1 r;obtain⟨_,k2,v,_⟩:=j t s;rw[Xx e f hk (Qz k2),sbind,Qu,oo (λh=>Q78.1 h v)];rfl
 rw[l1,show(kepQ A (cutI x)).Every=((cutI x:Nat):Int) from rfl,Qo6 e l,sbind,Qo5,sbind,Q5t,B,C];have a:((iL (mrk A.length (cutI x))).length:Int)=((cnt A.length (cutI x):Nat):Int):=by rw[Q5u,Qwm]
 rw[a,oj rfl,bifT,oj (show((A.length:Nat):Int)<=200 by omega),bifT,oj rfl,bifT]
theorem Q6p(a:Qr):Z7 a a=true:=by unfold Z7;simp
theorem Q6q{a b:Qr}(h:¬ a=b):Z7 a b=false:=by obtain⟨a1,a2⟩:=a;obtain⟨f,i⟩:=b;unfold Z7;by_cases d:a1=f;have j:¬ a2=i:=λe=>h (by rw[d,e]);simp[j];simp[d]
theorem Q4i{n j:Nat}{A:List Tri}{x:Int}(f:big<=n)(a:A.length<=200)(d:j<cnt A.length (cutI x)):Qf0 n (kepQ A (cutI x)) (sgm A.length (cutI x) (j*cutI x))=some true:=by obtain⟨l1,l,q⟩:=Qoi (A:=A) (c:=cutI x);unfold Qf0;rw[l1,show(kepQ A (cutI x)).Every=((cutI x:Nat):Int) from rfl,Qpv f a,sbind,Q5t];have e:sgm A.length (cutI x) (j*cutI x)∈(mrk A.length (cutI x)).reverse.map (sgm A.length (cutI x)):=List.mem_map_of_mem (List.mem_reverse.2 (yb (Qrx d)));obtain⟨i,hi⟩:=ut e;rw[Xy (P:=λ_ y=>¬ y=sgm A.length (cutI x) (j*cutI x)) (r:=true)];rw[oh λh=>h i _ hi rfl];intro i y _;constructor;intro h;rw[Q6q h];rfl;intro h;obtain rfl:=Classical.not_not.1 h;rw[Q6p];rfl
noncomputable def anewQ(p:Qe):List Tri->Nat->List Rat->Qc ⊕ List (List Rat)
 | [],_,_=>.inr []
 | x::l,i,y=>match stepQ p x.1 x.2.1 y with
   | .inl f=>.inl ⟨f.Ad,((i+1:Nat):Int),f.Am,f.At⟩
   | .inr z=>match anewQ p l (i+1) z.next with
     | .inl f=>.inl f
     | .inr r=>.inr (z.next::r)
theorem Q22{p:Qe}:∀ {l:List Tri}{i:Nat}{y:List Rat}{r:List (List Rat)},anewQ p l i y=.inr r->r.length=l.length/\∀ a∈r,QR 129 a/\a.length=y.length
 | [],i,y,r,h=>by simp only[anewQ] at h;cases h;exact⟨rfl,λ_ h=>by cases h⟩
 | x::l,i,y,r,h=>by
   simp only[anewQ] at h;cases hs:stepQ p x.1 x.2.1 y with
   | inl f=>rw[hs] at h;cases h
   | inr z=>
     rw[hs] at h;simp only[] at h;cases hr:anewQ p l (i+1) z.next with
     | inl f=>rw[hr] at h;cases h
     | inr q=>
       rw[hr] at h;cases h;obtain⟨_,_,j,e,_⟩:=Qeq hs;obtain⟨a1,a2⟩:=Q22 hr;refine⟨by simp[a1],λa d=>?_⟩;rcases xj.1 d with rfl | d
       . exact⟨j,e⟩
       . have:=a2 a d;exact⟨this.1,by rw[this.2,e]⟩
theorem Qyc{p:Qe}(a:∀(x:Tri) y f,stepQ p x.1 x.2.1 y=.inl f->f.Ad≠0):∀ {l:List Tri}{i:Nat}{y:List Rat}{f},anewQ p l i y=.inl f->f.Ad≠0
 | [],i,y,f,h=>by simp only[anewQ] at h;cases h
 | x::l,i,y,f,h=>by
   simp only[anewQ] at h;cases hs:stepQ p x.1 x.2.1 y with
   | inl g=>rw[hs] at h;cases h;exact a x y g hs
   | inr z=>
     rw[hs] at h;simp only[] at h;cases hr:anewQ p l (i+1) z.next with
     | inl g=>rw[hr] at h;cases h;exact Qyc a hr
     | inr d=>rw[hr] at h;cases h
theorem Q6r{n k d:Nat}{p:Qe}{m:Nat}{e:Rat}(J:big<=n)(h0:129<=k)(hk:k<8000)(P:PrbW k p)(W:m<=200):∀(l:List Tri) (i:Nat) (t:Rat) (y:List Rat) (j:List (List Rat)),ChT t l e->(∀ x∈l,TriK k d x)->QR k y->i+l.length<=200->j.length+l.length<=400 ->
 (rangeL (λ(A:Nat) (u:Qa) (s:Qa×(List Qa)×(List (List Qa)))=>
  (Qcm n p s.1 u s.2.1).bind λq=>
  bif !(Qo q.2 (⟨0,0,0,0⟩:Qc)) then (
   some (Lp.out ((([]:List (List Qa)),(⟨q.2.Ad,wrap64 ((wrap64 ((m:Int)+(A:Int)))+(1:Int)),q.2.Am,q.2.At⟩:Qc)))))
  else (
   (K4 n s.1 u).bind λB=>
   (appM 24 s.2.2 ([q.1.Next]:List (List Qa))).bind λE=>
   some (Lp.go (B,q.1.Next,E)))) (toR (l.map (·.2.1))) i (toF t,toR y,toRR j)).bind (lpK λ(C:Qa×(List Qa)×(List (List Qa)))=>
  some (C.2.2,(⟨0,0,0,0⟩:Qc))) =
  some (match anewQ p l (m+i) y with | .inl f=>([],f) | .inr r=>(toRR (j++r),⟨0,0,0,0⟩)):=by
 intro l
 induction l with
 | nil=>intro i t y j _ _ _ _ _;simp only[anewQ,yj];rfl
 | cons x l R=>
   intro i t y j N I Q hi v;obtain⟨c1,K⟩:=N;obtain⟨a1,a2,a3,a4,a5⟩:=I x oa;simp only[ow] at hi v;subst c1;obtain⟨G,H⟩:=Qi9 (t:=toF x.1) (h:=toF x.2.1) (y:=toR y) J h0 hk P (Qz a1) (Qz a2) (Kx Q);rw[Qu,Qu,Vf] at G H;have L:toR ((x::l).map (·.2.1))=toF x.2.1::toR (l.map (·.2.1)):=rfl;rw[L];simp only[rangeL,anewQ];rw[G,sbind];cases hs:stepQ p x.1 x.2.1 y with
   | inl f=>
     have O:=H f hs;simp only[];rw[show Qo f ⟨0,0,0,0⟩=false by obtain⟨T,U,f3,V⟩:=f;exact Jt O,ov,bifT,sbind,sbind,Qfc,w64 (x:=(m:Int)+(i:Int)) om om,w64 (x:=(m:Int)+(i:Int)+1) om om];rw[show(m:Int)+(i:Int)+1=((m+i+1:Nat):Int) by omega]
   | inr z=>
     obtain⟨_,_,S,X,_⟩:=Qeq hs;simp only[];rw[Jv,ot,bifF,K5 (k:=k) J om om (Qz a1) (Qz a2),sbind,Qu,Qu,K0 (by simp[Vi];omega) (by simp[Vi];omega),sbind,sbind];simp only[];have M:toRR j++[(toM z).Next]=toRR (j++[z.next]):=by simp[toRR,toM]
     rw[M,show(toM z).Next=toR z.next from rfl,R (i+1) (x.1+x.2.1) z.next (j++[z.next]) K (λa v=>I a (by simp[v])) (Ja S h0) om oe,show m+(i+1)=m+i+1 by omega];cases hr:anewQ p l (m+i+1) z.next with
     | inl f=>rfl
     | inr r=>simp only[];rw[xb];rfl
theorem Q1c{c:Nat}(h:1<=c):grd (((c:Nat):Int) != 0)=some ():=by unfold grd;rw[show(((c:Nat):Int) != 0)=true by simp;omega];rfl
theorem Qt1{j c:Nat}(a:1<=c)(f:j*c<=1000000):wrap64 (Int.tdiv ((j*c:Nat):Int) ((c:Nat):Int))=(j:Int):=by
 have e:Int.tdiv ((j*c:Nat):Int) ((c:Nat):Int)=(j:Int):=by rw[Int.natCast_mul,Int.mul_tdiv_cancel _ om]
 have d:j*1<=j*c:=ui _ a;rw[e,w64 om om]
def segA(A:List Tri)(c m:Nat):List Tri:=(A.take (min (m+c) A.length)).drop m
theorem Qgi{A:List Tri}{c m:Nat}:(segA A c m).length=min (m+c) A.length - m:=by unfold segA;simp
theorem Q6s{A:List Tri}{c m:Nat}(d:m<A.length)(a:1<=c):(A.take (min (m+c) A.length - 1)).drop m=(segA A c m).take (min (m+c) A.length - 1 - m):=by unfold segA;rw[List.take_drop,List.take_take];congr 2;omega
theorem Qt2{A:List Tri}{c m:Nat}:∀ x∈segA A c m,x∈A:=λ_ a=>yd (ve a)
theorem Qvq{A:List Tri}{c m:Nat}{t0 j:Rat}(f:ChT t0 A j)(i:m<A.length)(v:1<=c):∃ e,ChT (A.getD m (0,0,[])).1 (segA A c m) e:=by
 have l:A=A.take m++A.drop m:=(ud m A).symm;rw[l] at f;obtain⟨u,_,a⟩:=Qr7 f;have q:A.drop m=segA A c m++A.drop (min (m+c) A.length):=by unfold segA;rw[List.drop_take];have:=ud (min (m+c) A.length - m) (A.drop m);rw[List.drop_drop,show m+(min (m+c) A.length - m)=min (m+c) A.length by omega] at this;exact this.symm
 have d:=a;rw[xh i] at d;have r:(A.getD m (0,0,[])).1=u:=by rw[oq,ol i];exact d.1
 rw[q] at a;obtain⟨e,s,_⟩:=Qr7 a;exact⟨e,by rw[r];exact s⟩
theorem Q8e{l:List Tri}{t e:Rat}(i:Nat)(h:ChT t l e):∃ a,ChT t (l.take i) a:=by rw[<-ud i l] at h;obtain⟨a,d,_⟩:=Qr7 h;exact⟨a,d⟩
theorem Q6t{A:List Tri}{c j:Nat}(a:j<cnt A.length c):getI (kepQ A c).Ts (j:Int)=some (toF (A.getD (j*c) (0,0,[])).1):=by refine Kj ?_;show(toR _)[j]?=_;unfold toR;rw[xy,xy,Qrx a];rfl
theorem Jb5{A:List Tri}{c j:Nat}(a:j<cnt A.length c):getI (kepQ A c).Ys (j:Int)=some (toR (A.getD (j*c) (0,0,[])).2.2):=by refine Kj ?_;show(toRR _)[j]?=_;unfold toRR;rw[xy,xy,Qrx a];rfl
theorem Qt3{A:List Tri}{m:Nat}(a:m<A.length):A.getD m (0,0,[])∈A:=by rw[oq,ol a];exact wb a
theorem Q6u{n k d j:Nat}{p:Qe}{A:List Tri}{x:Int}{t0 I:Rat}(a:big<=n)(h0:129<=k)(hk:k<8000)(G:PrbW k p)(hr:prbR p)(hd:(d:Int)=p.Tape.Ae)(q:∀ t∈A,TriK k d t)(E:A.length<=200)(L:ChT t0 A I)(l:j<cnt A.length (cutI x)):
 Qhf n p (kepQ A (cutI x)) (sgm A.length (cutI x) (j*cutI x))=some (match anewQ p ((segA A (cutI x) (j*cutI x)).take (min (j*cutI x+cutI x) A.length - 1 - j*cutI x)) (j*cutI x) (A.getD (j*cutI x) (0,0,[])).2.2 with
  | .inl f=>([],f)
  | .inr r=>(toRR ((A.getD (j*cutI x) (0,0,[])).2.2::r),⟨0,0,0,0⟩)):=by
 obtain⟨c1,R⟩:=cut_b x;have v:=(Qhk c1).1 l;have K:=Qxa (x:=x) a (show 1<=k by omega) om q E;have J:=Q4i (x:=x) a E l;unfold Qhf;simp only[jn_eq];rw[Qgu a h0 hk G,sbind,dP_t hr,ot,bifF,K,sbind,ot,bifF,J,sbind,ot,bifF];generalize M:cutI x=c at *;obtain⟨O,P,Q,B,C⟩:=q _ (Qt3 v);obtain⟨e,s⟩:=Qvq L v c1;show((grd (((c:Nat):Int) != 0)).bind λ_=>_)=_;rw[Q1c c1,sbind];show((getI (kepQ A c).Ts (wrap64 (Int.tdiv ((j*c:Nat):Int) ((c:Nat):Int)))).bind λ_=>_)=_;rw[Qt1 c1 om,Q6t l,sbind];show((grd (((c:Nat):Int) != 0)).bind λ_=>_)=_;rw[Q1c c1,sbind];show((getI (kepQ A c).Ys (wrap64 (Int.tdiv ((j*c:Nat):Int) ((c:Nat):Int)))).bind λ_=>_)=_;rw[Qt1 c1 om,Jb5 l,sbind,Q3,C,oj hd,ot,bifF,Zw a,sbind,Xf (k:=k) a om om (Qz (by rw[Ql3];omega)) (Kx B) (by rw[Q3,C];obtain⟨g,_⟩:=hr;have:=g.1.1.2;omega),sbind,Qu,Vf,Qof];have eT:wrap64 ((sgm A.length c (j*c)).To - 1)=((min (j*c+c) A.length - 1:Nat):Int):=by
  show wrap64 (((min (j*c+c) A.length:Nat):Int) - 1)=_;rw[w64 om om];omega
 have eS:sub (kepQ A c).Sizes ((j*c:Nat):Int) ((min (j*c+c) A.length - 1:Nat):Int)=some (toR (((segA A c (j*c)).take (min (j*c+c) A.length - 1 - j*c)).map (·.2.1))):=by rw[Qwk om (by rw[Qoi.1];omega),<-Q6s v c1];show some (((toR (A.map (·.2.1))).take _).drop _)=_;unfold toR;rw[<-uw,<-uw,<-vf,<-vf]
 rw[eT];show((sub (kepQ A c).Sizes ((j*c:Nat):Int) _).bind λ_=>_)=_;rw[eS,sbind];obtain⟨H,i⟩:=Q8e (min (j*c+c) A.length - 1 - j*c) s;have u:=Q6r (n:=n) (k:=k) (d:=d) (p:=p) (m:=j*c) (e:=H) a h0 hk G om ((segA A c (j*c)).take (min (j*c+c) A.length - 1 - j*c)) 0 (A.getD (j*c) (0,0,[])).1 (A.getD (j*c) (0,0,[])).2.2 [(A.getD (j*c) (0,0,[])).2.2] i (λx N=>q x (Qt2 x (yd N))) B (by rw[xg,Qgi];omega) (by rw[xg,Qgi];simp;omega);refine u.trans ?_;rw[xf];rfl
theorem Q1d{n k d j:Nat}{p:Qe}{w sum:List Qa}{g:Qg}{A:List Tri}{x:Int}{t0 s:Rat}(N:big<=n)(L:1<=k)(hk:k<1099511627776)(r:∀ t∈A,TriK k d t)(Y:A.length<=200)(v:ChT t0 A s)(I:j<cnt A.length (cutI x)):
 Yu n p (kepQ A (cutI x)) w sum g (sgm A.length (cutI x) (j*cutI x))=some (toR ((segA A (cutI x) (j*cutI x)).map (·.1))):=by
 obtain⟨c1,X⟩:=cut_b x;have J:=(Qhk c1).1 I;unfold Yu;generalize M:cutI x=c at *;obtain⟨S,T,U,V,W⟩:=r _ (Qt3 J);obtain⟨e,B⟩:=Qvq v J c1;show((grd (((c:Nat):Int) != 0)).bind λ_=>_)=_;rw[Q1c c1,sbind];show((getI (kepQ A c).Ts (wrap64 (Int.tdiv ((j*c:Nat):Int) ((c:Nat):Int)))).bind λ_=>_)=_;rw[Qt1 c1 om,Q6t I,sbind];have eS:sub (kepQ A c).Sizes ((j*c:Nat):Int) ((min (j*c+c) A.length:Nat):Int)=some (toR ((segA A c (j*c)).map (·.2.1))):=by
  rw[Qwk om (by rw[Qoi.1];omega)];show some (((toR (A.map (·.2.1))).take _).drop _)=_;unfold toR segA;rw[<-uw,<-uw,<-vf,<-vf]
 show((sub (kepQ A c).Sizes ((j*c:Nat):Int) ((min (j*c+c) A.length:Nat):Int)).bind λ_=>_)=_;rw[eS,sbind]
 have key:∀(l:List Tri) (i:Nat) (t:Rat) (f:List Rat),ChT t l e->(∀ x∈l,TriK k d x)->f.length+l.length<=400 ->
  (rangeL (λ(_:Nat) (G:Qa) (q:Qa×(List Qa))=>
  (appM 56 q.2 ([q.1]:List Qa)).bind λH=>
  (K4 n q.1 G).bind λC=>
  some (Lp.go (C,H))) (toR (l.map (·.2.1))) i (toF t,toR f)).bind (lpK λ(E:Qa×(List Qa))=>
 some E.2)=some (toR (f++l.map (·.1))):=by
  intro l
  induction l with
  | nil=>intro i t f _ _ _;show some (toR f)=some (toR (f++[]));rw[yj]
  | cons y l P=>
    intro i t f v r u;obtain⟨Q,R⟩:=v;obtain⟨a1,a2,_⟩:=r y oa;simp only[ow] at u;subst Q;have s:toR ((y::l).map (·.2.1))=toF y.2.1::toR (l.map (·.2.1)):=rfl;rw[s];simp only[rangeL];rw[K0 (by simp[Q3];omega) (by simp[Q3];omega),sbind,K5 (k:=k) N L hk (Qz a1) (Qz a2),sbind,Qu,Qu,sbind];have K:toR f++[toF y.1]=toR (f++[y.1]):=by simp[toR]
    rw[K];refine(P (i+1) (y.1+y.2.1) (f++[y.1]) R (λa u=>r a (by simp[u])) oe).trans ?_;rw[xp,xb];rfl
 exact(key (segA A c (j*c)) 0 _ [] B (λx O=>r x (Qt2 x O)) (by rw[Qgi];simp;omega)).trans rfl
noncomputable def bstQ(p:Qe)(i:Nat)(x:Tri)(y:List Rat)(g:List Rat×List Rat):Qc ⊕ (List Rat×List Rat):=
 match backThQ p x.1 x.2.1 y g.1 with
 | .inl f=>.inl ⟨f.Ad,((i+1:Nat):Int),f.Am,f.At⟩
 | .inr z=>match fitQ (limQ p.Ac) (addQ g.2 z.2.2) 0 with
   | some a=>.inl ⟨6,((i+1:Nat):Int),10,300+(a:Int)⟩
   | none=>.inr (z.2.1,addQ g.2 z.2.2)
theorem Q6v{lim:Int}:∀ {l:List Rat}{i a:Nat},fitQ lim l i=some a->a<i+l.length
 | [],i,a,h=>by cases h
 | q::l,i,a,h=>by simp only[fitQ] at h;split at h;have:=Q6v h;simp only[ow];omega;cases h;simp
theorem Q4j{n k d i:Nat}{p:Qe}{kept:Kf}{w sum y:List Rat}{g:Qg}{x:Tri}(v:big<=n)(h0:129<=k)(hk:k<8000)(M:PrbW k p)(hr:prbR p)(r:getI kept.Sizes (i:Int)=some (toF x.2.1))(hi:i<=200)(N:TriK k d x)(O:QR k y)(B:y.length=d)(A:QR k w)(hs:QR 129 sum)(L:sum.length=p.P.length)(j:g.limit=limQ p.Ac):
 ∃ R,Yq n p kept (toR w) (toR sum) g (i:Int) (toF x.1) (toR y)=some R/\match bstQ p i x y (w,sum) with
   | .inl f=>R.1=f/\f.Ad≠0
   | .inr z=>∃ l,l.limit=limQ p.Ac/\R=(⟨0,0,0,0⟩,p,kept,toR z.1,toR z.2,l)/\QR 129 z.1/\QR 129 z.2/\z.1.length=d/\z.2.length=p.P.length:=by
 obtain⟨P,x2,_⟩:=N;have J:p.P.length<=1000000:=by have W:=hr.2.2;obtain⟨⟨⟨_,_⟩,⟨q,S⟩,_⟩,_⟩:=hr.1;omega
 obtain⟨C,E,q⟩:=Qsm (n:=n) (k:=k) (p:=p) (t:=toF x.1) (h:=toF x.2.1) (y:=toR y) (w:=toR w) v h0 hk M (Qz P) (Qz x2) (Kx O) (Kx A);rw[Qu,Qu,Vf,Vf] at C E q;have u:limQ p.Ac<=4096:=by unfold limQ;omega
 unfold Yq bstQ;rw[r,sbind,C,sbind];cases hb:backThQ p x.1 x.2.1 y w with
 | inl f=>
   have G:=E f hb;simp only[];rw[show Qo f ⟨0,0,0,0⟩=false by obtain⟨T,U,f3,V⟩:=f;exact Jt G,ov,bifT,w1 om];exact⟨_,rfl,rfl,G⟩
 | inr z=>
   obtain⟨_,Q,H,z3,z4,z5⟩:=q z hb;simp only[];rw[Jv,ot,bifF,Qbx (k:=129) v oy oy (Kx hs) (Kx H) (by rw[Q3];omega),sbind,oi (by rw[Q3,Q3];omega),Vf,Vf];have K:QR 1099511627775 (addQ sum z.2.2):=Ja (Qn9 hs H) oy;have s:(addQ sum z.2.2).length=p.P.length:=by rw[Qdc];omega
   obtain⟨l,g1,I⟩:=Ql2 (g:=g) v K;simp only[];rw[I,j,sbind];cases e:fitQ (limQ p.Ac) (addQ sum z.2.2) 0 with
   | some a=>
     have X:=Q6v e;simp only[];rw[ov,bifT,w1 om,w64 (x:=300+(a:Int)) om om];exact⟨_,rfl,rfl,oy⟩
   | none=>
     simp only[];rw[ot,bifF];exact⟨_,rfl,l,by rw[g1,j],rfl,Q,Qh8 u e,by rw[z3,Q3,B],s⟩
noncomputable def swQ(p:Qe)(m:Nat)(xs:List Tri)(ys:List (List Rat)):Nat->List Rat×List Rat->Qc ⊕ (List Rat×List Rat)
 | 0,g=>.inr g
 | d+1,g=>match bstQ p (m+d) (xs.getD d (0,0,[])) (ys.getD d []) g with
   | .inl f=>.inl f
   | .inr z=>swQ p m xs ys d z
noncomputable def segQ(p:Qe)(A:List Tri)(c m:Nat)(g:List Rat×List Rat):Qc ⊕ (List Rat×List Rat):=
 match anewQ p ((segA A c m).take (min (m+c) A.length - 1 - m)) m (A.getD m (0,0,[])).2.2 with
 | .inl f=>.inl f
 | .inr r=>swQ p m (segA A c m) ((A.getD m (0,0,[])).2.2::r) (min (m+c) A.length - m) g
theorem Q19{σ τ:Type}{f:Nat->σ->Option (Lp σ τ)}{L:Nat}{s:σ}:rangeN f (L:Int) s=rangeD f L s:=by unfold rangeN;rw[oj (show(-9223372036854775808:Int)<(L:Int) by omega),yz];rfl
theorem Q93{n k d m:Nat}{p:Qe}{kept:Kf}{xs:List Tri}{ys:List (List Rat)}(W:big<=n)(h0:129<=k)(hk:k<8000)(J:PrbW k p)(hr:prbR p)(hm:m+xs.length<=200)(Z:ys.length=xs.length)
 (X:∀(i:Nat) x,xs[i]?=some x->TriK k d x/\getI kept.Sizes ((m+i:Nat):Int)=some (toF x.2.1)) (Y:∀ y∈ys,QR k y/\y.length=d) :
 ∀(j:Nat) (w sum:List Rat) (g:Qg),j<=xs.length->QR k w->QR 129 sum->sum.length=p.P.length->g.limit=limQ p.Ac ->
 ∃ o,rangeD (λ(v:Nat) (r:Qe×Kf×(List Qa)×(List Qa)×Qg)=>
   (getI (toR (xs.map (·.1))) (v:Int)).bind λL=>
   (getI (toRR ys) (v:Int)).bind λM=>
   (Yq n r.1 r.2.1 r.2.2.1 r.2.2.2.1 r.2.2.2.2 (wrap64 ((m:Int)+(v:Int))) L M).bind λa=>
   bif !(Qo a.1 (⟨0,0,0,0⟩:Qc)) then (
    some (Lp.out (a.2.1,a.2.2.1,a.2.2.2.1,a.2.2.2.2.1,a.2.2.2.2.2,a.1)))
   else (
    some (Lp.go (a.2.1,a.2.2.1,a.2.2.2.1,a.2.2.2.2.1,a.2.2.2.2.2)))) j (p,kept,toR w,toR sum,g)=some o /\
   match swQ p m xs ys j (w,sum) with
   | .inl f=>∃ q,o=.out q/\q.2.2.2.2.2=f/\f.Ad≠0
   | .inr z=>∃ C,o=.go (p,kept,toR z.1,toR z.2,C)/\C.limit=limQ p.Ac/\QR k z.1/\QR 129 z.2/\z.1.length=(if j=0 then w.length else d)/\z.2.length=p.P.length:=by
 intro j
 induction j with
 | zero=>
   intro w sum g _ J hs I e;exact⟨_,rfl,g,rfl,e,J,hs,rfl,I⟩
 | succ j ih=>
   intro w sum g hj K hs I e;have s:xs[j]?=some (xs[j]' om):=ol om;have u:ys[j]?=some (ys[j]' om):=ol om;have B:=wb (l:=ys) (n:=j) om;generalize xs[j]' om=x at s;generalize ys[j]' om=y at u B;obtain⟨x1,x2⟩:=X j x s;obtain⟨y1,y2⟩:=Y y B;obtain⟨R,r1,G⟩:=Q4j (n:=n) (k:=k) (d:=d) (i:=m+j) (p:=p) (kept:=kept) (w:=w) (sum:=sum) (y:=y) (g:=g) (x:=x) W h0 hk J hr x2 om x1 y1 y2 K hs I e;have g1:getI (toR (xs.map (·.1))) (j:Int)=some (toF x.1):=Kj (by unfold toR;rw[xy,xy,s];rfl);have H:getI (toRR ys) (j:Int)=some (toR y):=Kj (by unfold toRR;rw[xy,u];rfl);simp only[rangeD,swQ];rw[g1,sbind,H,sbind,w64 (x:=(m:Int)+(j:Int)) om om,show(m:Int)+(j:Int)=((m+j:Nat):Int) by omega,r1,sbind,oq,s,oq,u];simp only[wa];cases hb:bstQ p (m+j) x y (w,sum) with
   | inl f=>
     rw[hb] at G;obtain⟨N,O⟩:=G;rw[show Qo R.1 ⟨0,0,0,0⟩=false by rw[N];obtain⟨f1,f2,f3,f4⟩:=f;exact Jt O,ov,bifT,sbind];exact⟨_,rfl,_,rfl,N,O⟩
   | inr z=>
     rw[hb] at G;obtain⟨C,l1,rfl,l3,l4,l5,l6⟩:=G;rw[Jv,ot,bifF,sbind];obtain⟨o,o1,E⟩:=ih z.1 z.2 C om (Ja l3 h0) l4 l6 l1;refine⟨o,o1,?_⟩;simp only[];cases A:swQ p m xs ys j z with
     | inl f=>rw[A] at E;exact E
     | inr z'=>
       rw[A] at E;obtain⟨H,P,Q,S,T,U,V⟩:=E;refine⟨H,P,Q,S,T,?_,V⟩;rw[oh (Nat.succ_ne_zero j),U];split;exact l5;rfl
theorem Q1e{n k d j:Nat}{p:Qe}{A:List Tri}{x:Int}{t0 U:Rat}{w sum:List Rat}{g:Qg}(G:big<=n)(h0:129<=k)(hk:k<8000)(S:PrbW k p)(hr:prbR p)(hd:(d:Int)=p.Tape.Ae)(u:∀ t∈A,TriK k d t)(N:A.length<=200)(P:ChT t0 A U)(E:j<cnt A.length (cutI x))
 (J:QR k w) (_:w.length=d) (hs:QR 129 sum) (I:sum.length=p.P.length) (e:g.limit=limQ p.Ac) :
 ∃ R,Xu n p (kepQ A (cutI x)) (toR w) (toR sum) g (sgm A.length (cutI x) (j*cutI x))=some R/\match segQ p A (cutI x) (j*cutI x) (w,sum) with
   | .inl f=>R.1=f/\f.Ad≠0
   | .inr z=>∃ s,s.limit=limQ p.Ac/\R=(⟨0,0,0,0⟩,p,kepQ A (cutI x),toR z.1,toR z.2,s)/\QR k z.1/\QR 129 z.2/\z.1.length=d/\z.2.length=p.P.length:=by
 obtain⟨c1,c2⟩:=cut_b x;have X:=(Qhk c1).1 E;have B:=Q6u (x:=x) G h0 hk S hr hd u N P E;have C:=Q1d (n:=n) (k:=k) (d:=d) (p:=p) (w:=toR w) (sum:=toR sum) (g:=g) (x:=x) G om om u N P E;unfold Xu segQ;rw[B,sbind];generalize W:cutI x=c at *;obtain⟨b1,b2,b3,T,M⟩:=u _ (Qt3 X);cases O:anewQ p ((segA A c (j*c)).take (min (j*c+c) A.length - 1 - j*c)) (j*c) (A.getD (j*c) (0,0,[])).2.2 with
 | inl f=>
   have Q:=Qyc (λx y f h=>Qla h) O;simp only[];rw[show Qo f ⟨0,0,0,0⟩=false by obtain⟨f1,f2,f3,f4⟩:=f;exact Jt Q,ov,bifT];exact⟨_,rfl,rfl,Q⟩
 | inr r=>
   obtain⟨r1,r2⟩:=Q22 O;simp only[];rw[Jv,ot,bifF,C,sbind];have V:wrap64 ((sgm A.length c (j*c)).To - (sgm A.length c (j*c)).From)=((min (j*c+c) A.length - j*c:Nat):Int):=by show wrap64 (((min (j*c+c) A.length:Nat):Int) - ((j*c:Nat):Int))=_;rw[w64 om om];omega
   rw[V,Q19];have H:r.length=min (j*c+c) A.length - 1 - j*c:=by rw[r1,xg,Qgi];omega
   obtain⟨o,Y,v⟩:=Q93 (n:=n) (k:=k) (d:=d) (m:=j*c) (p:=p) (kept:=kepQ A c) (xs:=segA A c (j*c)) (ys:=(A.getD (j*c) (0,0,[])).2.2::r) G h0 hk S hr (by rw[Qgi];omega) (by rw[ow,H,Qgi];omega)
    (λi y a=>⟨u y (Qt2 y (yb a)),Kj (by
     have hi:=(gz.1 a).1;rw[Qgi] at hi;show(toR _)[j*c+i]?=_;unfold toR;rw[xy,xy];unfold segA at a;rw[vq,List.getElem?_take_of_lt om] at a
     rw[a];rfl)⟩)
    (λy a=>by
     rcases xj.1 a with rfl | a;exact⟨T,M⟩
     have:=r2 y a;exact⟨Ja this.1 h0,by rw[this.2,M]⟩)
    (min (j*c+c) A.length - j*c) w sum g (by rw[Qgi];omega) J hs I e
   erw [Y]
   rw[sbind];cases l:swQ p (j*c) (segA A c (j*c)) ((A.getD (j*c) (0,0,[])).2.2::r) (min (j*c+c) A.length - j*c) (w,sum) with
   | inl f=>
     rw[l] at v;obtain⟨q,rfl,K,L⟩:=v;exact⟨_,rfl,K,L⟩
   | inr z=>
     rw[l] at v;obtain⟨s,rfl,K,L,Z,q5,q6⟩:=v;refine⟨_,rfl,s,K,rfl,L,Z,?_,q6⟩;rw[q5,oh om]
noncomputable def allQ(p:Qe)(A:List Tri)(c:Nat):List Nat->List Rat×List Rat->Qc ⊕ (List Rat×List Rat)
 | [],g=>.inr g
 | m::l,g=>match segQ p A c m g with
   | .inl f=>.inl f
   | .inr z=>allQ p A c l z
def SwR(p:Qe)(h:Qp)(w:List Rat):Prop:=prbR p/\Qjc h/\(h.Y.length:Int)=p.Tape.Ae/\w.length=h.Y.length
open Classical in
noncomputable def sweepQ(p:Qe)(h:Qp)(w:List Rat)(c:Nat):Qc ⊕ (List Rat×List Rat):=
 if SwR p h w then allQ p (tri h) c (mrk (tri h).length c).reverse (w,List.replicate p.P.length 0) else .inl ⟨2,0,0,0⟩
theorem Q8f{n k d:Nat}{p:Qe}{A:List Tri}{x:Int}{t0 J:Rat}(Q:big<=n)(h0:129<=k)(hk:k<8000)(B:PrbW k p)(hr:prbR p)(hd:(d:Int)=p.Tape.Ae)(L:∀ t∈A,TriK k d t)(M:A.length<=200)(N:ChT t0 A J):
 ∀(l:List Nat) (i:Nat) (w sum:List Rat) (g:Qg),(∀ m∈l,∃ j,j<cnt A.length (cutI x)/\m=j*cutI x)->QR k w->w.length=d->QR 129 sum->sum.length=p.P.length->g.limit=limQ p.Ac ->
 (rangeL (λ(_:Nat) (G:Qr) (e:Qe×Kf×(List Qa)×(List Qa)×Qg)=>
  (Xu n e.1 e.2.1 e.2.2.1 e.2.2.2.1 e.2.2.2.2 G).bind λa=>
  bif !(Qo a.1 (⟨0,0,0,0⟩:Qc)) then (
   some (Lp.out (((⟨[],[]⟩:Jb),a.1))))
  else (
   some (Lp.go (a.2.1,a.2.2.1,a.2.2.2.1,a.2.2.2.2.1,a.2.2.2.2.2)))) (l.map (sgm A.length (cutI x))) i (p,kepQ A (cutI x),toR w,toR sum,g)).bind (lpK λ(s:Qe×Kf×(List Qa)×(List Qa)×Qg)=>
  some ((⟨s.2.2.1,s.2.2.2.1⟩:Jb),(⟨0,0,0,0⟩:Qc))) =
  some (match allQ p A (cutI x) l (w,sum) with | .inl f=>(⟨[],[]⟩,f) | .inr z=>(⟨toR z.1,toR z.2⟩,⟨0,0,0,0⟩)) /\
  (∀ f,allQ p A (cutI x) l (w,sum)=.inl f->f.Ad≠0)/\∀ z,allQ p A (cutI x) l (w,sum)=.inr z->QR k z.1/\QR 129 z.2/\z.1.length=d/\z.2.length=p.P.length:=by
 intro l
 induction l with
 | nil=>intro i w sum g _ B u hs q _;exact⟨rfl,(λf h=>by cases h),λz h=>by cases h;exact⟨B,hs,u,q⟩⟩
 | cons m l S=>
   intro i w sum g u E C hs q r;obtain⟨j,O,rfl⟩:=u m oa;obtain⟨R,X,v⟩:=Q1e (n:=n) (k:=k) (d:=d) (j:=j) (p:=p) (A:=A) (x:=x) (w:=w) (sum:=sum) (g:=g) Q h0 hk B hr hd L M N O E C hs q r;simp only[xp,rangeL,allQ];rw[X,sbind];cases hb:segQ p A (cutI x) (j*cutI x) (w,sum) with
   | inl f=>
     rw[hb] at v;obtain⟨H,I⟩:=v;rw[show Qo R.1 ⟨0,0,0,0⟩=false by rw[H];obtain⟨Z,f2,f3,f4⟩:=f;exact Jt I,ov,bifT,sbind,sbind,Qfc,H];exact⟨rfl,(λY h=>by cases h;exact I),λz h=>by cases h⟩
   | inr z=>
     rw[hb] at v;obtain⟨K,l1,rfl,T,U,V,W⟩:=v;rw[Jv,ot,bifF,sbind];exact S (i+1) z.1 z.2 K (λm P=>u m (by simp[P])) T V U W l1
theorem Qje{n k:Nat}{p:Qe}{h:Qp}{w:List Qa}{x:Int}(a:big<=n)(h0:129<=k)(hk:k<8000)(I:PrbW k p)(L:h.Aa.length<=200)(B:∀ t∈h.Aa,FT k t)(G:Fk k h.T)(H:FR k h.Y)(l:h.Y.length<=1000000)(s:FR k w)(C:w.length<=1000000):
 Qbr n p h w x=some (match sweepQ p h (rv w) (cutI x) with | .inl f=>(⟨[],[]⟩,f) | .inr z=>(⟨toR z.1,toR z.2⟩,⟨0,0,0,0⟩)) /\
  (∀ f,sweepQ p h (rv w) (cutI x)=.inl f->f.Ad≠0)/\∀ z,sweepQ p h (rv w) (cutI x)=.inr z->QR k z.1/\QR 129 z.2/\z.1.length=h.Y.length/\z.2.length=p.P.length:=by
 obtain⟨c1,O⟩:=cut_b x;unfold Qbr sweepQ;simp only[jn_eq];rw[Qgu a h0 hk I,sbind,bifnP];by_cases hr:prbR p
 case neg=>rw[oh hr,oh (λg=>hr g.1),bifT];exact⟨rfl,(λf h=>by cases h;decide),λz h=>by cases h⟩
 rw[oi hr,Qjd a om om om B G H l,sbind,bifnP];by_cases i:Qjc h
 case neg=>rw[oh i,oh (λg=>i g.2.1),bifT];exact⟨rfl,(λf h=>by cases h;decide),λz h=>by cases h⟩
 rw[oi i];by_cases hd:(h.Y.length:Int)=p.Tape.Ae
 case neg=>rw[oo hd,oh (λg=>hd g.2.2.1),ov,bifT,bifT];exact⟨rfl,(λf h=>by cases h;decide),λz h=>by cases h⟩
 rw[oj hd,ot,bifF];by_cases e:(w.length:Int)=(h.Y.length:Int)
 case neg=>rw[oo e,oh (λg=>e (by have:=g.2.2.2;rw[Q4] at this;omega)),ov,bifT];exact⟨rfl,(λf h=>by cases h;decide),λz h=>by cases h⟩
 have r:w.length=h.Y.length:=om
 rw[oj e,oi ⟨hr,i,hd,by rw[Q4];exact r⟩,ot,bifF];have u:p.P.length<=300:=by have R:=hr.2.2;obtain⟨⟨⟨_,_⟩,⟨P,Q⟩,_⟩,_⟩:=hr.1;omega
 have E:(tri h).length<=200:=by have:=Qki h.Aa;rw[Qr8];omega
 rw[Q92 (x:=x) a om om L B G H l,sbind,Zw a,sbind,Xf (k:=k) a om om (Qz (by rw[Ql3];omega)) s C,sbind,Qu,Qof,Qaw a u,sbind];unfold Vx;rw[sbind,Qoi.1,Qpv a E,sbind]
 have v:=Q8f (n:=n) (k:=k) (d:=h.Y.length) (p:=p) (A:=tri h) (x:=x) a h0 hk I hr hd (Jb4 om i B) E (Q6o i) (mrk (tri h).length (cutI x)).reverse 0 (rv w) (List.replicate p.P.length 0) ⟨⟨0,0⟩,min (max p.Ac 0) 4096⟩
  (λm M=>by obtain⟨j,J,K,_⟩:=Qwl c1 (List.mem_reverse.1 M);exact⟨j,J,K⟩) (QR_rv s om) (by rw[Q4];exact r) (λq N=>by rw[List.eq_of_mem_replicate N,Qaa];decide) oa rfl
 exact v
def MCh(p:Qe):Rat->List Rat->List Tri->Rat->List Rat->Prop
 | T,Y,[],E,Z=>E=T/\Z=Y
 | T,Y,x::l,E,Z=>x.1=T/\x.2.2=Y/\∃ z,stepQ p T x.2.1 Y=.inr z/\MCh p (T+x.2.1) z.next l E Z
theorem Q1f{p:Qe}:∀(m:Nat) {A:List Tri}{T E:Rat}{Y Z:List Rat},MCh p T Y A E Z->m<A.length->MCh p (A.getD m (0,0,[])).1 (A.getD m (0,0,[])).2.2 (A.drop m) E Z
 | 0,x::l,T,E,Y,Z,h,a=>by obtain⟨d,e,f⟩:=h;show MCh p x.1 x.2.2 (x::l) E Z;rw[d,e];exact⟨d,e,f⟩
 | m+1,x::l,T,E,Y,Z,h,a=>by obtain⟨_,_,z,_,i⟩:=h;exact Q1f m i (by simp only[ow] at a;omega)
 | _,[],_,_,_,_,_,a=>by simp at a
theorem Qvr{p:Qe}:∀(L:Nat) {l:List Tri}{i:Nat}{T E:Rat}{Y Z:List Rat},MCh p T Y l E Z->L<l.length->anewQ p (l.take L) i Y=.inr (((l.take (L+1)).drop 1).map (·.2.2))
 | 0,x::l,i,T,E,Y,Z,h,a=>by simp[anewQ]
 | L+1,x::y::l,i,T,E,Y,Z,h,a=>by obtain⟨e,r,z,f,j⟩:=h;obtain⟨g1,d,g3⟩:=j;simp only[uf,anewQ];rw[e,f];simp only[];have q:=Qvr L (i:=i+1) (show MCh p (T+x.2.1) z.next (y::l) E Z from⟨g1,d,g3⟩) (by simp only[ow] at a |-;omega);rw[q];simp only[uf,wu,List.drop_zero,xp];rw[<-d]
 | L+1,[x],_,_,_,_,_,_,a=>by simp at a
 | _,[],_,_,_,_,_,_,a=>by simp at a
theorem Q6w{p:Qe}{A:List Tri}{c m:Nat}{T E:Rat}{Y Z:List Rat}(h:MCh p T Y A E Z)(a:m<A.length)(q:1<=c)(g:List Rat×List Rat):segQ p A c m g=swQ p m (segA A c m) ((segA A c m).map (·.2.2)) (min (m+c) A.length - m) g:=by
 have j:=Q1f m h a;have l:=Qvr (p:=p) (min (m+c) A.length - 1 - m) (i:=m) j (by rw[uz];omega);have d:(segA A c m).take (min (m+c) A.length - 1 - m)=(A.drop m).take (min (m+c) A.length - 1 - m):=by unfold segA;rw[List.drop_take,List.take_take];congr 1;omega
 have e:segA A c m=(A.drop m).take (min (m+c) A.length - 1 - m+1):=by unfold segA;rw[List.drop_take];congr 1;omega
 unfold segQ;rw[d,l];simp only[];have f:(A.getD m (0,0,[])).2.2::List.map (·.2.2) (List.drop 1 ((A.drop m).take (min (m+c) A.length - 1 - m+1)))=(segA A c m).map (·.2.2):=by rw[e,xh a,uf,xp,wu,List.drop_zero,oq,ol a];rfl
 rw[f]
theorem Q23{p:Qe}{A:List Tri}{c m:Nat}(i:m<=A.length):∀(L:Nat) (g:List Rat×List Rat),L<=min (m+c) A.length - m->swQ p 0 A (A.map (·.2.2)) (m+L) g=match swQ p m (segA A c m) ((segA A c m).map (·.2.2)) L g with | .inl f=>.inl f | .inr z=>swQ p 0 A (A.map (·.2.2)) m z
 | 0,g,_=>rfl
 | L+1,g,j=>by
   have e:(segA A c m)[L]?=A[m+L]?:=by unfold segA;rw[vq,List.getElem?_take_of_lt om]
   have a:(segA A c m).getD L (0,0,[])=A.getD (m+L) (0,0,[]):=by rw[oq,oq,e]
   have d:((segA A c m).map (·.2.2)).getD L []=(A.map (·.2.2)).getD (m+L) []:=by rw[oq,oq,xy,xy,e]
   show swQ p 0 A (A.map (·.2.2)) (m+L+1) g=_;simp only[swQ];rw[a,d,xz];cases hb:bstQ p (m+L) (A.getD (m+L) (0,0,[])) ((A.map (·.2.2)).getD (m+L) []) g with
   | inl f=>rfl
   | inr z=>exact Q23 i L z om
theorem Qyd{p:Qe}{A:List Tri}{c:Nat}{T E:Rat}{Y Z:List Rat}(h:MCh p T Y A E Z)(a:1<=c):∀(q:Nat) (g:List Rat×List Rat),q<=cnt A.length c->allQ p A c ((mrk A.length c).take q).reverse g=swQ p 0 A (A.map (·.2.2)) (min (q*c) A.length) g
 | 0,g,_=>by simp[allQ,swQ]
 | q+1,g,e=>by
   have d:=(Qhk a).1 (show q<cnt A.length c by omega);rw[Qrm (Qrx (show q<cnt A.length c by omega)),List.reverse_append];simp only[List.reverse_cons,List.reverse_nil,yp,List.singleton_append,allQ];rw[Q6w h d a,show min ((q+1)*c) A.length=q*c+(min (q*c+c) A.length - q*c) by rw[ua];omega,Q23 (c:=c) (show q*c<=A.length by omega) _ g (xd _)];cases hs:swQ p (q*c) (segA A c (q*c)) ((segA A c (q*c)).map (·.2.2)) (min (q*c+c) A.length - q*c) g with
   | inl f=>rfl
   | inr z=>
     simp only[];rw[Qyd h a q z om,ya om]
theorem Q4k{p:Qe}{A:List Tri}{c:Nat}{T E:Rat}{Y Z:List Rat}(h:MCh p T Y A E Z)(a:1<=c)(g:List Rat×List Rat):allQ p A c (mrk A.length c).reverse g=swQ p 0 A (A.map (·.2.2)) A.length g:=by
 have:=Qyd h a (cnt A.length c) g (xd _);rw[show cnt A.length c=(mrk A.length c).length from(Qlc _ _).symm,yr,Qlc] at this;rw[this];have d:¬ cnt A.length c*c<A.length:=λh=>by have:=(Qhk a).2 h;omega
 rw[Nat.min_eq_right om]
theorem Q6x{k:Nat}:Fk k noH.T:=⟨(by intro x h;cases h),xo _,(by intro x h;cases h),xo _⟩
set_option maxRecDepth 100000
theorem Qs5{t:Qk}{lim:Int}{T H:Rat}{U V P:List Rat}:∀ {r:List ((List Rat×Rat)×List Rat)}{i:Nat}{kss z},tstagesQ t lim T H U V P r i kss=.inr z ->
 (∃ e,z=kss++e)/\z.length=kss.length+r.length/\∀(q:Nat) x,r[q]?=some x->∃ l,pfieldQ t lim (T+H*x.1.2) x.2 P 0 (fromQ H U x.1.1 (z.take (kss.length+q))) V=.inr l/\z[kss.length+q]?=some l.2
 | [],i,kss,z,h=>by simp only[tstagesQ] at h;cases h;exact⟨⟨[],oa⟩,rfl,λq x B=>by simp at B⟩
 | x::r,i,kss,z,h=>by
   simp only[tstagesQ] at h;cases hs:tstageQ t lim T H U V P x.2 x.1.1 x.1.2 i kss with
   | inl f=>rw[hs] at h;cases h
   | inr w=>
     rw[hs] at h;simp only[] at h;obtain⟨⟨e,a⟩,v,A⟩:=Qs5 h;refine⟨⟨w::e,by rw[a];simp⟩,by rw[v];simp;omega,λq y s=>?_⟩;cases q with
     | zero=>
       simp only[gh,Option.some.injEq] at s;subst s;unfold tstageQ at hs;cases u:fitQ lim (fromQ H U x.1.1 kss) 0 with
       | some j=>rw[u] at hs;cases hs
       | none=>
         rw[u] at hs;simp only[] at hs;cases d:pfieldQ t lim (T+H*x.1.2) x.2 P 0 (fromQ H U x.1.1 kss) V with
         | inl e=>rw[d] at hs;cases hs
         | inr l=>
           rw[d] at hs;cases hs;refine⟨l,?_,?_⟩;rw[xf,a,xb,List.take_left];exact d;rw[xf,a,xb,yy (xd _),wx];rfl
     | succ q=>
       have:=A q y (by simpa using s);rw[xk,yt,show kss.length+1+q=kss.length+(q+1) by omega] at this;exact this
theorem Q4l{l:List (List Rat)}{i j:Nat}(h:j<i):(l.take i).getD j []=l.getD j []:=by rw[oq,oq,yh,oi h]
def gQ(s:Qq)(H:Rat)(W:List Rat)(j i:Nat)(ls:List (List Rat)):List Rat:=
 scaleQ H (mixQ (((s.A.map rv).drop i).map λa=>a.getD j 0) ls (scaleQ ((rv s.B).getD j 0) W))
theorem Q94{s:Qq}{H:Rat}{W u:List Rat}{i j m:Nat}{ls:List (List Rat)}{x d:List Rat}{a:List Qa}(v:s.A[i]?=some a)(G:ls.length+(i+1)=s.A.length)(r:∀ x∈ls,x.length=m)(C:x.length=m)(B:W.length=m):
 psum d (gQ s H W j i (x::ls)) m=psum d (gQ s H W j (i+1) ls) m+H*((rv a).getD j 0*psum d x m):=by
 have hi:=Ke v;have e:(s.A.map rv).drop i=rv a::(s.A.map rv).drop (i+1):=by
  have q:(s.A.map rv)[i]?=some (rv a):=by rw[xy,v];rfl
  have l:=Ke q;rw[xh l];rw[ol l] at q;rw[Option.some.inj q]
 have E:(scaleQ ((rv s.B).getD j 0) W).length=m:=by rw[Yf];exact B
 have A:∀(c:Rat) (a z:List Rat),List.zipWith (λx o=>o+c*x) a z=linQ c a z:=λc a z=>by unfold linQ;congr 1;funext x o;rw[Rat.add_comm]
 have f:(((s.A.map rv).drop (i+1)).map λa=>a.getD j 0).length=ls.length:=by rw[xr,uz,xr];omega
 unfold gQ;rw[Qgw,Qgw,e,xp];simp only[mixQ];rw[A,Ql6 (m:=m) f r (by rw[Qr6 om];exact C),Ql6 (m:=m) f r E,Qt0 om];grind
theorem Qs6{t:Qk}{s:Qq}{lim:Int}{T H:Rat}{P W U V:List Rat}{yss kss:List (List Rat)}(M:tapeR t)(hs:schR s)(J:U.length=t.Ae.toNat)(G:W.length=t.Ae.toNat)
 (K:kss.length=s.B.length) (C:∀ a∈kss,a.length=t.Ae.toNat) (N:yss.length=s.B.length)
 (hk:∀(q:Nat) x,(List.zip (pairQ s) yss)[q]?=some x->∃ l,pfieldQ t lim (T+H*x.1.2) x.2 P 0 (fromQ H U x.1.1 (kss.take q)) V=.inr l/\kss[q]?=some l.2):∀ {i:Nat}{a z},i<=s.B.length->a.ls.length+i=s.B.length->BdL t.Ae.toNat t.Ao.toNat a ->
 bstagesQ t s lim T H P W yss i a=.inr z->psum z.Y U t.Ae.toNat+psum z.P V t.Ao.toNat=psum a.Y U t.Ae.toNat+psum a.P V t.Ao.toNat+sumN (λj=>psum (kss.getD j []) (gQ s H W j i a.ls) t.Ae.toNat) i
 | 0,a,z,_,_,_,h=>by simp only[bstagesQ] at h;cases h;simp only[sumN];grind
 | i+1,a,z,hi,hal,g,h=>by
   obtain⟨⟨d1,d2⟩,⟨d3,d4⟩,d5,d6⟩:=M.1;obtain⟨⟨g1,g2⟩,g3,g4,g5,g6⟩:=hs.2.1;simp only[bstagesQ] at h;obtain⟨v,r⟩:∃ x,s.A[i]?=some x:=⟨s.A[i]' om,ol _⟩
   obtain⟨S,B⟩:∃ x,s.C[i]?=some x:=⟨s.C[i]' om,ol _⟩
   obtain⟨Q,E⟩:∃ x,yss[i]?=some x:=⟨yss[i]' om,ol _⟩
   have hz:(List.zip (pairQ s) yss)[i]?=some ((rv v,fv S),Q):=by rw[we];refine⟨?_,E⟩;unfold pairQ rv;rw[we];simp only[xy];exact⟨by rw[r];rfl,by rw[B];rfl⟩
   obtain⟨l,k1,k2⟩:=hk i _ hz;have ey:yss.getD i []=Q:=by rw[oq,E];rfl
   rw[ey,Qgv B,show bslQ (s.A.map rv) ((rv s.B).getD i 0) H W i a.ls=gQ s H W i (i+1) a.ls from rfl] at h;have I:(gQ s H W i (i+1) a.ls).length=t.Ae.toNat:=by have:=Q79 (As:=s.A.map rv) (b:=(rv s.B).getD i 0) (H:=H) (i:=i) (W:=W) (l:=a.ls) (by rw[G];exact g.l);rw[G] at this;exact this
   cases s1:bstageQ t lim T H P Q (fv S) (gQ s H W i (i+1) a.ls) i with
   | inl f=>rw[s1] at h;cases h
   | inr w=>
     rw[s1] at h;obtain⟨x,R,rfl⟩:=Qs3 s1;obtain⟨l1,Z⟩:=Q07 R;simp only[] at h;have O:=Qs6 M hs J G K C N hk om (by show a.ls.length+1+i=_;omega) (g.step l1 Z) h;have d:=Q8c M om R k1;rw[I,Rat.mul_zero,Rat.zero_add] at d;simp only[] at d;have ek:kss.getD i []=l.2:=by rw[oq,k2];rfl
     have X:=g6 i v r;have L:(kss.take i).length=i:=by rw[xg];omega
     have e:∀ a∈kss.take i,a.length=t.Ae.toNat:=λa A=>C a (yd A);have hx:psum x.2.1 (fromQ H U (rv v) (kss.take i)) t.Ae.toNat=psum x.2.1 U t.Ae.toNat+H*sumN (λj=>(rv v).getD j 0*psum (kss.getD j []) x.2.1 t.Ae.toNat) i:=by unfold fromQ towQ;rw[Ql5 (by rw[Yf,Qep (m:=U.length) (λa A=>by rw[e a A,J]) oa]),Qgw,Ql6 (m:=U.length) (by rw[Q4];omega) (λa A=>by rw[e a A,J]) oa,Qd9,Rat.zero_add,L];congr 2;refine Qc2 λj Y=>?_;rw[Vy,Q4l Y]
     have hS:sumN (λj=>psum (kss.getD j []) (gQ s H W j i (x.2.1::a.ls)) t.Ae.toNat) i=sumN (λj=>psum (kss.getD j []) (gQ s H W j (i+1) a.ls) t.Ae.toNat) i+H*sumN (λj=>(rv v).getD j 0*psum (kss.getD j []) x.2.1 t.Ae.toNat) i:=by rw[<-Qtz];refine Qc2 λj Y=>?_;exact Q94 (u:=U) r om g.l l1 G
     rw[hS] at O;simp only[] at O;rw[Vy (a:=addQ a.Y x.2.1),Ql5 (by rw[l1,g.y]),Vy (a:=addQ a.P x.2.2),Ql5 (by rw[Z,g.p])] at O;rw[hx,Vy (b:=l.2),<-ek] at d;rw[sumN,Vy (a:=a.Y),Vy (a:=a.P)];rw[Vy (a:=x.2.1),Vy (a:=x.2.2)] at d;grind
theorem Q8g{t:Qk}{s:Qq}{lim:Int}{T H:Rat}{P W U V:List Rat}{yss:List (List Rat)}{z x}(u:lim<=4096)(C:tapeR t)(hs:schR s)(A:U.length=t.Ae.toNat)(B:W.length=t.Ae.toNat)(I:P.length=t.Ao.toNat)(v:yss.length=s.B.length)
 (i:tdoQ t s lim T H U V P yss=.inr z) (G:bdoQ t s lim T H P W yss=.inr x):psum W z.1 t.Ae.toNat=psum x.1 U t.Ae.toNat+psum x.2 V t.Ao.toNat:=by
 obtain⟨⟨L,M⟩,⟨N,O⟩,Q,R⟩:=C.1;obtain⟨⟨g1,S⟩,g3,g4,X,Y⟩:=hs.2.1;obtain⟨y,E,rfl⟩:=Q08 G;unfold tdoQ at i;cases hk:tstagesQ t lim T H U V P (List.zip (pairQ s) yss) 0 [] with
 | inl f=>rw[hk] at i;cases i
 | inr kss=>
   rw[hk] at i;simp only[] at i;rw[Qx6 i];obtain⟨_,k2,K⟩:=Qs5 hk;have d:=Qs2 u om (λ_ h=>by cases h) hk;have r:kss.length=s.B.length:=by rw[k2,yx,xz,List.length_zip];unfold pairQ;rw[List.length_zip,xr,Q4];omega
   have gB:BdL t.Ae.toNat t.Ao.toNat ⟨[],W,List.replicate P.length 0⟩:=⟨B,by simp;exact I,λ_ h=>by cases h⟩
   have key:=Qs6 C hs A B r (λa l=>by rw[d a l,A]) v (λq x J=>by
    have:=K q x J
    rwa [yx,xz] at this) (xd _) oa gB E
   simp only[] at key |-;rw[key,Vy (a:=List.replicate P.length 0),Qd9];unfold fromQ towQ;rw[Ql5 (by rw[Yf,Qep (m:=U.length) (λa l=>d a l) oa]),Qgw,Ql6 (m:=U.length) (by rw[Q4];omega) (λa l=>d a l) oa,Qd9,Rat.zero_add,Rat.add_zero,r,<-Qpj];congr 1;refine Qc2 λj Z=>?_;have e:gQ s H W j s.B.length []=scaleQ H (scaleQ ((rv s.B).getD j 0) W):=by unfold gQ;cases ((s.A.map rv).drop s.B.length).map λa=>a.getD j 0<;>rfl
   rw[e,Qgw,Qgw,Vy (a:=W)]
theorem backTilt{p:Qe}{T H:Rat}{Y W U V:List Rat}{z x}(i:tiltQ p T H Y U V=.inr z)(e:backThQ p T H Y W=.inr x):psum W z.2.1 p.Tape.Ae.toNat=psum x.2.1 U p.Tape.Ae.toNat+psum x.2.2 V p.Tape.Ao.toNat:=by
 obtain⟨a1,a2,a3,a4⟩:=Q2w i;obtain⟨l1,j⟩:=Qs4 e;obtain⟨a,q,d⟩:=Qro e;rw[a1] at a;injection a with a
 rw[<-a] at d;obtain⟨f,r,_⟩:=Qeq a1;obtain⟨s,l⟩:=Qts a1;exact Q8g (by unfold limQ;omega) f.1 f.2.1 om l1 j l a4 d
def AC(p:Qe)(V:List Rat):List Tri->List Rat->List Rat->Prop
 | [],U,E=>E=U
 | x::l,U,E=>∃ z,tiltQ p x.1 x.2.1 x.2.2 U V=.inr z/\AC p V l z.2.1 E
theorem AC_of{p:Qe}{V:List Rat}:∀ {l:List Qv}{i:Nat}{U:List Rat}{r},alongQ p V l i U=.inr r->AC p V (l.map triT) U (r.getLastD U)
 | [],i,U,r,h=>by simp only[alongQ] at h;cases h;rfl
 | t::l,i,U,r,h=>by
   simp only[alongQ] at h;cases hs:tiltQ p (fv t.T) (fv t.H) (rv t.Y) U V with
   | inl f=>rw[hs] at h;cases h
   | inr z=>
     rw[hs] at h;simp only[] at h;cases hr:alongQ p V l (i+1) z.2.1 with
     | inl f=>rw[hr] at h;cases h
     | inr a=>
       rw[hr] at h;cases h;refine⟨z,hs,?_⟩;have:=AC_of hr;rw[List.getLastD_cons];exact this
theorem Q24{p:Qe}{V:List Rat}{x:Tri}:∀ {l:List Tri}{U E:List Rat},AC p V (l++[x]) U E->∃ U',AC p V l U U'/\∃ z,tiltQ p x.1 x.2.1 x.2.2 U' V=.inr z/\E=z.2.1
 | [],U,E,h=>by obtain⟨z,a,d⟩:=h;exact⟨U,rfl,z,a,d⟩
 | y::l,U,E,h=>by obtain⟨z,a,d⟩:=h;obtain⟨U',e,f⟩:=Q24 d;exact⟨U',⟨z,a,e⟩,f⟩
theorem Qs7{p:Qe}{V U:List Rat}{A:List Tri}{g:List Rat×List Rat}(l:∀ T H Y W b,backThQ p T H Y W=.inr b->b.2.2.length=p.P.length):∀(n:Nat) (w s Un:List Rat),n<=A.length->s.length=p.P.length->AC p V (A.take n) U Un->swQ p 0 A (A.map (·.2.2)) n (w,s)=.inr g ->
 psum w Un p.Tape.Ae.toNat+psum s V p.Tape.Ao.toNat=psum g.1 U p.Tape.Ae.toNat+psum g.2 V p.Tape.Ao.toNat
 | 0,w,s,Un,_,_,d,h=>by simp only[swQ] at h;cases h;have j:Un=U:=d;rw[j]
 | n+1,w,s,Un,C,hs,d,h=>by
   have i:A[n]?=some (A[n]' om):=ol om;generalize A[n]' om=x at i;rw[Qrm i] at d;obtain⟨U',r,z,u,rfl⟩:=Q24 d;simp only[swQ] at h;rw[oq,i,oq,xy,i] at h;simp only[wa,Option.map_some,bstQ] at h;cases hb:backThQ p x.1 x.2.1 x.2.2 w with
   | inl f=>rw[hb] at h;cases h
   | inr b=>
     rw[hb] at h;simp only[] at h;cases q:fitQ (limQ p.Ac) (addQ s b.2.2) 0 with
     | some a=>rw[q] at h;cases h
     | none=>
       rw[q] at h;have v:=l _ _ _ _ _ hb;have B:=Qs7 l n b.2.1 (addQ s b.2.2) U' om (by rw[Qdc];omega) r h;have key:=backTilt u hb;have e:psum (addQ s b.2.2) V p.Tape.Ao.toNat=psum s V p.Tape.Ao.toNat+psum b.2.2 V p.Tape.Ao.toNat:=by rw[Vy,Ql5 om,Vy,Vy (a:=V) (b:=b.2.2)]
       rw[key,<-B,e];grind
theorem Qs8{t:Qk}{s:Qq}{lim:Int}{T H:Rat}{P W:List Rat}{yss:List (List Rat)}:∀ {i:Nat}{a z},BdL t.Ae.toNat t.Ao.toNat a->bstagesQ t s lim T H P W yss i a=.inr z->BdL t.Ae.toNat t.Ao.toNat z
 | 0,a,z,d,h=>by simp only[bstagesQ] at h;cases h;exact d
 | i+1,a,z,d,h=>by
   simp only[bstagesQ] at h;cases hs:bstageQ t lim T H P (yss.getD i []) ((rv s.C).getD i 0) (bslQ (s.A.map rv) ((rv s.B).getD i 0) H W i a.ls) i with
   | inl f=>rw[hs] at h;cases h
   | inr g=>
     rw[hs] at h;have e:g.1.length=t.Ae.toNat/\g.2.length=t.Ao.toNat:=by obtain⟨x,j,l⟩:=Qs3 hs;rw[l];exact Q07 j
     exact Qs8 (d.step e.1 e.2) h
theorem Q4m{p:Qe}{T H:Rat}{Y W:List Rat}{z}(h:backThQ p T H Y W=.inr z):z.2.2.length=p.P.length:=by obtain⟨e,a⟩:=Qs4 h;obtain⟨_,_,hb⟩:=Qro h;obtain⟨x,d,f⟩:=Q08 hb;have:=Qs8 ⟨e,by simp only[yf];exact a,λ_ h=>by cases h⟩ d;rw[f];show x.P.length=_;rw[this.p,<-a,Q4]
theorem Jb6(l:List Qv):(l.map nT).map triT=l.map triT:=by rw[uc];refine wn λt _=>?_;show(fv (toF (fv t.T)),fv (toF (fv t.H)),rv (toR (rv t.Y)))=_;rw[Qu,Qu,Vf];rfl
set_option maxRecDepth 100000
def prunP(T:Rat)(Y P:List Rat)(T':Rat)(Y' P':List Rat):List Qt->List Rat->List Rat->List Rat
 | [],_,ds=>ds
 | x::c,vs,ds=>match opQ x T Y P vs with
   | none=>ds
   | some q=>prunP T Y P T' Y' P' c (vs++[q]) (ds++[slopeQ x q T' Y' P' vs ds])
theorem Qye{lim:Int}{T:Rat}{Y P:List Rat}{T':Rat}{Y' P':List Rat}:∀ {a:List Qt}{i:Nat}{vs ds:List Rat}{l},prunQ lim T Y P T' Y' P' a i vs ds=.inr l->l.2=prunP T Y P T' Y' P' a vs ds
 | [],i,vs,ds,l,h=>by simp only[prunQ] at h;cases h;rfl
 | x::a,i,vs,ds,l,h=>by
   simp only[prunQ] at h;simp only[prunP];cases d:opQ x T Y P vs with
   | none=>rw[d] at h;cases h
   | some q=>
     rw[d] at h;simp only[] at h |-;split at h
     case isFalse=>cases h
     split at h
     case isFalse=>cases h
     exact Qye h
def pfieldP(t:Qk)(T:Rat)(Y P:List Rat)(T':Rat)(Y' P':List Rat):List Rat:=t.Af.map λo=>(prunP T Y P T' Y' P' t.Code [] []).getD o.toNat 0
theorem Q2a{t:Qk}{lim:Int}{T:Rat}{Y P:List Rat}{T':Rat}{Y' P':List Rat}{l}(h:pfieldQ t lim T Y P T' Y' P'=.inr l):l.2=pfieldP t T Y P T' Y' P':=by
 unfold pfieldQ at h;cases r:prunQ lim T Y P T' Y' P' t.Code 0 [] [] with
 | inl e=>rw[r] at h;cases h
 | inr w=>rw[r] at h;cases h;unfold pfieldP;rw[<-Qye r]
theorem Q2b{t:Qk}{T:Rat}{Y P:List Rat}{T':Rat}{Y' P':List Rat}:(pfieldP t T Y P T' Y' P').length=t.Af.length:=by unfold pfieldP;rw[xr]
def tstagesP(t:Qk)(T H:Rat)(U V P:List Rat):List ((List Rat×Rat)×List Rat)->List (List Rat)->List (List Rat)
 | [],kss=>kss
 | x::r,kss=>tstagesP t T H U V P r (kss++[pfieldP t (T+H*x.1.2) x.2 P 0 (fromQ H U x.1.1 kss) V])
theorem Qrq{t:Qk}{lim:Int}{T H:Rat}{P U V:List Rat}:∀ {r:List ((List Rat×Rat)×List Rat)}{i:Nat}{k z},tstagesQ t lim T H U V P r i k=.inr z->z=tstagesP t T H U V P r k
 | [],i,k,z,h=>by simp only[tstagesQ] at h;cases h;rfl
 | x::r,i,k,z,h=>by
   simp only[tstagesQ] at h;cases s:tstageQ t lim T H U V P x.2 x.1.1 x.1.2 i k with
   | inl f=>rw[s] at h;cases h
   | inr w=>
     rw[s] at h;have l:w=pfieldP t (T+H*x.1.2) x.2 P 0 (fromQ H U x.1.1 k) V:=by
      unfold tstageQ at s;cases d:fitQ lim (fromQ H U x.1.1 k) 0 with
      | some j=>rw[d] at s;cases s
      | none=>
        rw[d] at s;simp only[] at s;cases a:pfieldQ t lim (T+H*x.1.2) x.2 P 0 (fromQ H U x.1.1 k) V with
        | inl e=>rw[a] at s;cases s
        | inr q=>rw[a] at s;cases s;exact Q2a a
     rw[l] at h;simp only[tstagesP];exact Qrq (show tstagesQ t lim T H U V P r (i+1) _=.inr z from h)
theorem Qrr{t:Qk}{T H:Rat}{P U V:List Rat}(e:t.Af.length=U.length):∀ {r:List ((List Rat×Rat)×List Rat)}{k:List (List Rat)},(∀ a∈k,a.length=U.length)->∀ a∈tstagesP t T H U V P r k,a.length=U.length
 | [],k,g=>g
 | x::r,k,g=>by simp only[tstagesP];refine Qrr e λa d=>?_;rcases xw.1 d with d | d;exact g a d;rw[xl.1 d,Q2b];exact e
def tnextP(t:Qk)(s:Qq)(T H:Rat)(U V P:List Rat)(yss:List (List Rat)):List Rat:=fromQ H U (rv s.B) (tstagesP t T H U V P (List.zip (pairQ s) yss) [])
theorem Q8h{t:Qk}{s:Qq}{lim:Int}{T H:Rat}{P U V:List Rat}{yss:List (List Rat)}{w}(h:tdoQ t s lim T H U V P yss=.inr w):w.1=tnextP t s T H U V P yss:=by
 unfold tdoQ at h;cases r:tstagesQ t lim T H U V P (List.zip (pairQ s) yss) 0 [] with
 | inl e=>rw[r] at h;cases h
 | inr z=>
   rw[r] at h;simp only[] at h;rw[Qx6 h,Qrq r];rfl
theorem Q4n{t:Qk}{s:Qq}{T H:Rat}{P U V:List Rat}{yss:List (List Rat)}(a:t.Af.length=U.length):(tnextP t s T H U V P yss).length=U.length:=
 Qhz (Qrr a λ_ h=>by cases h)
noncomputable def movP(p:Qe)(T H:Rat)(Y U V:List Rat):List Rat:=match stepQ p T H Y with
 | .inl _=>U
 | .inr z=>tnextP p.Tape p.G8 T H U V (rv p.P) z.ys
theorem Q6y{p:Qe}{T H:Rat}{Y U V:List Rat}{z}(h:tiltQ p T H Y U V=.inr z):z.2.1=movP p T H Y U V:=by obtain⟨a1,a2,a3,a4⟩:=Q2w h;unfold movP;rw[a1];exact Q8h a4
theorem Q8i{p:Qe}{T H:Rat}{Y U V:List Rat}(a:p.Tape.Af.length=U.length):(movP p T H Y U V).length=U.length:=by
 unfold movP;cases stepQ p T H Y with
 | inl f=>rfl
 | inr z=>exact Q4n a
noncomputable def alongP(p:Qe)(V:List Rat):List Qv->List Rat->List Rat
 | [],U=>U
 | t::l,U=>alongP p V l (movP p (fv t.T) (fv t.H) (rv t.Y) U V)
theorem Qvs{p:Qe}{V:List Rat}:∀ {l:List Qv}{i:Nat}{U:List Rat}{r},alongQ p V l i U=.inr r->r.getLastD U=alongP p V l U
 | [],i,U,r,h=>by simp only[alongQ] at h;cases h;rfl
 | t::l,i,U,r,h=>by
   simp only[alongQ] at h;cases hs:tiltQ p (fv t.T) (fv t.H) (rv t.Y) U V with
   | inl g=>rw[hs] at h;cases h
   | inr z=>
     rw[hs] at h;simp only[] at h;cases hr:alongQ p V l (i+1) z.2.1 with
     | inl g=>rw[hr] at h;cases h
     | inr w=>
       rw[hr] at h;cases h;rw[List.getLastD_cons,Qvs hr,Q6y hs];rfl
theorem Qpk{p:Qe}{V:List Rat}:∀ {l:List Qv}{U:List Rat},p.Tape.Af.length=U.length->(alongP p V l U).length=U.length
 | [],U,h=>rfl
 | t::l,U,h=>by have e:=Q8i (T:=fv t.T) (H:=fv t.H) (Y:=rv t.Y) (V:=V) h;simp only[alongP];rw[Qpk (by rw[e];exact h),e]
structure LinF(F:List Rat->List Rat->List Rat)(n k m:Nat):Prop where
 len:∀ {U V},U.length=n->V.length=k->(F U V).length=m
 lin:∀ {c U1 U2 V1 V2},U1.length=n->U2.length=n->V1.length=k->V2.length=k->F (linQ c U1 U2) (linQ c V1 V2)=linQ c (F U1 V1) (F U2 V2)
def zerQ(n:Nat):List Rat:=List.replicate n 0
def uniQ(n i:Nat):List Rat:=(zerQ n).set i 1
def truQ(U:List Rat)(i:Nat):List Rat:=U.take i++zerQ (U.length - i)
theorem Yg{n:Nat}:(zerQ n).length=n:=by simp[zerQ]
theorem Qbn{n i:Nat}:(uniQ n i).length=n:=by simp[uniQ,Yg]
theorem Qjv{U:List Rat}{i:Nat}(h:i<=U.length):(truQ U i).length=U.length:=by simp[truQ,Yg];omega
theorem Qt4{n i:Nat}:(zerQ n).getD i 0=0:=by unfold zerQ;rw[oq,gg];split<;>rfl
theorem Q1g{n i j:Nat}(hi:i<n):(uniQ n i).getD j 0=if j=i then 1 else 0:=by unfold uniQ;rw[oq,List.getElem?_set];by_cases h:i=j;subst h;rw[oi rfl,oi (by rw[Yg];exact hi),oi rfl];rfl;rw[oh h,oh (λe=>h e.symm),<-oq,Qt4]
theorem Qxb{n i:Nat}(h:n<=i):uniQ n i=zerQ n:=by unfold uniQ;exact List.set_eq_of_length_le (by rw[Yg];exact h)
theorem Q1h{U:List Rat}{i j:Nat}:(truQ U i).getD j 0=if j<i then U.getD j 0 else 0:=by unfold truQ;rw[oq,List.getElem?_append,xg];split;rename_i h;rw[oi om,yh,oi om,oq];rename_i h;rw[<-oq,Qt4];split;rename_i a;rw[oq,xn om];rfl;rfl
theorem Q1i{a b:List Rat}(h:a.length=b.length)(g:∀ i,i<a.length->a.getD i 0=b.getD i 0):a=b:=by apply uv h;intro i d e;have:=g i d;rw[oq,oq,ol d,ol e] at this;exact this
theorem Q1j{U:List Rat}:truQ U 0=zerQ U.length:=rfl
theorem Q25{U:List Rat}:truQ U U.length=U:=by unfold truQ;rw[yr,wx];exact yj _
theorem Q1k{U:List Rat}{i:Nat}(h:i<U.length):truQ U (i+1)=linQ (U.getD i 0) (uniQ U.length i) (truQ U i):=by apply Q1i;rw[Qr6 (by rw[Qbn,Qjv om]),Qjv om,Qbn];intro j d;rw[Qju (by rw[Qbn,Qjv om]),Q1h,Q1h,Q1g h];by_cases c1:j=i;subst c1;rw[oi om,oi rfl,oh om];grind;rw[oh c1];by_cases a:j<i;rw[oi om,oi a];grind;rw[oh om,oh a];grind
theorem Qxc{c:Rat}{n:Nat}:linQ c (zerQ n) (zerQ n)=zerQ n:=(Qx5 n).symm
theorem Q8j{c:Rat}{U:List Rat}:linQ c (zerQ U.length) U=U:=by apply Q1i;rw[Qr6 (by rw[Yg]),Yg];intro j a;rw[Qju (by rw[Yg]),Qt4];grind
section
variable {F:List Rat->List Rat->List Rat}{n k m:Nat}
theorem LinF.zero(a:LinF F n k m){r:Nat}:(F (zerQ n) (zerQ k)).getD r 0=0:=by have e:=a.lin (c:=-1) (U1:=zerQ n) (U2:=zerQ n) (V1:=zerQ k) (V2:=zerQ k) Yg Yg Yg Yg;rw[Qxc,Qxc] at e;have g:(F (zerQ n) (zerQ k)).getD r 0=(linQ (-1) (F (zerQ n) (zerQ k)) (F (zerQ n) (zerQ k))).getD r 0:=ue (λl:List Rat=>l.getD r 0) e;rw[Qju rfl] at g;generalize (F (zerQ n) (zerQ k)).getD r 0=x at g;grind
theorem LinF.left(a:LinF F n k m){U:List Rat}{r:Nat}(d:U.length=n):∀ i:Nat,i<=n->(F (truQ U i) (zerQ k)).getD r 0=sumN (λj=>U.getD j 0*(F (uniQ n j) (zerQ k)).getD r 0) i
 | 0,_=>by rw[Q1j,d,a.zero];rfl
 | i+1,h=>by have e:=a.lin (c:=U.getD i 0) (U1:=uniQ n i) (U2:=truQ U i) (V1:=zerQ k) (V2:=zerQ k) Qbn (by rw[Qjv om,d]) Yg Yg;rw[Qxc] at e;rw[Q1k om,d,e,Qju (by rw[a.len Qbn Yg,a.len (by rw[Qjv om,d]) Yg]),a.left d i om,sumN];grind
theorem LinF.right(f:LinF F n k m){U V:List Rat}{r:Nat}(a:U.length=n)(d:V.length=k):∀ i:Nat,i<=k->(F U (truQ V i)).getD r 0=(F U (zerQ k)).getD r 0+sumN (λj=>V.getD j 0*(F (zerQ n) (uniQ k j)).getD r 0) i
 | 0,_=>by rw[Q1j,d];simp only[sumN];grind
 | i+1,h=>by have e:=f.lin (c:=V.getD i 0) (U1:=zerQ n) (U2:=U) (V1:=uniQ k i) (V2:=truQ V i) Yg a Qbn (by rw[Qjv om,d]);rw[<-a,Q8j,a] at e;rw[Q1k om,d,e,Qju (by rw[f.len Yg Qbn,f.len a (by rw[Qjv om,d])]),f.right a d i om,sumN];grind
theorem LinF.all(f:LinF F n k m){U V:List Rat}{r:Nat}(a:U.length=n)(i:V.length=k):
 (F U V).getD r 0=sumN (λj=>U.getD j 0*(F (uniQ n j) (zerQ k)).getD r 0) n+sumN (λj=>V.getD j 0*(F (zerQ n) (uniQ k j)).getD r 0) k:=by
 have d:=f.right (r:=r) a i k (xd _);have e:=f.left (r:=r) a n (xd _);rw[show truQ V k=V by rw[<-i,Q25]] at d;rw[show truQ U n=U by rw[<-a,Q25]] at e;rw[d,e]
end
theorem Qht{n m:Nat}{x:Int}(d:big<=n)(f:m<=300):W5 n (m:Int) x=some (toR (if 0<=x then uniQ m x.toNat else zerQ m)):=by
 unfold W5;rw[Qaw d f,sbind];simp only[jn_eq,Q3,yf];by_cases h:0<=x;rw[oj h,bifT,oi h];by_cases a:x<(m:Int);rw[oj a,bifT,Zw d,sbind];have e:getI (toR (List.replicate m 0)) x=some (toF 0):=by
  have:x=((x.toNat:Nat):Int):=om
  rw[this,Qge];unfold toR;rw[xy,gg,oi om];rfl
 rw[e,sbind];unfold toR uniQ zerQ;rw[List.map_set];rw[oo a,bifF,Qxb om];rfl;rw[oo h,bifF,bifF,oh h];rfl
set_option maxRecDepth 100000
def colQ(L:List (List Rat))(m:Nat):List (List Rat):=(List.range m).map λi=>L.map (·.getD i 0)
def colH(L:List (List Rat))(m i j:Nat):List (List Rat):=(List.range m).map λk=>(L.take (if k<j then i+1 else i)).map (·.getD k 0)
theorem Q1l{L:List (List Rat)}{m i j:Nat}:(colH L m i j).length=m:=by simp[colH]
theorem Q8k{L:List (List Rat)}{m i:Nat}:colH L m i m=colH L m (i+1) 0:=by unfold colH;apply wn;intro k hk;have:=vv.1 hk;rw[oi this,oh (Nat.not_lt_zero _)]
theorem Q8l{L:List (List Rat)}{m i j:Nat}(h:j<m):(colH L m i j)[j]?=some ((L.take i).map (·.getD j 0)):=by unfold colH;rw[xy,List.getElem?_range h];simp
theorem Q26{L:List (List Rat)}{m i j k:Nat}(h:k<(colH L m i j).length):(colH L m i j)[k]=(L.take (if k<j then i+1 else i)).map (·.getD k 0):=by simp[colH]
theorem Q8m{L:List (List Rat)}{m i j:Nat}{c:List Rat}(_:j<m)(d:L[i]?=some c):(colH L m i j).set j ((L.take i).map (·.getD j 0)++[c.getD j 0])=colH L m i (j+1):=by apply uv;simp[colH];intro k f a;rw[Q26 a,List.getElem_set];by_cases e:j=k;subst e;rw[oi rfl,oi (Nat.lt_succ_self j),uo,d];simp;rw[oh e,Q26];by_cases c1:k<j;rw[oi c1,oi om];rw[oh c1,oh om]
theorem Q8n{L:List (List Rat)}{m:Nat}(q:∀ c∈L,c.length=m)(B:m<=1000)(A:L.length<=1000):Qjm (toRR L) (m:Int)=some (toRR (colQ L m)):=by
 unfold Qjm;rw[Qhj om om,sbind];rw[X8 (λi=>toRR (colH L m i 0)) (toRR L)];rw[Wi,Vi];have e:colH L m L.length 0=colQ L m:=by unfold colH colQ;apply wn;intro k _;rw[oh (Nat.not_lt_zero _),yr]
 rw[e];intro i x a;unfold toRR at a;rw[xy] at a;cases d:L[i]? with
 | none=>rw[d] at a;cases a
 | some c=>
   rw[d] at a;cases a;have r:=q c (Je d);have hi:=Ke d;rw[X8 (λj=>toRR (colH L m i j)) (toRR (colH L m i 0))];rw[Wi,Vi,Q1l,Q8k];intro j y s;have f:j<m:=by have:=Ke s;rw[Vi,Q1l] at this;exact this
   have g1:(toRR (colH L m i j))[j]?=some (toR ((L.take i).map (·.getD j 0))):=by unfold toRR;rw[xy,Q8l f];rfl
   have l:(toR c)[j]?=some (toF (c.getD j 0)):=by unfold toR;rw[xy,oq,ol om];rfl
   have g3:(toR ((L.take i).map (·.getD j 0))).length<=1000:=by rw[Q3,xr,xg];omega
   rw[Kj g1,sbind,Kj l,sbind,K0 (by simp only[yt];omega) (by simp only[yt];omega),sbind,yz,<-Q8m f d];unfold toRR;rw[List.map_set];unfold toR;rw[xu];rfl;rfl
 show List.replicate m ([]:List Qa)=_;have e:colH L m 0 0=List.replicate m []:=by apply uv;simp[colH];intro k u v;simp[colH]
 rw[e];unfold toRR;rw[List.map_replicate];rfl
theorem Q6z{x0:List (List Qa)}{a:Int}:Qak x0 a=Qjm x0 a:=vj (vj rfl)
theorem Qvt{L:List (List Rat)}{m:Nat}(a:∀ c∈L,c.length=m)(e:m<=1000)(d:L.length<=1000):Qak (toRR L) (m:Int)=some (toRR (colQ L m)):=by rw[Q6z];exact Q8n a e d
set_option maxRecDepth 100000
theorem Qrs{n i:Nat}:FR 129 (toR (uniQ n i)):=Kx (Ja (Q6j (Qri n) (by rw[Ql3];exact xd 1)) oy)
theorem Jb7{n:Nat}:FR 129 (toR (zerQ n)):=Kx (Ja (Qri n) oy)
set_option maxRecDepth 100000
noncomputable def aF(p:Qe)(h:Qp)(U V:List Rat):List Rat:=alongP p V ((okT h.Aa).map nT) U
theorem Qpl{p:Qe}{h:Qp}{U V:List Rat}{r}(g:nodesQ p h U V=.inr r):(AlR p h/\U.length=h.Y.length/\V.length=p.P.length)/\r.getLastD U=aF p h U V:=by unfold nodesQ at g;split at g;rename_i a;exact⟨a,Qvs g⟩;cases g
def dirV(n k i:Nat):List Rat:=if n<=i then uniQ k (i - n) else zerQ k
theorem Q95{n k i:Nat}:FR 129 (toR (dirV n k i)):=by unfold dirV;split;exact Qrs;exact Jb7
noncomputable def asM(p:Qe)(h:Qp)(n k i:Nat):List (List Rat):=(List.range i).map λj=>aF p h (uniQ n j) (dirV n k j)
theorem Q8o{p:Qe}{h:Qp}{n k i:Nat}:asM p h n k (i+1)=asM p h n k i++[aF p h (uniQ n i) (dirV n k i)]:=by unfold asM;rw[List.range_succ,xu];rfl
theorem Q27{p:Qe}{h:Qp}{n k i:Nat}:(asM p h n k i).length=i:=by simp[asM]
theorem Q8p{p:Qe}{h:Qp}{n k:Nat}:(asM p h n k (n+k)).take n=(List.range n).map λj=>aF p h (uniQ n j) (zerQ k):=by
 apply uv;simp[asM];intro i d a;have hi:i<n:=by simpa using a
 simp only[asM,List.getElem_take,vo,vp];unfold dirV;rw[oh om]
theorem Q8q{p:Qe}{h:Qp}{n k:Nat}:(asM p h n k (n+k)).drop n=(List.range k).map λj=>aF p h (zerQ n) (uniQ k j):=by apply uv;simp[asM];intro i a d;simp only[asM,List.getElem_drop,vo,vp];unfold dirV;rw[oi om,Qxb om,show n+i - n=i by omega]
def okA(p:Qe)(h:Qp)(k N K i:Nat):Prop:=QR k (aF p h (uniQ N i) (dirV N K i))/\∃ r,nodesQ p h (uniQ N i) (dirV N K i)=.inr r
theorem Qky{n k:Nat}{p:Qe}{h:Qp}(C:big<=n)(h0:129<=k)(hk:k<8000)(V:PrbW k p)(hl:h.Aa.length<=1000)(U:∀ t∈h.Aa,FT k t)(S:Fk k h.T)(T:FR k h.Y)(hyl:h.Y.length<=200)(hpl:p.P.length<=200):
 ∃ r,Qbj n p h=some r/\((r.2.2.Ad≠0/\r.1=[]/\r.2.1=[]) \/
   (r.2.2=⟨0,0,0,0⟩/\AlR p h/\(∀ i,i<h.Y.length+p.P.length->okA p h k h.Y.length p.P.length i) /\
     r.1=toRR (colQ ((List.range h.Y.length).map λj=>aF p h (uniQ h.Y.length j) (zerQ p.P.length)) h.Y.length)/\r.2.1=toRR (colQ ((List.range p.P.length).map λj=>aF p h (zerQ h.Y.length) (uniQ p.P.length j)) h.Y.length))):=by
 unfold Qbj;have hr:Qas n p h=some (dP (AlR p h)):=by
  have hle:=Qki h.Aa;unfold Qas;simp only[jn_eq];rw[Qgu C h0 hk V,Qjd C om om om U S T om];by_cases c1:prbR p
  case neg=>rw[sbind,dP_f c1,dP_f (λg:AlR p h=>c1 g.1)];rfl
  by_cases E:Qjc h
  case neg=>rw[sbind,dP_t c1,bifT,sbind,dP_f E,dP_f (λg:AlR p h=>E g.2.1)];rfl
  by_cases O:(h.Y.length:Int)=p.Tape.Ae
  case neg=>rw[sbind,dP_t c1,bifT,sbind,dP_t E,bifT,oo O,dP_f (λg:AlR p h=>O g.2.2)]
  rw[sbind,dP_t c1,bifT,sbind,dP_t E,bifT,oj O,dP_t (show AlR p h from⟨c1,E,O⟩)]
 rw[hr,sbind];by_cases G:AlR p h
 case neg=>
  rw[dP_f G,ov,bifT];exact⟨_,rfl,.inl ⟨by show(2:Int)≠0;decide,rfl,rfl⟩⟩
 rw[dP_t G,ot,bifF,w64 (x:=(h.Y.length:Int)+(p.P.length:Int)) om om]
 have one:∀ i:Nat,i<h.Y.length+p.P.length->∃ r,((W5 n (h.Y.length:Int) (i:Int)).bind λq=>(W5 n (p.P.length:Int) (wrap64 ((i:Int) - (h.Y.length:Int)))).bind λA=>Yn n p h q A)=some r /\
  (r.2.Ad≠0\/(r.2=⟨0,0,0,0⟩/\r.1=toR (aF p h (uniQ h.Y.length i) (dirV h.Y.length p.P.length i))/\okA p h k h.Y.length p.P.length i)):=by
  intro i hi;rw[Qht C om,sbind,oi om,yz,w64 om om,Qht C om,sbind];have e:(if 0<=(i:Int) - (h.Y.length:Int) then uniQ p.P.length ((i:Int) - (h.Y.length:Int)).toNat else zerQ p.P.length)=dirV h.Y.length p.P.length i:=by
   unfold dirV;by_cases c:h.Y.length<=i
   . rw[oi om,oi c];congr 1;omega
   . rw[oh om,oh c]
  rw[e];obtain⟨Z,X,Y⟩:=Qrn (n:=n) (p:=p) (h:=h) (u:=toR (uniQ h.Y.length i)) (v:=toR (dirV h.Y.length p.P.length i)) C h0 hk V hl U S T om (K9 Qrs h0) (by rw[Q3,Qbn];omega) (K9 Q95 h0);refine⟨_,Z,?_⟩;rw[Vf,Vf] at X Y |-;cases hs:nodesQ p h (uniQ h.Y.length i) (dirV h.Y.length p.P.length i) with
  | inl f=>exact .inl (X f hs)
  | inr w=>
    obtain⟨_,g⟩:=Qpl hs;obtain⟨W,_⟩:=Y w hs;rw[g] at W;exact .inr ⟨rfl,by show toR (w.getLastD _)=_;rw[g],W,w,hs⟩
 generalize hN:h.Y.length=N at *;generalize hK:p.P.length=K at *
 let body:(List (List Qa))×Int->Option (Lp ((List (List Qa))×Int) (Lp (List (List Qa)) ((List (List Qa))×(List (List Qa))×Qc))):=λs=>
  bif decide (s.2<((N:Int)+(K:Int))) then
   (W5 n (N:Int) s.2).bind λq=>
    (W5 n (K:Int) (wrap64 (s.2 - (N:Int)))).bind λA=>
    (Yn n p h q A).bind λl=>
    bif !(Qo l.2 (⟨0,0,0,0⟩:Qc)) then (
     some (Lp.out (Lp.out ((([]:List (List Qa)),([]:List (List Qa)),l.2)))))
    else (
     (appM 24 s.1 ([l.1]:List (List Qa))).bind λB=>
     some (Lp.go (B,wrap64 (s.2+(1:Int)))))
  else some (Lp.out (Lp.go s.1))
 have hbody:∀ i:Nat,i<N+K->(∃ f:Qc,f.Ad≠0/\body (toRR (asM p h N K i),(i:Int))=some (.out (.out ([],[],f)))) \/
  (okA p h k N K i/\body (toRR (asM p h N K i),(i:Int))=some (.go (toRR (asM p h N K (i+1)),((i+1:Nat):Int)))):=by
  intro i hi;obtain⟨r,e1,e2⟩:=one i hi
  have e3:body (toRR (asM p h N K i),(i:Int))=(((W5 n (N:Int) (i:Int)).bind λq=>(W5 n (K:Int) (wrap64 ((i:Int) - (N:Int)))).bind λA=>Yn n p h q A).bind λl=>
   bif !(Qo l.2 (⟨0,0,0,0⟩:Qc)) then (
    some (Lp.out (Lp.out ((([]:List (List Qa)),([]:List (List Qa)),l.2)))))
   else (
    (appM 24 (toRR (asM p h N K i)) ([l.1]:List (List Qa))).bind λB=>
    some (Lp.go (B,wrap64 ((i:Int)+(1:Int)))))):=by
   show(bif decide ((i:Int)<((N:Int)+(K:Int))) then _ else _)=_;rw[oj om,bifT];rw[Option.bind_assoc];congr 1;funext q;rw[Option.bind_assoc]
  rw[e3,e1,sbind];rcases e2 with hk0 | ⟨H,hx,hq⟩
  . left
    obtain⟨r1,k1,a,b,c⟩:=r;refine⟨⟨k1,a,b,c⟩,hk0,?_⟩;simp only[];rw[Jt hk0,ov,bifT]
  . right
    refine⟨hq,?_⟩;have J:(toRR (asM p h N K i)).length=i:=by rw[Vi,Q27]
    rw[H,Jv,ot,bifF,hx,w1 om,K0 (by simp only[J,yt];omega) (by simp only[J,yt];omega),sbind,Q8o];unfold toRR;rw[xu];rfl
 have loop:∀(d i m:Nat),i+d=N+K->d<m->(∀ j,j<i->okA p h k N K j) ->
  (∃ f:Qc,f.Ad≠0/\loopM body m (toRR (asM p h N K i),(i:Int))=some (.out ([],[],f))) \/
  ((∀ j,j<N+K->okA p h k N K j)/\loopM body m (toRR (asM p h N K i),(i:Int))=some (.go (toRR (asM p h N K (N+K))))):=by
  intro d
  induction d with
  | zero=>
    intro i m hi M I;right;have:i=N+K:=om
    subst this;refine⟨I,?_⟩;refine Wz ?_ M;show(bif decide (((N+K:Nat):Int)<((N:Int)+(K:Int))) then _ else _)=_;rw[oo om,bifF]
  | succ d ih=>
    intro i m hi M I;cases m with
    | zero=>omega
    | succ m=>
      rcases hbody i om with ⟨f,H,e⟩ | ⟨R,e⟩
      . exact .inl ⟨f,H,Wz e om⟩
      . rw[Qd6 e]
        exact ih (i+1) m om om λj hj2=>by
         by_cases c:j<i
         . exact I j c
         . have:j=i:=om
           subst this;exact R
 have L:=loop (N+K) 0 n om (by unfold big at C;omega) (λj I=>absurd I (Nat.not_lt_zero _));rw[show toRR (asM p h N K 0)=[] by simp[asM,toRR],show(((0:Nat)):Int)=(0:Int) from rfl] at L;change ∃ r,((loopM body n ([],(0:Int))).bind _)=some r/\_;rcases L with ⟨f,H,e⟩ | ⟨R,e⟩
 . rw[e,sbind,Qfc]
   exact⟨_,rfl,.inl ⟨H,rfl,rfl⟩⟩
 . rw[e,sbind,Wi]
   have Q:(toRR (asM p h N K (N+K))).length=N+K:=by rw[Vi,Q27]
   have M:p.Tape.Af.length=N:=by have h1:=G.1.1.1;have:=h1.2.2.1;have:=G.2.2;omega
   have t1:(toRR (asM p h N K (N+K))).take N=toRR ((List.range N).map λj=>aF p h (uniQ N j) (zerQ K)):=by rw[<-Q8p];unfold toRR;rw[uw]
   have t2:(toRR (asM p h N K (N+K))).drop N=toRR ((List.range K).map λj=>aF p h (zerQ N) (uniQ K j)):=by rw[<-Q8q];unfold toRR;rw[vf]
   have l1:∀ c∈(List.range N).map λj=>aF p h (uniQ N j) (zerQ K),c.length=N:=λc P=>by obtain⟨j,_,rfl⟩:=xa.1 P;unfold aF;rw[Qpk (by rw[Qbn];exact M),Qbn]
   have l2:∀ c∈(List.range K).map λj=>aF p h (zerQ N) (uniQ K j),c.length=N:=λc P=>by obtain⟨j,_,rfl⟩:=xa.1 P;unfold aF;rw[Qpk (by rw[Yg];exact M),Yg]
   rw[Qtj om,sbind,t1,Qvt l1 om oe,sbind,Q,show((N+K:Nat):Int)=((N+K:Nat):Int) from rfl,Qwk om om,sbind,xe om,t2,Qvt l2 om oe,sbind];exact⟨_,rfl,.inr ⟨rfl,G,R,rfl,rfl⟩⟩
theorem Q60{n k:Nat}{p:Qe}{h:Qp}{x:Int}(B:big<=n)(h0:129<=k)(hk:k<8000)(W:PrbW k p)(T:h.Aa.length<=200)(V:∀ t∈h.Aa,FT k t)(P:Fk k h.T)(Q:FR k h.Y)(S:h.Y.length<=200)(R:1<=h.Y.length):
 ∃ r,Qcw n p h x=some r/\(r.2.Ad≠0\/(r.2=⟨0,0,0,0⟩/\∃ G:List (List Rat×List Rat),G.length=h.Y.length/\(∀(i:Nat) g,G[i]?=some g->sweepQ p h (uniQ h.Y.length i) (cutI x)=.inr g)/\r.1=⟨toRR (G.map (·.1)),toRR (G.map (·.2))⟩)):=by
 unfold Qcw;have s:max (h.Y.length:Int) (1:Int)=((h.Y.length:Nat):Int):=om
 rw[s]
 have key:∀(d i m:Nat) (G:List (List Rat×List Rat)),i+d=h.Y.length->d<m->G.length=i->(∀(j:Nat) g,G[j]?=some g->sweepQ p h (uniQ h.Y.length j) (cutI x)=.inr g) ->
  ∃ r,(loopM (λ(a:(List (List Qa))×(List (List Qa))×Int)=>
  bif decide (a.2.2<((h.Y.length:Nat):Int)) then (
   (W5 n (h.Y.length:Int) a.2.2).bind λC=>
   (Qbr n p h C x).bind λl=>
   bif !(Qo l.2 (⟨0,0,0,0⟩:Qc)) then (
    some (Lp.out (Lp.out (((⟨[],[]⟩:Ws),l.2)))))
   else (
    (appM 24 a.1 ([l.1.Y]:List (List Qa))).bind λE=>
    (appM 24 a.2.1 ([l.1.P]:List (List Qa))).bind λH=>
    some (Lp.go (E,H,wrap64 (a.2.2+(1:Int))))))
  else (
   some (Lp.out (Lp.go (a.1,a.2.1))))) m (toRR (G.map (·.1)),toRR (G.map (·.2)),(i:Int))).bind (lpK λ(u:(List (List Qa))×(List (List Qa)))=>
 some ((⟨u.1,u.2⟩:Ws),(⟨0,0,0,0⟩:Qc)))=some r/\(r.2.Ad≠0\/(r.2=⟨0,0,0,0⟩/\∃ G:List (List Rat×List Rat),G.length=h.Y.length/\(∀(i:Nat) g,G[i]?=some g->sweepQ p h (uniQ h.Y.length i) (cutI x)=.inr g)/\r.1=⟨toRR (G.map (·.1)),toRR (G.map (·.2))⟩)):=by
  intro d
  induction d with
  | zero=>
    intro i m G hi U O v;rw[Wz (t:=Lp.go (toRR (G.map (·.1)),toRR (G.map (·.2)))) (by simp only[];rw[oo om,bifF]) om,sbind,Wi];exact⟨_,rfl,.inr ⟨rfl,G,om,v,rfl⟩⟩
  | succ d X=>
    intro i m G hi U O v;obtain⟨m',rfl⟩:∃ m',m=m'+1:=⟨m - 1,om⟩
    have K:W5 n (h.Y.length:Int) (i:Int)=some (toR (uniQ h.Y.length i)):=by rw[Qht B om,oi om,yz]
    obtain⟨q,I,M⟩:=Qje (n:=n) (k:=k) (p:=p) (h:=h) (w:=toR (uniQ h.Y.length i)) (x:=x) B h0 hk W T V P Q om (K9 Qrs h0) (by rw[Q3,Qbn];omega);rw[Vf] at q I M;cases hs:sweepQ p h (uniQ h.Y.length i) (cutI x) with
    | inl f=>
      have L:=I f hs;rw[hs] at q
      rw[Wz (t:=Lp.out (⟨[],[]⟩,f)) (by
       simp only[];rw[oj om,bifT,K,sbind,q,sbind];simp only[]
       rw[show Qo f ⟨0,0,0,0⟩=false by obtain⟨Y,Z,f3,f4⟩:=f;exact Jt L,ov,bifT]) om,sbind,Qfc]
      exact⟨_,rfl,.inl L⟩
    | inr g=>
      rw[hs] at q
      rw[Qd6 (s':=(toRR ((G++[g]).map (·.1)),toRR ((G++[g]).map (·.2)),((i+1:Nat):Int))) (by
       simp only[];rw[oj om,bifT,K,sbind,q,sbind];simp only[];rw[Jv,ot,bifF,K0 (by simp[Vi];omega) (by simp[Vi];omega),sbind,K0 (by simp[Vi];omega) (by simp[Vi];omega),sbind,w1 om]
       simp[toRR])]
      refine X (i+1) m' (G++[g]) om om oe λj N e=>?_;by_cases A:j<G.length;rw[yu A] at e;exact v j N e;rw[yy om] at e;have:j=i:=by rcases xc (j - G.length) 1 with J | J;omega;rw[xn (by simpa using J)] at e;cases e
      subst this;rw[show j - G.length=0 by omega] at e;cases e;exact hs
 exact key h.Y.length 0 n [] om (by unfold big at B;omega) rfl (λj g e=>by simp at e)
theorem Ql7{n i:Nat}{E:List Rat}(hi:i<n):∀ {m:Nat},psum (uniQ n i) E m=if i<m then E.getD i 0 else 0
 | 0=>rfl
 | m+1=>by rw[Qmx,Ql7 hi,Q1g hi];by_cases h:m=i;subst h;rw[oh om,oi rfl,oi om];grind;rw[oh h];by_cases a:i<m;rw[oi a,oi om];grind;rw[oh a,oh om];grind
theorem Q1m{n m:Nat}{E:List Rat}:psum (zerQ n) E m=0:=by rw[Vy];exact Qd9
theorem Qoj{n k:Nat}{M:List (List Rat)}(f:big<=n)(d:1<=k)(hk:k<1099511627776)(h:∀ r∈M,QR k r):Qfa n (toRR M) (toRR M)=some true:=by unfold Qfa;rw[oj rfl,ot,bifF,Qx7];intro i x a;have e:getI (toRR M) (i:Int)=some x:=Kj a;obtain⟨r,hr,rfl⟩:=xa.1 (yb a);rw[e,sbind,Qp1 (k:=k) f d hk (Kx (h r hr)) (Kx (h r hr)),sbind,oj rfl,ot,bifF]
theorem entry{p:Qe}{h:Qp}{W U V E:List Rat}{c:Nat}{g:List Rat×List Rat}{s q:Rat}{u v:List Rat}(B:1<=c)(C:MCh p s u (tri h) q v)(f:sweepQ p h W c=.inr g){r}(e:nodesQ p h U V=.inr r)(x:r.getLastD U=E):
 psum W E p.Tape.Ae.toNat=psum g.1 U p.Tape.Ae.toNat+psum g.2 V p.Tape.Ao.toNat:=by
 have l:SwR p h W:=by refine Classical.byContradiction λd=>?_;unfold sweepQ at f;rw[oh d] at f;cases f
 have j:AlR p h/\U.length=h.Y.length/\V.length=p.P.length:=by refine Classical.byContradiction λd=>?_;unfold nodesQ at e;rw[oh d] at e;cases e
 unfold sweepQ at f;rw[oi l,Q4k C B] at f;unfold nodesQ at e;rw[oi j] at e;have i:=AC_of e;rw[Jb6] at i;have key:=Qs7 (p:=p) (V:=V) (U:=U) (A:=tri h) (g:=g) (λT H Y W b h=>Q4m h) (tri h).length W (List.replicate p.P.length 0) (r.getLastD U) (xd _) oa (by rw[yr];exact i) f;rw[Vy (a:=List.replicate p.P.length 0),Qd9,Rat.add_zero,x] at key;exact key
theorem Q96{k:Nat}{p:Qe}{h:Qp}{c:Nat}{G:List (List Rat×List Rat)}{L K:Rat}{M N:List Rat}(I:1<=c)(J:MCh p L M (tri h) K N)(C:AlR p h)(v:G.length=h.Y.length)(x:∀(i:Nat) g,G[i]?=some g->sweepQ p h (uniQ h.Y.length i) c=.inr g/\g.1.length=h.Y.length/\g.2.length=p.P.length)
 (q:∀ i,i<h.Y.length+p.P.length->okA p h k h.Y.length p.P.length i) :
 G.map (·.1)=colQ ((List.range h.Y.length).map λj=>aF p h (uniQ h.Y.length j) (zerQ p.P.length)) h.Y.length/\G.map (·.2)=colQ ((List.range p.P.length).map λj=>aF p h (zerQ h.Y.length) (uniQ p.P.length j)) h.Y.length:=by
 have E:p.Tape.Ae.toNat=h.Y.length:=by have:=C.2.2;omega
 have H:p.Tape.Ao.toNat=p.P.length:=by have:=C.1.2.2;omega
 have row:∀(i:Nat) g,G[i]?=some g->(∀ j,j<h.Y.length->g.1.getD j 0=(aF p h (uniQ h.Y.length j) (zerQ p.P.length)).getD i 0)/\∀ j,j<p.P.length->g.2.getD j 0=(aF p h (zerQ h.Y.length) (uniQ p.P.length j)).getD i 0:=by
  intro i g hi;obtain⟨l,B,Q⟩:=x i g hi;have d:i<h.Y.length:=by rw[<-v];exact(gz.1 hi).1
  constructor;intro j f;obtain⟨_,r,hr⟩:=q j om;have e:=entry I J l hr (Qpl hr).2;have u:dirV h.Y.length p.P.length j=zerQ p.P.length:=by unfold dirV;rw[oh om]
  rw[u] at e;rw[E,H,Ql7 d,oi d,Vy (a:=g.1),Ql7 f,oi f,Vy (a:=g.2),Q1m,Rat.add_zero] at e;exact e.symm;intro j f;obtain⟨_,r,hr⟩:=q (h.Y.length+j) om;have e:=entry I J l hr (Qpl hr).2;have u:dirV h.Y.length p.P.length (h.Y.length+j)=uniQ p.P.length j:=by unfold dirV;rw[oi om,show h.Y.length+j - h.Y.length=j by omega]
  have O:uniQ h.Y.length (h.Y.length+j)=zerQ h.Y.length:=Qxb om;rw[u,O] at e;rw[E,H,Ql7 d,oi d,Vy (a:=g.1),Q1m,Rat.zero_add,Vy (a:=g.2),Ql7 f,oi f] at e;exact e.symm
 constructor;apply uv;simp[colQ,v];intro i l B;have hi:i<G.length:=by simpa using l
 obtain⟨A,_⟩:=row i _ (ol hi);obtain⟨_,l1,_⟩:=x i _ (ol hi);simp only[vo,colQ,vp];apply uv;simp[l1];intro j s P;have f:j<h.Y.length:=by rw[<-l1];exact s
 have:=A j f;rw[oq,ol s] at this;simp only[vo,vp];exact this;apply uv;simp[colQ,v];intro i l B;have hi:i<G.length:=by simpa using l
 obtain⟨_,A⟩:=row i _ (ol hi);obtain⟨_,_,l1⟩:=x i _ (ol hi);simp only[vo,colQ,vp];apply uv;simp[l1];intro j s P;have f:j<p.P.length:=by rw[<-l1];exact s
 have:=A j f;rw[oq,ol s] at this;simp only[vo,vp];exact this
theorem Q4o{n k:Nat}{p:Qe}{x:Int}(a:big<=n)(h0:129<=k)(hk:k<8000)(i:PrbW k p):∃ r,Qcw n p noH x=some r:=by
 unfold Qcw;obtain⟨d,_,_⟩:=Qje (n:=n) (k:=k) (p:=p) (h:=noH) (w:=toR (uniQ 0 0)) (x:=x) a h0 hk i (xo _) (by intro t h;cases h) Q6x (by intro t h;cases h) (xo _) (K9 Qrs h0) (by rw[Q3,Qbn];omega);have hs:sweepQ p noH (rv (toR (uniQ 0 0))) (cutI x)=.inl ⟨2,0,0,0⟩:=by unfold sweepQ;rw[oh];rintro⟨_,f,_⟩;have:=f.l.2.1;exact absurd this oy
 rw[hs] at d;have e:W5 n ((noH.Y.length:Nat):Int) ((0:Nat):Int)=some (toR (uniQ 0 0)):=by rw[Qht a oy,oi om];rfl
 rw[Wz (t:=Lp.out (⟨[],[]⟩,⟨2,0,0,0⟩)) (by
  simp only[];rw[show decide ((0:Int)<max ((noH.Y.length:Nat):Int) 1)=true from rfl,bifT,show(0:Int)=((0:Nat):Int) from rfl,e,sbind,d,sbind];simp only[]
  rfl) (by unfold big at a;omega),sbind,Qfc]
 exact⟨_,rfl⟩
set_option maxRecDepth 100000
theorem Qpm{a b:Int}(h:a<=b):∀ {l:List Rat}{i:Nat},fitQ a l i=none->fitQ b l i=none
 | [],_,_=>rfl
 | q::l,i,d=>by
   simp only[fitQ] at d |-;split at d
   case isFalse=>cases d
   rename_i e;rw[oi om];exact Qpm h d
theorem Q1n{a b:Int}(h:a<=b){T:Rat}{Y P:List Rat}:∀ {c:List Qt}{i:Nat}{done vs:List Rat},runQ a T Y P c i done=.inr vs->runQ b T Y P c i done=.inr vs
 | [],_,_,_,hr=>hr
 | x::c,i,done,vs,hr=>by
   simp only[runQ] at hr |-;cases d:opQ x T Y P done with
   | none=>rw[d] at hr;cases hr
   | some q=>
     rw[d] at hr;simp only[] at hr |-;split at hr
     case isFalse=>cases hr
     rename_i e;rw[oi om];exact Q1n h hr
theorem Q4p{a b:Int}(h:a<=b){t:Qk}{T:Rat}{Y P k:List Rat}(d:fieldQ t a T Y P=.inr k):fieldQ t b T Y P=.inr k:=by
 unfold fieldQ at d |-;cases hr:runQ a T Y P t.Code 0 [] with
 | inl e=>rw[hr] at d;cases d
 | inr vs=>rw[hr] at d;rw[Q1n h hr];exact d
theorem Q4q{a b:Int}(h:a<=b){t:Qk}{T H c:Rat}{Y P l:List Rat}{i:Nat}{kss:List (List Rat)}{z}(hs:stageQ t a T H Y P l c i kss=.inr z):stageQ t b T H Y P l c i kss=.inr z:=by
 unfold stageQ at hs |-;cases d:fitQ a (fromQ H Y l kss) 0 with
 | some j=>rw[d] at hs;cases hs
 | none=>
   rw[d] at hs;rw[Qpm h d];simp only[] at hs |-;cases hk:fieldQ t a (T+H*c) (fromQ H Y l kss) P with
   | inl e=>rw[hk] at hs;cases hs
   | inr k=>rw[hk] at hs;rw[Q4p h hk];exact hs
theorem Qs9{a b:Int}(h:a<=b){t:Qk}{T H:Rat}{Y P:List Rat}:∀ {l:List (List Rat×Rat)}{i:Nat}{yss kss:List (List Rat)}{z},stagesQ t a T H Y P l i yss kss=.inr z->stagesQ t b T H Y P l i yss kss=.inr z
 | [],_,_,_,_,hs=>hs
 | x::r,i,yss,kss,z,hs=>by
   simp only[stagesQ] at hs |-;cases d:stageQ t a T H Y P x.1 x.2 i kss with
   | inl f=>rw[d] at hs;cases hs
   | inr w=>rw[d] at hs;rw[Q4q h d];exact Qs9 h hs
theorem Q8r{a b:Int}(h:a<=b){s:Qq}{H:Rat}{Y:List Rat}{yss kss:List (List Rat)}{z}(hs:endQ s a H Y yss kss=.inr z):endQ s b H Y yss kss=.inr z:=by
 unfold endQ at hs |-;cases d:fitQ a (fromQ H Y (rv s.B) kss) 0 with
 | some j=>rw[d] at hs;cases hs
 | none=>
   rw[d] at hs;rw[Qpm h d];simp only[] at hs |-;cases e:fitQ a (if gapQ s=[] then [] else towQ H Y.length (gapQ s) kss) 0 with
   | some j=>rw[e] at hs;cases hs
   | none=>rw[e] at hs;rw[Qpm h e];exact hs
theorem Q61{p:Qe}{bits:Int}{T H:Rat}{Y:List Rat}{z}(hb:limQ p.Ac<=limQ bits)(hs:stepQ p T H Y=.inr z):stepQ ⟨p.Tape,p.G8,p.P,bits⟩ T H Y=.inr z:=by
 unfold stepQ at hs |-;by_cases d:prbR p/\(Y.length:Int)=p.Tape.Ae
 case neg=>rw[oh d] at hs;cases hs
 rw[oi d] at hs;show(@ite _ (prbR p/\(Y.length:Int)=p.Tape.Ae) (Classical.propDecidable _) (doQ p.Tape p.G8 (limQ bits) T H Y (rv p.P)) (.inl ⟨2,0,0,0⟩))=.inr z;rw[oi d];unfold doQ at hs |-;cases a:stagesQ p.Tape (limQ p.Ac) T H Y (rv p.P) (List.zip (p.G8.A.map rv) (rv p.G8.C)) 0 [] [] with
 | inl f=>rw[a] at hs;cases hs
 | inr w=>rw[a] at hs;rw[Qs9 hb a];exact Q8r hb hs
def triA(t:TryA):Tri:=(t.T,t.H,t.Y)
theorem Qt5{p:Qe}{bits:Int}(hb:limQ p.Ac<=limQ bits):∀ {l:List TryA}{T E:Rat}{Y Z:List Rat},AChn p T Y l E Z->MCh ⟨p.Tape,p.G8,p.P,bits⟩ T Y ((accA l).map triA) E Z
 | [],_,_,_,_,h=>h
 | t::l,T,E,Y,Z,h=>by
   obtain⟨e,f,j,q,r,a⟩:=h;cases d:t.Ok with
   | true=>
     rw[d] at a;obtain⟨z,g1,i,g3⟩:=a;rw[Jb1 d];exact⟨e,f,z,Q61 hb g1,Qt5 hb g3⟩
   | false=>
     rw[d] at a;rw[Jb2 d];exact Qt5 hb a
theorem Jb8{l:List TryA}{E:Rat}{Z:List Rat}:tri (mA l E Z)=(accA l).map triA:=by unfold tri mA;rw[okT_A,uc];refine wn λt _=>?_;show(fv (toF t.T),fv (toF t.H),rv (toR t.Y))=_;rw[Qu,Qu,Vf];rfl
theorem Q62{n:Nat}{k:Jw}(e:big<=n)(h:Wx n k=some false):k.G9.Ac<=300:=by refine Int.not_lt.1 λc=>?_;unfold Wx at h;simp only[jn_eq] at h;obtain⟨v,d,_⟩:=Qmu (p:=k.G9) (a:=10) (b:=4) (k:=2) e oy oy;rw[show((10:Nat):Int)=10 from rfl,show((4:Nat):Int)=4 from rfl,show((2:Nat):Int)=2 from rfl] at d;rw[d,sbind,oj c,bifT] at h;cases v<;>cases h
theorem wtop:Wn big=some true:=od
theorem Q4r(k:Jw)(K:Int)(hB:Qc3 k):∃ n,Yz n k K=some true:=by
 refine⟨big,?_⟩;have a:big<=big:=xd _;unfold Yz Qey;simp only[jn_eq];obtain⟨v,M,W⟩:=Qvi (k:=k) a;rw[M,sbind];cases v
 case true=>rw[bifT,wtop];rfl
 have L:=W rfl;have hbits:k.G9.Ac<=300:=Q62 a M;rw[bifF,Qy5 a L,sbind];have s:=Q9y hB L;have hy1:=L.y.1;have hyl:(tK k).Y.length<=1000:=by show(k.Y.map tF).length<=1000;rw[xr];omega
 have a1:=Qvg (n:=big) (k:=tK k) a s (λhr=>by
  have:=hr.most;have h2:k.Ab.Ai<=200:=this.2;have hM:=L.m
  show k.Ab.Ai<=12;omega) hyl
 rw[a1,sbind];have hwide:Qa9 (tK k).G9=some ⟨(tK k).G9.Tape,(tK k).G9.G8,(tK k).G9.P,3000⟩:=rfl;have j:PrbW 4000 ⟨(tK k).G9.Tape,(tK k).G9.G8,(tK k).G9.P,3000⟩:=⟨s.p.t,s.p.d,s.p.s,s.p.p⟩
 have Q:((tK k).G9.P).length<=200:=by show(k.G9.P.map tF).length<=200;rw[xr];have:=L.p.2.2.1;omega
 have works:((Wn big).bind λr=>some r)=some true:=by rw[wtop];rfl
 obtain⟨n1,n2⟩:=Q4o (x:=K) a (show 129<=4000 by decide) oy j;obtain⟨n3,n4,n5⟩:=Qky (n:=big) (k:=4000) (p:=⟨(tK k).G9.Tape,(tK k).G9.G8,(tK k).G9.P,3000⟩) (h:=noH) a oy oy j (xo _) (by intro t h;cases h) Q6x (by intro t h;cases h) (xo _) Q;unfold Qk0
 have u:∀ f:Qc,f.Ad≠0->∀ K1 K2:(Ws×Qc)->(Ws×Qc)->Option Bool,(Qcw big ⟨(tK k).G9.Tape,(tK k).G9.G8,(tK k).G9.P,3000⟩ noH K).bind (λU=>((Qbj big ⟨(tK k).G9.Tape,(tK k).G9.G8,(tK k).G9.P,3000⟩ noH).bind λT=>some ((⟨T.1,T.2.1⟩:Ws),T.2.2)).bind λV=>bif !(Qo f (⟨0,0,0,0⟩:Qc)) then (bif true then ((Wn big).bind λr=>some r) else K1 U V) else K2 U V)=some true:=λf hf K1 K2=>by
  obtain⟨f1,f2,f3,f4⟩:=f;rw[n2,sbind,n4,sbind,sbind,Jt hf,ov,bifT,bifT,works]
 by_cases A:TskR (tK k)
 case neg=>
  rw[oh A];simp only[];rw[Jt (show(2:Int)≠0 by decide),ov,bifT,sbind,hwide,sbind];exact u ⟨2,0,0,0⟩ oy _ _
 rw[oi A];simp only[];have hr:=A.2.1;have hM:=L.m;have P:=hr.most;have hmo1:k.Ab.Ai<=200:=P.2;have hmo2:1<=k.Ab.Ai:=P.1;have vr:=s.r.all;have qS:qw (fv (tK k).Ah)<=2:=qw_fv s.s oy;have qE:qw (fv (tK k).Ar)<=2:=qw_fv s.e oy;have qY0:QR 129 (rv (tK k).Y):=Ja (QR_rv s.y oy) oy;have J:=Q0y (p:=(tK k).G9) (r:=(tK k).Ab) (E:=fv (tK k).Ar) (d:=(rv (tK k).Y).length) hr (qw_fv vr.2.2.1 oy) (qw_fv vr.2.2.2.1 oy) qE (tK k).Ab.Ai.toNat [] (fv (tK k).Ah) (rv (tK k).Y) (fv (tK k).Aj) (by show 0+k.Ab.Ai.toNat<=12;omega) qS (qw_fv s.f oy) qY0 rfl (λ_ h=>by cases h);have hform:=Qpg (p:=(tK k).G9) (E:=fv (tK k).Ar) hr (tK k).Ab.Ai.toNat [] (fv (tK k).Ah) (rv (tK k).Y) (fv (tK k).Aj) A.2.2.2.1 A.2.2.2.2;have hzero:=Qvl (p:=(tK k).G9) (r:=(tK k).Ab) (E:=fv (tK k).Ar) (tK k).Ab.Ai.toNat [] (fv (tK k).Ah) (rv (tK k).Y) (fv (tK k).Aj);generalize adaptQ (tK k).G9 (tK k).Ab (fv (tK k).Ar) (tK k).Ab.Ai.toNat [] (fv (tK k).Ah) (rv (tK k).Y) (fv (tK k).Aj)=g at *;by_cases h0:g.2.Ad=0
 case neg=>
  rw[Q76 h0,ov,bifT,sbind,hwide,sbind];exact u g.2 h0 _ _
 obtain⟨l,l1,l2,l3⟩:=hform;rw[yp] at l1;have l4:=l3 h0;obtain⟨o1,o2,o3,o4,o5⟩:=J;rw[hzero h0];rw[l1] at o1 o5;rw[l4] at l2 o2;rw[l1,l4];generalize g.1.2.2=Z at *;have hl12:l.length<=12:=xx o5 (by show 0+k.Ab.Ai.toNat<=12;omega);have hd1:1<=(tK k).Y.length/\(tK k).Y.length<=6:=by have h1:=A.1.1.1.1;have h2:=A.2.2.1;exact⟨om,om⟩
 rw[Q4] at o1 o4;have qZ:QR 4000 Z:=Ja o3 oy;rw[Jv,ot,bifF,sbind,hwide,sbind];have eM:(⟨l.map toTryA,toF (fv (tK k).Ar),toR Z⟩:Qp)=mA l (fv (tK k).Ar) Z:=rfl;rw[eM];have hb:limQ (tK k).G9.Ac<=limQ 3000:=by have hb3:(tK k).G9.Ac<=300:=hbits;unfold limQ;omega
 have S:=Qt5 hb l2;rw[<-Jb8 (E:=fv (tK k).Ar) (Z:=Z)] at S;have N:(mA l (fv (tK k).Ar) Z).Aa.length<=200:=by show(l.map toTryA).length<=200;rw[xr];omega
 have X:∀ t∈(mA l (fv (tK k).Ar) Z).Aa,FT 4000 t:=λx hx=>by obtain⟨t,hm,rfl⟩:=xa.1 hx;exact FT_A (o1 t hm) om
 have B:Fk 4000 (mA l (fv (tK k).Ar) Z).T:=Qz o2;have C:FR 4000 (mA l (fv (tK k).Ar) Z).Y:=Kx qZ;have Y:(mA l (fv (tK k).Ar) Z).Y.length=k.Y.length:=by show(toR Z).length=_;rw[Q3,o4];show(k.Y.map tF).length=_;rw[xr]
 have hYk:(tK k).Y.length=k.Y.length:=by show(k.Y.map tF).length=_;rw[xr]
 have R:(⟨(tK k).G9.Tape,(tK k).G9.G8,(tK k).G9.P,3000⟩:Qe).P.length<=200:=Q;clear u n2 n4 n5 hwide;generalize (⟨(tK k).G9.Tape,(tK k).G9.G8,(tK k).G9.P,3000⟩:Qe)=q at *;generalize mA l (fv (tK k).Ar) Z=H at *;obtain⟨T,b1,b2⟩:=Q60 (n:=big) (k:=4000) (p:=q) (h:=H) (x:=K) a oy oy j N X B C om om;obtain⟨r2,c1,c2⟩:=Qky (n:=big) (k:=4000) (p:=q) (h:=H) a oy oy j om X B C om R;rw[b1,sbind,c1,sbind,sbind,Jv,ot,bifF];simp only[];rcases b2 with e | ⟨M,G,g1,g2,g3⟩
 . obtain⟨x0,x1,x2,x3,x4⟩:=T
   rw[Jt e,ov,bifT,bifT,works]
 rcases c2 with ⟨e,_⟩ | ⟨W,hA,J,m1,m2⟩
 . obtain⟨y0,y1,x1,x2,x3,x4⟩:=r2
   rw[M,Jv,ot,bifF,Jt e,ov,bifT,works]
 have O:∀(i:Nat) g,G[i]?=some g->sweepQ q H (uniQ H.Y.length i) (cutI K)=.inr g/\g.1.length=H.Y.length/\g.2.length=q.P.length/\QR 4000 g.1/\QR 129 g.2:=λi g hi=>by have hs:=g2 i g hi;obtain⟨_,_,b3⟩:=Qje (n:=big) (k:=4000) (p:=q) (h:=H) (w:=toR (uniQ H.Y.length i)) (x:=K) a oy oy j N X B C om (K9 Qrs oy) (by rw[Q3,Qbn];omega);rw[Vf] at b3;obtain⟨x1,x2,x3,x4⟩:=b3 g hs;exact⟨hs,x3,x4,x1,x2⟩
 obtain⟨f1,f2⟩:=Q96 (cut_b K).1 S hA g1 (λi g hi=>⟨(O i g hi).1,(O i g hi).2.1,(O i g hi).2.2.1⟩) J
 have hq1:∀ r∈G.map (·.1),QR 4000 r:=λr hr=>by obtain⟨g,I,rfl⟩:=xa.1 hr;obtain⟨i,hi⟩:=ut I;exact(O i g hi).2.2.2.1
 have hq2:∀ r∈G.map (·.2),QR 129 r:=λr hr=>by obtain⟨g,I,rfl⟩:=xa.1 hr;obtain⟨i,hi⟩:=ut I;exact(O i g hi).2.2.2.2
 rw[M,W,Jv,ot,bifF,bifF];unfold Qk1;simp only[jn_eq];rw[g3,m1,m2,<-f1,<-f2];simp only[];rw[Qoj a oy oy hq1,sbind,bifT,Qoj a oy oy hq2,sbind,sbind,bifT,Vi,xr,g1,Y,oj rfl,bifT,works]
end Go.Proofs.YtmnalemmhfjacaaGreatDoor
