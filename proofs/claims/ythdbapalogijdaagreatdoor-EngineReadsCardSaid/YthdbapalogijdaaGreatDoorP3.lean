import Derived.Test.YthdbapalogijdaaGreatDoorP2
namespace Go.Proofs.YthdbapalogijdaaGreatDoor
open Go Go.RowKit
variable{S:List Int}{N B k r:Nat}{L:List Be}{b a:Be}{α ε R β:Type}{op oa ob I p:Int}{x:Qi}{c:List Qi}
theorem SW{n:Nat}{t:Be}{pre:Be}{b:UInt8}{K:Int}{B E:List Qa}(hn:aq<=n)(G:bC n)(H:t.length<=4000)(hN:N<=4001)(h:jN t S N L pre)
 (p:K<2) (F:L=[]->¬ K=1) (hS:sub ([98,101]:Be) K (wrap64 (K+1))=some [b]) :
 sW n t S (B,E,((N - L.length:Nat):Int),K)=some (if (dS b L (pre.length:Int)).1.1≠0 then Lp.out (Lp.out (eS,(⟨(dS b L (pre.length:Int)).1.1,(dS b L (pre.length:Int)).1.2⟩:Kt)))
  else Lp.go ((bif decide (K=0) then (rR (dS b L (pre.length:Int)).2.1,E) else (B,rR (dS b L (pre.length:Int)).2.1)).1,(bif decide (K=0) then (rR (dS b L (pre.length:Int)).2.1,E) else (B,rR (dS b L (pre.length:Int)).2.1)).2,((N - (dS b L (pre.length:Int)).2.2.1.length:Nat):Int),wrap64 (K+1))):=by
 have R:=h.len;have u:=h.le;have v:=h.pos;unfold sW;simp only[ai];rw[ou p,aj];cases L with
 | nil=>
   have w:wrap64 (((N - ([]:List Be).length:Nat):Int)+1)=((N+1:Nat):Int):=w1 oj;have g1:=Ku h.hd;simp only[ci] at v;have y:dS b [] (pre.length:Int)=((1,(pre.length:Int) - 1),[],[],(pre.length:Int)):=rfl;have a:min (pre.length:Int) (t.length:Int)=(pre.length:Int) - 1:=om
   rw[w,ou (show((N+1:Nat):Int)=(S.length:Int) by omega),aj,ov (F rfl),ak,hS,aa,ov (show ¬((N+1:Nat):Int)<(S.length:Int) by omega),ak,ou (show((([]:Be).length:Nat):Int)<2 by decide),aj,aj,g1,aa,y,a,ot (show(1:Int)≠0 by decide)]
 | cons l r=>
   simp only[xd] at u;simp only[ci] at v;have g1:=Ku h.hd;have C:ah S ((N - (l::r).length+1:Nat):Int)=_:=Ku h.nx;have k:=h.sb H;have A:wrap64 (((N - (l::r).length:Nat):Int)+1)=((N - (l::r).length+1:Nat):Int):=w1 oj;have a:min (pre.length:Int) (t.length:Int)=(pre.length:Int):=om
   rw[A,ov (show ¬((N - (l::r).length+1:Nat):Int)=(S.length:Int) by simp only[xd];omega),ak,ak,hS,aa,ou (show((N - (l::r).length+1:Nat):Int)<(S.length:Int) by simp only[xd];omega),aj,g1,aa,C,aa,k,aa];have eF:¬ l.take 2=[b,32]->dS b (l::r) (pre.length:Int)=((1,(pre.length:Int)),[],r,(pre.length:Int)+(l.length+1)):=λq=>by rw[dS,oq q]
   by_cases j:(l.length:Int)<2;have e:¬ l.take 2=[b,32]:=λq=>by have:=yj List.length q;simp at this;omega
   rw[ou j,aj,aj,aa,eF e,a,ot (show(1:Int)≠0 by decide)];have m:sub l (0:Int) (2:Int)=some (l.take 2):=by rw[show(0:Int)=((0:Nat):Int) from rfl,show(2:Int)=((2:Nat):Int) from rfl,Z1 om om];rfl
   rw[ov j,ak,m,aa,Fe oh,aa,show([b]:Be)++[32]=[b,32] from rfl];by_cases e:l.take 2=[b,32]
   have I:2<=l.length:=by have:=yj List.length e;simp at this;omega
   have hd:sub l (2:Int) (l.length:Int)=some (l.drop 2):=by rw[show(2:Int)=((2:Nat):Int) from rfl,Z1 I (xe _),yp]
   obtain⟨J,M,O,P⟩:=w8 (s:=l.drop 2);have Q:(l.drop 2).length=l.length - 2:=oh
   rw[ou e,ow,ak,hd,aa,F8 hn G om,aa];simp only[];by_cases g:(kR (l.drop 2)).1=0;have eT:dS b (l::r) (pre.length:Int)=((0,0),lR (l.drop 2),r,(pre.length:Int)+(l.length+1)):=by rw[dS,ot e,oq (λq=>q g)]
   rw[eT,g,ou rfl,ow,ak,oq (λq=>q rfl),show N - (l::r).length+1=N - r.length by simp only[xd];omega];cases decide (K=0)<;>rfl;have eT:dS b (l::r) (pre.length:Int)=(((kR (l.drop 2)).1,(kR (l.drop 2)).2+((pre.length:Int)+2)),lR (l.drop 2),r,(pre.length:Int)+(l.length+1)):=by rw[dS,ot e,ot g]
   rw[eT,ov g,xn,aj,aa,ot g,aK (x:=(pre.length:Int)+2) om om,aK om om,Int.add_comm];rw[ov e,xn,aj,aa,eF e,a,ot (show(1:Int)≠0 by decide)]
abbrev il:=Be×List Rat×List (List Rat)×List Rat×List Rat
def sP(q:il):Q5:=⟨q.1,dV q.2.1,q.2.2.1.map dV,dV q.2.2.2.1,dV q.2.2.2.2⟩
def sD(q:il):Ql:=⟨q.1,rR q.2.1,q.2.2.1.map rR,rR q.2.2.2.1,rR q.2.2.2.2⟩
abbrev q0:il:=([],[],[],[],[])
def kO(nm:Be)(s:SS)(b:ST):(Int×Int)×il:=
 if b.1.1≠0 then (b.1,q0)
 else if b.2.2.1=[] then ((0,0),(nm,s.2.2.2.1,s.2.2.2.2,b.2.1,[])) else if (dS 101 b.2.2.1 b.2.2.2).1.1≠0 then ((dS 101 b.2.2.1 b.2.2.2).1,q0) else if (dS 101 b.2.2.1 b.2.2.2).2.2.1=[] then ((0,0),(nm,s.2.2.2.1,s.2.2.2.2,b.2.1,(dS 101 b.2.2.1 b.2.2.2).2.1)) else ((1,(dS 101 b.2.2.1 b.2.2.2).2.2.2),q0)
def js(nm:Be)(r:List Be):(Int×Int)×il:=
 if dp 2 nm=false then ((1,0),q0)
 else if (cV r ((nm.length:Int)+1) [] []).1.1≠0 then ((cV r ((nm.length:Int)+1) [] []).1,q0)
 else kO nm (cV r ((nm.length:Int)+1) [] []) (dS 98 (cV r ((nm.length:Int)+1) [] []).2.1 (cV r ((nm.length:Int)+1) [] []).2.2.1)
def bV(t:Be):(Int×Int)×il:=match aF 10 t with
 | []=>((0,0),q0)
 | nm::r=>js nm r
noncomputable def dT(t:Be):Int×Int:=if 4000<t.length then (1,4000) else if (bV t).1.1≠0 then (bV t).1 else if gJ (sP (bV t).2)≠0 then (2,gJ (sP (bV t).2)) else (0,0)
theorem GB:∀ W:List Be,W.length<=ci W
 | []=>xe _
 | a::W=>by have:=GB W;simp only[xd,ci];omega
theorem m6:QR k []:=λx a=>(by cases a)
theorem hY{s:Be}:QR 121 (lR s)/\(lR s).length<=s.length+1:=by
 unfold lR;by_cases h0:s=[]
 simp_all[m6];rw[oq h0];by_cases hk:(kR s).1=0;rw[ot hk];unfold kR at hk;rw[oq h0] at hk;have j:=((Cj _ _).2 hk).2;obtain⟨w,r,e⟩:∃ w r,aF 44 s=w::r:=by
  cases h:aF 44 s with
  | nil=>exact absurd h (ph _ _)
  | cons w r=>exact⟨w,r,rfl⟩
 have g:=qm (x:=44) s;rw[show(44:UInt8).toNat=44 from rfl,e] at g;have a:=w7 (x:=44) w r;rw[g] at a;have k:=GB (w::r);rw[e] at j |-;refine⟨λx m=>?_,by rw[xf];omega⟩;obtain⟨v,p,rfl⟩:=xv.1 m;grind[Li];simp_all[m6]
def Lr(A:List (List Rat)):Prop:=∀ r∈A,QR 121 r/\r.length<=5000
theorem Jmc{l:List Rat}{q:Rat}(h:QR k l)(e:qw q<=k):QR k (l++[q]):=λx a=>by rcases yz.1 a with a | a;exact h x a;grind
theorem Ls{t:Be}(I:t.length<=4000):∀(L:List Be) (pre:Be) (c:List Rat) (A:List (List Rat)),jN t S N L pre->QR 121 c->Lr A->c.length<=pre.length->A.length<=pre.length ->
 (∃ e,jN t S N (cV L (pre.length:Int) c A).2.1 e/\(e.length:Int)=(cV L (pre.length:Int) c A).2.2.1)/\QR 121 (cV L (pre.length:Int) c A).2.2.2.1/\Lr (cV L (pre.length:Int) c A).2.2.2.2/\(cV L (pre.length:Int) c A).2.2.2.1.length<=4001/\(cV L (pre.length:Int) c A).2.2.2.2.length<=4001/\((cV L (pre.length:Int) c A).1.1=0->(cV L (pre.length:Int) c A).1.2=0):=by
 intro L
 induction L with
 | nil=>
   intro pre c A h m p C F;have w:=h.pos;simp only[ci] at w;have a:cV [] (pre.length:Int) c A=((0,0),[],(pre.length:Int),c,A):=rfl;grind
 | cons l r G=>
   intro pre c A h m p C F;have w:=h.pos;have k:=h.tl;have u:(pre++l++[(10:UInt8)]).length=pre.length+l.length+1:=oj
   have g:(pre.length:Int)+(l.length+1)=((pre++l++[(10:UInt8)]).length:Int):=oh
   simp only[ci] at w;cases y:l.contains 124
   . have a:cV (l::r) (pre.length:Int) c A=((0,0),l::r,(pre.length:Int),c,A):=by rw[cV,ot y]
     rw[a];exact⟨⟨pre,h,rfl⟩,m,p,by simp only[];omega,by simp only[];omega,λ_=>rfl⟩
   have j:¬ l.contains 124=false:=oo
   obtain⟨s1,K,M⟩:=Cl y;have sl:l.length=(aU l).length+1+(bK l).length:=by have:=yj List.length s1;simp at this;omega
   by_cases hk:(kF (aU l)).1=0
   case neg=>
    have a:cV (l::r) (pre.length:Int) c A=(((kF (aU l)).1,(kF (aU l)).2+(pre.length:Int)),r,(pre.length:Int)+(l.length+1),c,A):=by rw[cV,oq j,ot hk]
    rw[a];exact⟨⟨_,k,g.symm⟩,m,p,by simp only[];omega,by simp only[];omega,λq=>absurd q hk⟩
   by_cases B:(kR (bK l)).1=0
   case neg=>
    have a:cV (l::r) (pre.length:Int) c A=(((kR (bK l)).1,(kR (bK l)).2+((pre.length:Int)+(aU l).length+1)),r,(pre.length:Int)+(l.length+1),c,A):=by rw[cV,oq j,oq om,ot B]
    rw[a];exact⟨⟨_,k,g.symm⟩,m,p,by simp only[];omega,by simp only[];omega,λq=>absurd q B⟩
   have a:cV (l::r) (pre.length:Int) c A=cV r ((pre.length:Int)+(l.length+1)) (c++[qF (aU l)]) (A++[lR (bK l)]):=by rw[cV,oq j,oq om,oq om]
   obtain⟨H,J⟩:=hY (s:=bK l)
   have hi:=G _ (c++[qF (aU l)]) (A++[lR (bK l)]) k (Jmc m (Li hk)) (λx v=>by
    rcases yz.1 v with v | v
    . exact p x v
    . rw[uw.1 v];exact⟨H,om⟩) (by rw[u];simp;omega) (by rw[u];simp;omega)
   rw[a,g];exact hi
theorem xB{t:Be}{b:UInt8}(p:t.length<=4000){pre:Be}(h:jN t S N L pre):
 (∃ a,jN t S N (dS b L (pre.length:Int)).2.2.1 a/\(a.length:Int)=(dS b L (pre.length:Int)).2.2.2)/\QR 121 (dS b L (pre.length:Int)).2.1/\(dS b L (pre.length:Int)).2.1.length<=5000/\((dS b L (pre.length:Int)).1.1=0->(dS b L (pre.length:Int)).1.2=0/\L≠[]):=by
 cases L with
 | nil=>exact⟨⟨pre,h,rfl⟩,m6,by simp[dS],λq=>absurd q (show ¬ 1=0 by decide)⟩
 | cons l r=>
   have k:=h.pos;have m:=h.tl;have g:(pre.length:Int)+(l.length+1)=((pre++l++[(10:UInt8)]).length:Int):=oh
   simp only[ci] at k;by_cases e:l.take 2=[b,32]
   obtain⟨u,v⟩:=hY (s:=l.drop 2);have:(l.drop 2).length<=l.length:=oh
   have j:dS b (l::r) (pre.length:Int)=(if (kR (l.drop 2)).1≠0 then ((kR (l.drop 2)).1,(kR (l.drop 2)).2+((pre.length:Int)+2)) else (0,0),lR (l.drop 2),r,(pre.length:Int)+(l.length+1)):=by rw[dS,ot e]
   grind;have j:dS b (l::r) (pre.length:Int)=((1,(pre.length:Int)),[],r,(pre.length:Int)+(l.length+1)):=by rw[dS,oq e]
   grind[m6]
theorem Lu{t nm:Be}{r:List Be}(e:aF 10 t=nm::r):jN t (bu (nm::r) 0) (nm::r).length (nm::r) []:=by have g:=qm (x:=10) t;rw[show(10:UInt8).toNat=10 from rfl,e] at g;have a:=w7 (x:=10) nm r;rw[g] at a;refine⟨w9 _ _,xe _,oh,ol,ol,λl k b j=>?_⟩;grind[wZ]
structure kP(q:il):Prop where
 c:QR 121 q.2.1
 a:Lr q.2.2.1
 b:QR 121 q.2.2.2.1
 e:QR 121 q.2.2.2.2
 nl:q.1.length<=4000
 cl:q.2.1.length<=5000
 bl:q.2.2.2.1.length<=5000
 el:q.2.2.2.2.length<=5000
 al:q.2.2.1.length<=5000
theorem Cm{q:il}(h:kP q):hH 121 (sP q):=by refine⟨λr e=>?_,BZ h.b,BZ h.c,BZ h.e,by have:=h.nl;show q.1.length<=_;omega⟩;obtain⟨l,a,rfl⟩:=xv.1 e;exact BZ (h.a l a).1
theorem Cn{l:List Rat}(h:QR k l):n5 k (rR l):=λf hf=>by obtain⟨q,a,rfl⟩:=xv.1 hf;exact lF (h q a)
theorem sX{q:il}(h:kP q):gD 121 (sD q):=by refine⟨λr e=>?_,λr e=>?_,Cn h.b,by have:=h.bl;show(rR q.2.2.2.1).length<=_;grind[mY],Cn h.c,by have:=h.cl;show(rR q.2.1).length<=_;grind[mY],Cn h.e,by have:=h.el;show(rR q.2.2.2.2).length<=_;grind[mY],by have:=h.nl;show q.1.length<=_;omega⟩;obtain⟨l,a,rfl⟩:=xv.1 e;exact Cn (h.a l a).1;obtain⟨l,a,rfl⟩:=xv.1 e;have:=(h.a l a).2;grind[mY]
theorem m7(l:List Rat):(rR l).map tF=dV l:=by unfold rR dV;rw[va];rfl
theorem m8(q:il):tS (sD q)=sP q:=by grind[tS,sD,sP,m7,List.map_congr_left]
theorem iA:kP q0:=⟨m6,λr a=>(by cases a),m6,m6,oh,oh,oh,oh,oh⟩
theorem Co{t:Be}(p:t.length<=4000):kP (bV t).2/\((bV t).1.1=0->(bV t).1.2=0):=by
 unfold bV;cases e:aF 10 t with
 | nil=>simp[iA]
 | cons nm r=>
   have h0:=Lu e;have G:=h0.pos;simp only[ci,yn] at G;have C:=h0.tl;have k:((nm++[(10:UInt8)]).length:Int)=(nm.length:Int)+1:=oh
   obtain⟨⟨J,a1,v⟩,c1,c2,c3,c4,c5⟩:=Ls p r (nm++[10]) [] [] C m6 (λr a=>(by cases a)) oh oh;rw[k] at a1 v c1 c2 c3 c4 c5;simp only[];unfold js;by_cases I:dp 2 nm=false;simp_all[iA];rw[oq I];generalize cV r ((nm.length:Int)+1) [] []=s at *;by_cases H:s.1.1≠0;simp_all[iA];rw[oq H];obtain⟨⟨K,a2,x⟩,g,j,B⟩:=xB (b:=98) p a1;rw[v] at a2 x g j B;generalize dS 98 s.2.1 s.2.2.1=b at *;unfold kO;by_cases F:b.1.1≠0;simp_all[iA];rw[oq F];by_cases a:b.2.2.1=[]
   rw[ot a];exact⟨⟨c1,c2,g,m6,ol,ol,j,oh,ol⟩,λ_=>rfl⟩;rw[oq a];obtain⟨⟨L,a3,A⟩,g1,y,g3⟩:=xB (b:=101) p a2;rw[x] at a3 A g1 y g3;generalize dS 101 b.2.2.1 b.2.2.2=w at *;by_cases u:w.1.1≠0;simp_all[iA];rw[oq u];by_cases m:w.2.2.1=[]
   rw[ot m];exact⟨⟨c1,c2,g,g1,ol,ol,j,y,ol⟩,λ_=>rfl⟩;simp_all[iA]
theorem SX(L:List Be)(a:Int):(jr L a).over=decide (L=[]):=by cases L<;>simp[jr]
theorem Jmd(h:L≠[])(a:Int):(jr L a).at_=a:=by
 cases L with
 | nil=>grind
 | cons l r=>rfl
theorem Jil{n:Nat}{t:Be}(hn:aq<=n)(B:eJ)(C:bC n)(y:t.length<=4000):
 ∃ s,AB n t=some (s,(⟨(bV t).1.1,0,0,(bV t).1.2⟩:Qc))/\((bV t).1.1=0->s=sP (bV t).2):=by
 unfold bV;cases e:aF 10 t with
 | nil=>grind[ph]
 | cons nm r=>
   have K:=qm (x:=10) t;rw[show(10:UInt8).toNat=10 from rfl,e] at K;have h0:=Lu e;have S:=h0.pos;simp only[ci,yn] at S;have v:=h0.tl;rw[xi] at v;have X:(nm++[(10:UInt8)]).length=nm.length+1:=oh
   have A:((nm++[(10:UInt8)]).length:Int)=(nm.length:Int)+1:=oh
   obtain⟨⟨Z,a1,H⟩,c1,c2,c3,c4,c5⟩:=Ls y r (nm++[10]) [] [] v m6 (λr g=>(by cases g)) oh oh;have F:r.length<n:=by grind[GB,aq]
   have m:=Jec (nm:=nm) hn B C y r (nm++[10]) [] [] n v.txt om v.free F oh oh;rw[A] at a1 H c1 c2 c3 c4 c5 m;have j:=Ln (l:=nm) (r:=r) (a:=0) (h0.free nm (.head _)) oh (by grind[ci]);rw[show 0+((nm.length:Int)+1)=(nm.length:Int)+1 by omega] at j;have Q:(⟨t,0,false⟩:J6)=jr (nm::r) 0:=by show _=(⟨bj 10 (nm::r),0,false⟩:J6);rw[K]
   unfold AB;rw[Q,j,aa];simp only[];rw[FL (w:=⟨2,nm,0⟩) hn ol,aa];simp only[];unfold js;by_cases Y:dp 2 nm=false
   . simp_all
   rw[oq Y];have G:dp 2 nm=true:=ol
   rw[G,ow,ak];have p:E1 n (jr r ((nm.length:Int)+1)) t nm ([]:List Qb) ([]:List (List Qb)) [] []=_:=m;rw[p,aa];generalize cV r ((nm.length:Int)+1) [] []=s at *;simp only[];by_cases M:s.1.1=0
   case neg=>
    simp_all[jq]
   rw[oq om,M,c5 M,jp,ow,ak];have T:=a1.pos;obtain⟨⟨p2,a2,I⟩,O,P,J⟩:=xB (b:=98) y a1;rw[H] at a2 I O P J;rw[SU hn B C om om a1.free,aa];generalize dS 98 s.2.1 s.2.2.1=b at *;simp only[ai];unfold kO;by_cases L:b.1.1=0
   case neg=>
    simp_all[jq]
   rw[oq om,L,(J L).1,jp,ow,ak,SX];by_cases g:b.2.2.1=[]
   . rw[ot g,ou g,aj];exact⟨_,rfl,λ_=>rfl⟩
   rw[oq g,ov g,ak];have U:=a2.pos;obtain⟨⟨p3,a3,N⟩,g1,R,g3⟩:=xB (b:=101) y a2;rw[I] at a3 N g1 R g3;rw[SU hn B C om om a2.free,aa];generalize dS 101 b.2.2.1 b.2.2.2=w at *;simp only[];by_cases u:w.1.1=0
   case neg=>
    simp_all[jq]
   rw[oq om,u,(g3 u).1,jp,ow,ak,SX];by_cases k:w.2.2.1=[]
   . rw[ot k,ou k,aj];exact⟨_,rfl,λ_=>rfl⟩
   simp_all[Jmd]
section
variable {t:Be}
theorem xC(a:4000<t.length):dT t=(1,4000):=by simp_all[dT]
theorem sY(a:¬ 4000<t.length)(hk:¬(bV t).1.1=0):dT t=(bV t).1:=by simp_all[dT,oq]
theorem GC(a:¬ 4000<t.length)(hk:(bV t).1.1=0)(e:¬ gJ (sP (bV t).2)=0):dT t=(2,gJ (sP (bV t).2)):=by simp_all[dT]
theorem GD(a:¬ 4000<t.length)(hk:(bV t).1.1=0)(e:gJ (sP (bV t).2)=0):dT t=(0,0):=by simp_all[dT]
end
theorem SY{n:Nat}{t:Be}(hn:aq<=n)(r:eJ)(u:bC n):sk n t=some (if (dT t).1=0 then sP (bV t).2 else ⟨[],[],[],[],[]⟩,(⟨(dT t).1,0,0,(dT t).2⟩:Qc)):=by
 unfold sk;by_cases a:4000<t.length
 . rw[xC a,ou om,aj,oq oh]
 rw[ov om,ak];obtain⟨s,g,j⟩:=Jil hn r u (show t.length<=4000 by omega);obtain⟨m,p⟩:=Co (show t.length<=4000 by omega);rw[g,aa];by_cases hk:(bV t).1.1=0
 case neg=>simp_all[sY,jq]
 have k:=Sj hn oh oh (Cm m);by_cases e:gJ (sP (bV t).2)=0
 . simp_all[GD,jp]
 . rw[GC a hk e,hk,p hk,jp,ow,ak,j hk,k,aa,ov e,xn,aj,oq oh]
theorem be0:sub ([98,101]:Be) 0 (wrap64 (0+1))=some [98]:=by rw[show wrap64 (0+1)=((1:Nat):Int) by grind[wrap64],show 0=((0:Nat):Int) from rfl,Z1 oc oc];rfl
theorem be1:sub ([98,101]:Be) 1 (wrap64 (1+1))=some [101]:=by rw[show wrap64 (1+1)=((2:Nat):Int) by grind[wrap64],show 1=((1:Nat):Int) from rfl,Z1 oc oc];rfl
theorem e01:wrap64 (0+1)=1:=by grind[wrap64]
theorem Lv:wrap64 (1+1)=2:=by grind[wrap64]
theorem SZ{n:Nat}{t:Be}(hn:aq<=n)(H:bC n):Yt n t=some (if (dT t).1=0 then sD (bV t).2 else eS,(⟨(dT t).1,(dT t).2⟩:Kt)):=by
 unfold Yt;by_cases R:4000<t.length
 . rw[xC R,ou om,aj,oq oh]
 rw[ov om,ak,Jik hn om,aa];obtain⟨Q,h2⟩:=Co (show t.length<=4000 by omega);have g:t.length<=4000:=om
 have hS:bV t=match aF 10 t with
  | []=>((0,0),q0)
  | nm::r=>js nm r:=rfl
 cases e:aF 10 t with
 | nil=>grind[ph]
 | cons nm r=>
   rw[e] at hS;simp only[] at hS;have h0:=Lu e;have hp:=h0.pos;simp only[ci,yn] at hp;have p:=h0.tl;rw[xi] at p;have G:((nm++[(10:UInt8)]).length:Int)=(nm.length:Int)+1:=oh
   have hN:(nm::r).length<=4001:=by grind[GB]
   have g1:ah (bu (nm::r) 0) ((((nm::r).length - (nm::r).length+1:Nat)):Int)=_:=Ku h0.nx;rw[Nat.sub_self,xx] at g1;have L:=h0.sb g;obtain⟨⟨p1,a1,N⟩,c1,c2,c3,c4,c5⟩:=Ls g r (nm++[10]) [] [] p m6 (λr u=>(by cases u)) oh oh;have J:r.length<n:=by grind[aq]
   have y:=Jmb hn H g hN r (nm++[10]) [] [] n p J oh oh;rw[G] at a1 N c1 c2 c3 c4 c5 y;rw[show 1=((1:Nat):Int) from rfl,g1,aa];have F:sub t 0 (wrap64 (((([]:Be).length:Nat):Int)+((nm.length:Int)+1) - 1))=some nm:=L;rw[show((1:Nat):Int)=1 from rfl,F,aa,FS hn,aa];simp only[];unfold js at hS;by_cases hw:dp 2 nm=false
   . simp_all[sY]
   rw[oq hw] at hS;have M:dp 2 nm=true:=ol
   rw[M,ow,ak];rw[show(nm::r).length - r.length=1 by simp] at y;refine je (show _=_ from y) _ ?_;generalize cV r ((nm.length:Int)+1) [] []=s at *;by_cases hs:s.1.1=0
   case neg=>
    simp_all[Yy,sY]
   rw[oq om] at hS;rw[oq om,aa,Vp];have a:=SW (b:=98) (K:=0) (B:=[]) (E:=[]) hn H g hN a1 oc (λ_=>by decide) be0;obtain⟨⟨p2,a2,O⟩,S,T,U⟩:=xB (b:=98) g a1;rw[N] at a2 O S T U a;generalize dS 98 s.2.1 s.2.2.1=b at *;unfold kO at hS;obtain⟨m,rfl⟩:∃ m,n=m+3:=⟨n - 3,by grind[aq]⟩
   by_cases hb:b.1.1=0
   case neg=>
    rw[ot hb] at hS a;have hk:¬(bV t).1.1=0:=ol
    refine je (show _=_ from Jp a om) _ ?_;simp_all[Yy,sY]
   rw[oq om] at hS a;have a:sW (m+3) t (bu (nm::r) 0) ([],[],(((nm::r).length - s.2.1.length:Nat):Int),0)=some (Lp.go (rR b.2.1,[],(((nm::r).length - b.2.2.1.length:Nat):Int),1)):=by grind[e01]
   by_cases u:b.2.2.1=[]
   . rw[ot u] at hS
     have j:sW (m+3) t (bu (nm::r) 0) (rR b.2.1,[],(((nm::r).length - b.2.2.1.length:Nat):Int),1)=some (Lp.out (Lp.go (rR b.2.1,[],(((nm::r).length - b.2.2.1.length:Nat):Int)))):=by
      have k:wrap64 ((((nm::r).length - b.2.2.1.length:Nat):Int)+1)=(((nm::r).length+1:Nat):Int):=by rw[u];exact by grind[w1,List.length_cons,List.length_nil]
      unfold sW;simp only[ai];rw[k,ou oh,aj,w9,ou rfl,aj];rfl
     refine je ((V0 a).trans (Jp j om)) _ ?_;rw[aa,Vp];have k:wrap64 ((((nm::r).length - b.2.2.1.length:Nat):Int)+1)=(((nm::r).length+1:Nat):Int):=by rw[u];exact by grind[w1,List.length_cons,List.length_nil]
     simp only[];rw[k,w9,ov om,ak];have I:(⟨nm,rR s.2.2.2.1,s.2.2.2.2.map rR,rR b.2.1,[]⟩:Ql)=sD (bV t).2:=by rw[hS];rfl
     have hk:(bV t).1.1=0:=by rw[hS]
     obtain⟨v,C,rfl⟩:=La (n:=m+3) hn oh oh (sX Q);rw[m8] at C;rw[I,C,aa];by_cases A:gJ (sP (bV t).2)=0
     all_goals simp_all[GD,GC]
   rw[oq u] at hS;have hw101:=SW (b:=101) (K:=1) (B:=rR b.2.1) (E:=[]) hn H g hN a2 oc (λq=>absurd q u) be1;obtain⟨⟨p3,a3,P⟩,X,Y,f3⟩:=xB (b:=101) g a2;rw[O] at a3 P X Y f3 hw101;generalize dS 101 b.2.2.1 b.2.2.2=w at *;by_cases A:w.1.1=0
   case neg=>
    rw[ot A] at hS hw101;have hk:¬(bV t).1.1=0:=ol
    refine je ((V0 a).trans (Jp hw101 om)) _ ?_;simp_all[Yy,sY]
   rw[oq om] at hS hw101;have hw101:sW (m+3) t (bu (nm::r) 0) (rR b.2.1,[],(((nm::r).length - b.2.2.1.length:Nat):Int),1)=some (Lp.go (rR b.2.1,rR w.2.1,(((nm::r).length - w.2.2.1.length:Nat):Int),2)):=by grind[Lv]
   have j:sW (m+3) t (bu (nm::r) 0) (rR b.2.1,rR w.2.1,(((nm::r).length - w.2.2.1.length:Nat):Int),2)=some (Lp.out (Lp.go (rR b.2.1,rR w.2.1,(((nm::r).length - w.2.2.1.length:Nat):Int)))):=oe
   refine je ((V0 a).trans ((V0 hw101).trans (Jp j om))) _ ?_;rw[aa,Vp];simp only[];by_cases x:w.2.2.1=[]
   . rw[ot x] at hS
     have k:wrap64 ((((nm::r).length - w.2.2.1.length:Nat):Int)+1)=(((nm::r).length+1:Nat):Int):=by rw[x];exact by grind[w1,List.length_cons,List.length_nil]
     rw[k,w9,ov om,ak];have I:(⟨nm,rR s.2.2.2.1,s.2.2.2.2.map rR,rR b.2.1,rR w.2.1⟩:Ql)=sD (bV t).2:=by rw[hS];rfl
     have hk:(bV t).1.1=0:=by rw[hS]
     obtain⟨v,C,rfl⟩:=La (n:=m+3) hn oh oh (sX Q);rw[m8] at C;rw[I,C,aa];by_cases A:gJ (sP (bV t).2)=0
     all_goals simp_all[GD,GC]
   . rw[oq x] at hS
     have hle:=a3.le;have Z:w.2.2.1.length≠0:=ol
     have k:wrap64 ((((nm::r).length - w.2.2.1.length:Nat):Int)+1)=(((nm::r).length - w.2.2.1.length+1:Nat):Int):=w1 om;have hk:¬(bV t).1.1=0:=ol
     rw[k,w9,ou om,aj,Ku a3.hd,aa,P,sY R hk,hS,oq oh]
set_option maxRecDepth 100000
def cZ:uN:=match zP with
 | some r=>r
 | none=>⟨[],[],[],[],[],[]⟩
theorem Jkg:zP=some cZ:=rfl
def pi(t:Be):Be:=(cJ 10 t).1
def lP(s:Be):List Be->Option Be
 | []=>none
 | t::r=>if pi t=s then some t else lP s r
def jY:List Be:=[cZ.a0,cZ.a1,cZ.a2,cZ.a3,cZ.a4,cZ.a5]
def gM(s:Be):Option Be:=lP s jY
noncomputable def gO(t:Be):Q5:=if (dT t).1=0 then sP (bV t).2 else ⟨[],[],[],[],[]⟩
noncomputable def fS(t:Be):Ql:=if (dT t).1=0 then sD (bV t).2 else eS
theorem Jkh:jY.all (λt=>Nat.ble t.length 4000)=true:=oe
theorem Jme{t:Be}(h:t∈jY):t.length<=4000:=ym (uv.1 Jkh t h)
theorem S1{t:Be}(h:t.length<=4000):uY t=some (pi t):=by unfold uY;rw[Lm 10 om,aa];rfl
def GE(n:Nat)(s:Be)(L:List Be)(a:Int):Option (Lp Int (Lp Unit (Q5×Bool))):=
    bif decide (a<6) then ((ah L a).bind λe=>(uY e).bind λg=>bif decide (g=s) then ((sk n e).bind λj=>some (.out (.out ((j.1,true))))) else (some (.go (wrap64 (a+1))))) else (some (.out (.go ())))
theorem Jmf{n:Nat}{s:Be}{Ts:List Be}(hn:aq<=n)(p:eJ)(u:bC n)(w:Ts.length=6)(g:∀ t∈Ts,t.length<=4000):∀(L P:List Be) (m:Nat),Ts=P++L->L.length<m ->
 ae (GE n s Ts) m (P.length:Int)=some (match lP s L with
  | some t=>Lp.out (gO t,true)
  | none=>Lp.go ()):=by
 intro L
 induction L with
 | nil=>
   intro P m e v;have:P.length=6:=ol
   refine Jp ?_ om;unfold GE;rw[ov om,ak];rfl
 | cons t r y=>
   intro P m e v;have x:P.length+(r.length+1)=6:=ol
   have j:Ts[P.length]?=some t:=ol
   obtain⟨k,rfl⟩:∃ k,m=k+1:=⟨m - 1,om⟩
   have a:=g t ol;by_cases h:pi t=s;refine Jp ?_ om;unfold GE;rw[ou om,aj,Ku j,aa,S1 a,aa,ou h,aj,SY hn p u,aa];simp only[lP];rw[ot h];rfl;refine(V0 (s':=((P++[t]).length:Int)) ?_).trans ?_;unfold GE;rw[ou om,aj,Ku j,aa,S1 a,aa,ov h,ak,w1 om];simp;grind[lP]
theorem S2{n:Nat}{s:Be}(hn:aq<=n)(a:eJ)(e:bC n):vE n s=some (match gM s with
 | some t=>(gO t,true)
 | none=>(⟨[],[],[],[],[]⟩,false)):=by
 unfold vE;rw[Jkg,aa];have g:jY.length<aq:=by unfold aq;exact oc
 refine je (show _=_ from Jmf (s:=s) hn a e (Ts:=jY) rfl (by grind[Jme]) jY [] n rfl om) _ ?_;grind[gM,Vp,Yy]
def iP(s:Be):Be:=match gM s with
 | some t=>t
 | none=>s
noncomputable def gr(s:Be):Int×Int:=match gM s with
 | some _=>(0,0)
 | none=>dT s
theorem Jim{n:Nat}{s:Be}(hn:aq<=n)(a:eJ)(e:bC n):AL n s=some (gO (iP s),(⟨(gr s).1,0,0,(gr s).2⟩:Qc)):=by
 unfold AL iP gr;rw[S2 hn a e,aa];cases gM s with
 | none=>simp only[];rw[ak,SY hn a e,aa];rfl
 | some t=>rfl
theorem nm0:pi cZ.a0=[101,117,108,101,114]:=oe
theorem nm1:pi cZ.a1=[104,101,117,110]:=oe
theorem nm2:pi cZ.a2=[109,105,100,112,111,105,110,116]:=oe
theorem nm3:pi cZ.a3=[114,107,52]:=oe
theorem nm4:pi cZ.a4=[98,115,50,51]:=oe
theorem nm5:pi cZ.a5=[100,112,52,53]:=oe
theorem Jin{s:Be}(h0:¬ s=[101,117,108,101,114])(a:¬ s=[104,101,117,110])(e:¬ s=[109,105,100,112,111,105,110,116])(g:¬ s=[114,107,52])(j:¬ s=[98,115,50,51])(k:¬ s=[100,112,52,53]):gM s=none:=by unfold gM jY;simp only[lP,nm0,nm1,nm2,nm3,nm4,nm5];grind
def Cp(s:Be):Bool:=match vQ s,gM s with
 | some u,some t=>decide (u≠[]) && (match bG s u with
   | some v=>decide (v=t)
   | none=>false)
 | _,_=>false
theorem Joq:([[101,117,108,101,114],[104,101,117,110],[109,105,100,112,111,105,110,116],[114,107,52],[98,115,50,51],[100,112,52,53]]:List Be).all Cp=true:=oe
theorem Jmg{n:Nat}{s:Be}(hn:aq<=n)(m:bC n):vY n s=some (match gM s with
 | some t=>(fS t,true)
 | none=>(eS,false)):=by
 unfold vY;by_cases a:s∈([[101,117,108,101,114],[104,101,117,110],[109,105,100,112,111,105,110,116],[114,107,52],[98,115,50,51],[100,112,52,53]]:List Be);have h:=uv.1 Joq s a;unfold Cp at h;cases j:vQ s with
 | none=>grind
 | some u=>
   cases k:gM s with
   | none=>grind
   | some t=>
     rw[j,k] at h;simp only[xp] at h;obtain⟨r,e⟩:=h;cases g:bG s u with
     | none=>grind
     | some v=>
       rw[g] at e;have p:=wd e;subst p;rw[aa,ov ol,ak,g,aa,SZ hn m,aa];rfl
 simp_all[Jin,vQ]
theorem S3(t:Be):tS (fS t)=gO t:=by unfold fS gO;split;exact m8 _;rfl
def cc:List Qn->Be->Option Be
 | [],_=>none
 | p::r,nm=>if p.A0=nm then some p.Av else cc r nm
theorem xD(l:List Qn)(nm:Be):mN l nm=some ((cc l nm).getD [],(cc l nm).isSome):=by
 unfold mN;refine JB λf a=>?_;have key:∀(l:List Qn) (i:Nat),(ao f l i ()).bind (aS λ(_:Unit)=>some (([]:Be),false))=some ((cc l nm).getD [],(cc l nm).isSome):=by
  subst a;intro l
  induction l with
  | nil=>intro i;rfl
  | cons p r e=>
    intro i;simp only[ao,cc];by_cases h:p.A0=nm;rw[ou h,aj,aa,ot h];rfl;grind
 grind
def fA(f:Qc):Ks:=⟨f.Az,f.Step,f.Bd,f.At⟩
abbrev du:=Be×Qc
def ey(l:List Qn)(st:du):Jc:=⟨l,st.1,st.2⟩
def dv(l:List Qn)(st:du):Q7:=⟨l.map iz,st.1,fA st.2⟩
theorem xE{n:Nat}{l:List Qn}{st:du}(hn:aq<=n)(x:l.length<=100000)(nm:Be):Vm n (dv l st) nm=some ((cc l nm).getD [],(cc l nm).isSome):=by
 unfold Vm;refine ww λf j=>?_;have key:∀(r P:List Qn) (m:Nat),l=P++r->r.length<m->(ae f m (P.length:Int)).bind (aS λ(_:Unit)=>some (([]:Be),false))=some ((cc r nm).getD [],(cc r nm).isSome):=by
  subst j;intro r
  induction r with
  | nil=>
    intro P m e w;refine je (Jp (t:=Lp.go ()) ?_ om) _ rfl;rw[ov (by show ¬(P.length:Int)<(((l.map iz).length:Nat):Int);grind),ak]
  | cons p r y=>
    intro P m e w;obtain⟨k,rfl⟩:∃ k,m=k+1:=⟨m - 1,om⟩
    have g:l.length=P.length+(r.length+1):=ol
    have v:(dv l st).L[P.length]?=some (iz p):=by show(l.map iz)[P.length]?=_;grind
    have a:(P.length:Int)<(((dv l st).L.length:Nat):Int):=ol
    simp only[cc];by_cases h:p.A0=nm;refine je (Jp (t:=Lp.out (p.Av,true)) ?_ om) _ ?_;simp_all[Ku,iz];rw[ot h];rfl;rw[oq h];refine je ((V0 (s':=((P++[p]).length:Int)) ?_).trans rfl) _ ol;rw[ou a,aj,Ku v,aa,ov (by grind[iz]),ak,w1 om];simp
 have u:l.length<n:=by grind[Nat.lt_of_lt_of_le,aq]
 exact key l [] n rfl u
def dJ(f:Qc):Prop:=f.Az=0->f=⟨0,0,0,0⟩
def cH(st:du)(nm:Be)(f:Qc):du:=if st.2.Az=0 then (if f.Az=0 then st else (nm,f)) else st
theorem kU{st:du}{nm:Be}{f:Qc}(h:dJ st.2)(hf:dJ f):dJ (cH st nm f).2:=by grind[cH]
theorem Cq{st:du}{nm:Be}{f:Qc}(h:(cH st nm f).2.Az=0):st.2.Az=0/\f.Az=0/\cH st nm f=st:=by grind[cH]
theorem S4{f:Qc}(h:dJ f):Ji f (⟨0,0,0,0⟩:Qc)=decide (f.Az=0):=by by_cases hk:f.Az=0;rw[h hk,jp];rfl;obtain⟨a,b,c,d⟩:=f;grind[jq]
section
variable {n:Nat}{l:List Qn}{st:du}{nm:Be}{f:Qc}
theorem qo(h:dJ st.2):Vd (ey l st)=some (!decide (st.2.Az=0)):=by grind[Vd,ey,S4]
theorem mx(h:dJ st.2)(hf:dJ f):Kh (ey l st) nm f=some (ey l (cH st nm f)):=by unfold Kh;simp only[ai];rw[qo h,aa];unfold cH;by_cases hk:st.2.Az=0;rw[ou hk,ow,xn,aj,S4 hf,ot hk];by_cases a:f.Az=0;grind;rw[ov a,xn,aj,oq a];rfl;grind
theorem m9:Jn (dv l st) nm (fA f)=some (dv l (cH st nm f)):=by unfold Jn;simp only[ai];unfold cH;by_cases hk:st.2.Az=0;rw[ou (show(dv l st).F.a0=0 from hk),aj,ot hk];by_cases a:f.Az=0;simp_all[fA];rw[ov (by grind[fA]),xn,aj,oq a];rfl;rw[ov (show ¬(dv l st).F.a0=0 from hk),ak,ak,oq hk]
end
def dq(k:Int×Int):Qc:=⟨k.1,0,0,k.2⟩
theorem qp{k:Int×Int}(h:k.1=0->k.2=0):dJ (dq k):=λq=>by grind[dq]
def cw(l:List Qn):Prop:=l.length<=4000/\∀ p∈l,p.Av.length<=1500
theorem S5{l:List Qn}(h:cw l){nm s:Be}(e:cc l nm=some s):s.length<=1500:=by
 replace h:=h.2
 induction l with
 | nil=>cases e
 | cons p r a=>
   grind[cc]
theorem xF{l:List Qn}(h:cw l){nm s:Be}(e:cc l nm=some s):s.length<=4000:=by grind[Nat.le_trans,S5]
theorem Jip{l:List Qn}(h:cw l){nm:Be}:((cc l nm).getD []).length<=1500:=by
 cases e:cc l nm with
 | none=>simp
 | some s=>exact S5 h e
theorem sZ{l:List Qn}(h:cw l){nm:Be}:((cc l nm).getD []).length<=4000:=by
 cases e:cc l nm with
 | none=>simp
 | some s=>exact xF h e
theorem my(st:du)(nm:Be)(f:Qc)(h:f.Az=0):cH st nm f=st:=by simp_all[cH]
theorem qr{st:du}{nm:Be}{f:Qc}(h:¬ st.2.Az=0):cH st nm f=st:=by simp_all[cH]
section
variable {n:Nat}{l:List Qn}{st:du}
theorem Jor:kR []=(0,0):=oe
def aY(l:List Qn)(nm:Be):Be:=(cc l nm).getD []
theorem Cr(hn:aq<=n)(j:eJ)(m:bC n)(p:cw l)(g:dJ st.2)(nm:Be):
 ∃ v,Wu n (ey l st) nm=some (v,ey l (cH st nm (dq (kR (aY l nm)))))/\(st.2.Az=0->v=dV (lR (aY l nm))):=by
 unfold Wu Xp;rw[show(ey l st).l=l from rfl,xD,aa];simp only[ai];unfold aY;cases e:cc l nm with
 | none=>
   rw[show(Option.isSome (none:Option Be))=false from rfl,xn,aj,aj,aa];exact⟨_,by rw[show(none:Option Be).getD []=[] from rfl,Jor,my st nm _ rfl],λ_=>oe⟩
 | some s=>
   have a:=xF p e;rw[show(Option.isSome (some s))=true from rfl,ow,ak,qo g,aa];by_cases hk:st.2.Az=0;rw[ou hk,ow,ak,show(some s).getD []=s from rfl,Lk hn j m a,aa];have:=mx (l:=l) (nm:=nm) g (qp (k:=kR s) w8.2.2.2);simp_all[dq];simp_all[qr]
theorem jt(hn:aq<=n)(e:bC n)(a:cw l)(nm:Be):
 V7 n (dv l st) nm=some (rR (lR (aY l nm)),dv l (cH st nm (dq (kR (aY l nm))))):=by
 unfold V7;rw[xE hn (by have:=a.1;omega),aa];simp only[];rw[show(cc l nm).getD []=aY l nm from rfl,F8 (s:=aY l nm) hn e (sZ a),aa];simp only[];rw[show(⟨(kR (aY l nm)).1,0,0,(kR (aY l nm)).2⟩:Ks)=fA (dq (kR (aY l nm))) from rfl,m9,aa]
def jZ(l:List Qn)(nm:Be):Int×Int:=match cc l nm with
 | none=>(0,0)
 | some s=>kF s
def ja(l:List Qn)(nm:Be)(q:Rat):Rat:=match cc l nm with
 | none=>q
 | some s=>qF s
theorem Lw(l:List Qn)(nm:Be):dJ (dq (jZ l nm)):=by grind[qp,jZ,Lj]
theorem Jki(hn:aq<=n)(j:eJ)(k:bC n)(m:cw l)(p:dJ st.2)(nm:Be)(q:Rat):
 ∃ v,Km n (ey l st) nm (ce q)=some (v,ey l (cH st nm (dq (jZ l nm))))/\(st.2.Az=0->(jZ l nm).1=0->v=ce (ja l nm q)):=by
 have g:=Lw l nm;unfold Km Xg;rw[show(ey l st).l=l from rfl,xD,aa];simp only[ai];unfold jZ ja at *;cases e:cc l nm with
 | none=>
   rw[show(Option.isSome (none:Option Be))=false from rfl,xn,aj,aj,aa];exact⟨_,by rw[my st nm _ rfl],oh⟩
 | some s=>
   rw[e] at g;have a:=xF m e;rw[show(Option.isSome (some s))=true from rfl,ow,ak,qo p,aa];by_cases hk:st.2.Az=0;obtain⟨x,r,u⟩:=Lh (n:=n) hn (s:=s) a (j s a) k;simp_all[mx,dq];simp_all[qr]
theorem Jkj(hn:aq<=n)(k:bC n)(g:cw l)(nm:Be)(q:Rat):
 ∃ v,J7 n (dv l st) nm (rF q)=some (v,dv l (cH st nm (dq (jZ l nm))))/\((jZ l nm).1=0->v=rF (ja l nm q)):=by
 unfold J7;rw[xE hn (by have:=g.1;omega),aa];unfold jZ ja;cases e:cc l nm with
 | none=>
   simp only[];rw[show(Option.isSome (none:Option Be))=false from rfl,xn,aj];exact⟨_,by rw[my st nm _ rfl],λ_=>rfl⟩
 | some s=>
   have a:=xF g e;simp only[];obtain⟨y,j,m⟩:=F7 (n:=n) hn (s:=s) a k;rw[show(Option.isSome (some s))=true from rfl,ow,ak,show(some s).getD []=s from rfl,j,aa];simp only[];rw[show(⟨(kF s).1,0,0,(kF s).2⟩:Ks)=fA (dq (kF s)) from rfl,m9,aa];grind
end
def hZ:Be->Nat
 | []=>0
 | c::r=>if cW c.toNat then 1+hZ r else if c.toNat=35 then 1+(r.takeWhile (λb=>b.toNat≠10)).length+hZ (r.dropWhile (λb=>b.toNat≠10)) else 0
termination_by s=>s.length
decreasing_by
 all_goals grind[pb]
theorem GG(c:UInt8)(r:Be):hZ (c::r)=if cW c.toNat then 1+hZ r else if c.toNat=35 then 1+(r.takeWhile (λb=>b.toNat≠10)).length+hZ (r.dropWhile (λb=>b.toNat≠10)) else 0:=by rw[hZ]
theorem GH:hZ []=0:=by rw[hZ]
theorem GI{α:Type}(p:α->Bool):∀(l:List α),l.drop (l.takeWhile p).length=l.dropWhile p
 | []=>rfl
 | x::l=>by
   rw[xj,vp];cases p x with
   | true=>simp[GI p l]
   | false=>rfl
theorem S6(p:α->Bool)(l:List α):(l.takeWhile p).length+(l.dropWhile p).length=l.length:=by rw[<-xo,List.takeWhile_append_dropWhile]
theorem Lz:∀(m:Nat) (s:Be),s.length<=m->hZ s<=s.length
 | _,[],_=>by simp[GH]
 | 0,_::_,h=>by simp at h
 | m+1,c::r,h=>by rw[GG];simp only[xd] at h |-;split;have:=Lz m r om;omega;split;have a:=S6 (λb:UInt8=>decide (b.toNat≠10)) r;have:=Lz m (r.dropWhile (λb=>b.toNat≠10)) om;omega;omega
theorem LA:∀(m:Nat) (s:Be),s.length<=m->∀ c r,s.drop (hZ s)=c::r->cW c.toNat=false/\c.toNat≠35
 | _,[],_=>oh
 | 0,_::_,h=>by simp at h
 | m+1,x::s,h=>by intro c r hd;rw[GG] at hd;simp only[xd] at h;by_cases a:cW x.toNat=true;rw[ot a,Nat.add_comm,vo] at hd;exact LA m s om c r hd;rw[oq a] at hd;by_cases e:x.toNat=35;rw[ot e,show 1+(s.takeWhile (λb=>decide (b.toNat≠10))).length+hZ (s.dropWhile (λb=>decide (b.toNat≠10)))=((s.takeWhile (λb=>decide (b.toNat≠10))).length+hZ (s.dropWhile (λb=>decide (b.toNat≠10))))+1 by omega,vo,<-ue,GI] at hd;exact LA m _ (by have:=pb (λb:UInt8=>decide (b.toNat≠10)) s;omega) c r hd;grind
theorem LC:∀(m:Nat) (s:Be) (i:Nat),s.length<=m->bt s i=bt (s.drop (hZ s)) (i+hZ s)
 | _,[],i,_=>by simp[GH]
 | 0,_::_,_,h=>by simp at h
 | m+1,c::s,i,h=>by simp only[xd] at h;rw[GG];by_cases a:cW c.toNat=true;rw[ot a,pc,ot a,LC m s (i+1) om,show 1+hZ s=hZ s+1 by omega,vo];grind;rw[oq a];by_cases e:c.toNat=35;rw[ot e,pc,oq a,ot e,LC m _ _ (by have:=pb (λb:UInt8=>decide (b.toNat≠10)) s;omega)];grind[List.drop_drop,GI];grind
theorem S7{n:Nat}{s:Be}(hn:aq<=n)(G:s.length<=4000){i:Nat}(hi:i<=s.length):p4 n s (i:Int)=some ((i+hZ (s.drop i):Nat):Int):=by
 unfold p4;unfold aq at hn;refine ww λf x=>?_;have key:∀(m i k:Nat),(s.drop i).length<=m->i<=s.length->m<k->(ae f k (i:Int)).bind (aS λ(t21:Int)=>some t21)=some ((i+hZ (s.drop i):Nat):Int):=by
  subst x;intro m
  induction m with
  | zero=>
    intro i k u hi hk;have B:i=s.length:=by simp at u;omega
    simp_all[Jp,Vp,GH]
  | succ m w=>
    intro i k u hi hk;obtain⟨k,rfl⟩:∃ F,k=F+1:=⟨k - 1,om⟩
    by_cases r:i<s.length;have hd:s.drop i=s[i]::s.drop (i+1):=oh
    rw[hd,GG];have v:(s.drop (i+1)).length<=m:=by simp at u |-;omega
    by_cases p:cW (s[i]).toNat=true;rw[ot p,V0 (s':=((i+1:Nat):Int)),w (i+1) k v om om];congr 2;omega;simp only[ap,ai];rw[ot om,jL r,aa];have y:(s[i]).toNat=32\/(s[i]).toNat=9\/(s[i]).toNat=10\/(s[i]).toNat=13:=by simpa [cW] using p
    rw[w1 om];grind;rw[oq p];have y:¬((s[i]).toNat=32\/(s[i]).toNat=9\/(s[i]).toNat=10\/(s[i]).toNat=13):=by simpa [cW] using p
    by_cases g:(s[i]).toNat=35;rw[ot g];have j:Yv (s.drop i) [10]=some (cJ 10 (s.drop i)):=by show(if (s.drop i).length<4294967281 then some (cJ (UInt8.toNat 10) (s.drop i)) else none)=_;rw[ot oj];rfl
    have a:(cJ 10 (s.drop i)).1.length=1+((s.drop (i+1)).takeWhile (λb=>decide (b.toNat≠10))).length:=by rw[hd];unfold cJ bw;simp only[xj,g];simp;omega
    have C:=S6 (λb:UInt8=>decide (b.toNat≠10)) (s.drop (i+1));have A:(s.drop (i+1)).length=s.length - (i+1):=oh
    rw[V0 (s':=((i+(cJ 10 (s.drop i)).1.length:Nat):Int)),w _ k (by rw[yh,a];omega) (by rw[a];omega) om];have e:s.drop (i+(cJ 10 (s.drop i)).1.length)=(s.drop (i+1)).dropWhile (λb=>decide (b.toNat≠10)):=by rw[a,<-GI,ue];congr 1;omega
    rw[e,a];congr 2;omega;simp only[ap,ai];rw[ot om,jL r,aa,oq om,oq om,oq om];rw[oq om,ot g,Z1 om oh,yp,aa,j,aa,aK om (by rw[a];omega)];congr 2;rw[oq g,Jp (t:=Lp.out (i:Int)) _ om,aa,Yy];rfl;simp only[ap,ai];rw[ot om,jL r,aa,oq om,oq om,oq om];rw[oq om,oq g];grind
 grind
def bg(w:Qf):Qm:=⟨w.Az,w.Av,w.At⟩
def na(p:Int):Qc:=⟨1,0,0,p⟩
def ju(out:List Qm):List Qf ⊕ Nat->List Qm×Qc
 | .inl ws=>(out++ws.map bg,⟨0,0,0,0⟩)
 | .inr p=>([],na p)
theorem Jgn(out w x):ju out (hO w x)=ju (out++[bg w]) x:=by grind[ju,hO]
theorem Q9z{n:Nat}{s:Be}(hn:aq<=n)(P:s.length<=9223372036854775807):zu n s=some (if 4000<s.length then ([],na 4000) else ju [] (bt s 0)):=by
 unfold zu;simp only[ap];by_cases H:4000<s.length;rw[ot om,ot H];rfl;rw[oq om,oq H];have B:=hn;unfold aq at B;have p:s.length<=4000:=om
 have h0:=S7 hn p (i:=0) oh;rw[List.drop_zero,xx] at h0;have r:p4 n s 0=some ((hZ s:Nat):Int):=h0;rw[r,aa];refine ww λf J=>?_
 have key:∀(m i k:Nat) (out:List Qm),(s.drop i).length<=m->i<=s.length->out.length<=i->m<k->(ae f k (out,((i+hZ (s.drop i):Nat):Int))).bind (aS λ(G:(List Qm))=>
  some (G,(⟨0,0,0,0⟩:Qc)))=some (ju out (bt (s.drop i) i)):=by
  subst J;intro m
  induction m with
  | zero=>
    intro i k out A hi _ hk;have N:i=s.length:=by simp at A;omega
    simp_all[GH,Jp,Vp,ql,ju]
  | succ m Q=>
    intro i k out A hi U hk;obtain⟨k,rfl⟩:∃ R,k=R+1:=⟨k - 1,om⟩
    rw[LC _ (s.drop i) i (xe _),ue];have y:=Lz _ (s.drop i) (xe _);have a:=LA _ (s.drop i) (xe _);rw[ue] at a;rw[yh] at y;generalize S:i+hZ (s.drop i)=j at a |-;have O:i<=j:=om
    have w:j<=s.length:=om
    by_cases x:j<s.length;have hd:s.drop j=s[j]::s.drop (j+1):=oh
    obtain⟨L,u⟩:=a _ _ hd;rw[hd,pc,oq (by simp[L]),oq u];by_cases e:aD (s[j]).toNat=0;rw[ot e,Jp (t:=Lp.out (([]:List Qm),(⟨1,0,0,(j:Int)⟩:Qc))) _ om,aa,Yy];rfl;simp only[];rw[ot om,jL x,aa,FI hn,aa,ot e];rw[oq e];have M:(s.drop j).length=s.length - j:=oh
    have hf:rO n (s.drop j) (aD (s[j]).toNat)=some (((1+(bh (aD (s[j]).toNat) (s.drop (j+1))).length:Nat)):Int):=by rw[Sb hn om,hd];rfl
    have F:(bh (aD (s[j]).toNat) (s.drop (j+1))).length<=s.length - (j+1):=by grind[n4,bh]
    have g:sub s (j:Int) (s.length:Int)=some (s.drop j):=by rw[Z1 w oh,yp]
    generalize K:(bh (aD (s[j]).toNat) (s.drop (j+1))).length=T at hf F;by_cases hmost:bm (aD (s[j]).toNat)<1+T;rw[ot hmost,Jp (t:=Lp.out (([]:List Qm),(⟨1,0,0,((j+bm (aD (s[j]).toNat):Nat):Int)⟩:Qc))) _ om,aa,Yy];rfl;simp only[];have:=Cc (aD (s[j]).toNat);rw[ot om,jL x,aa,FI hn,aa,oq e,g,aa,hf,aa,KO,aa,ot om,aa,aK om om];congr 5;rw[oq hmost];have C:((j:Int)+((1+T:Nat):Int))=((j+1+T:Nat):Int):=om
    have htext:(s.take (j+1+T)).drop j=s[j]::bh (aD (s[j]).toNat) (s.drop (j+1)):=by
     have I:bh (aD (s[j]).toNat) (s.drop (j+1))=(s.drop (j+1)).take T:=by rw[<-K];exact B9 _ _
     rw[I,List.drop_take,hd,show j+1+T - j=T+1 by omega];rfl
    have hstep:p4 n s ((j+1+T:Nat):Int)=some ((j+1+T+hZ (s.drop (j+1+T)):Nat):Int):=S7 hn p om;rw[V0 (s':=(out++[bg ⟨aD (s[j]).toNat,s[j]::bh (aD (s[j]).toNat) (s.drop (j+1)),(j:Int)⟩],((j+1+T+hZ (s.drop (j+1+T)):Nat):Int)))];rw[Q (j+1+T) k _ (by simp at A |-;omega) om oj om,Jgn,ue];simp only[];rw[ot om,jL x,aa,FI hn,aa,oq e,g,aa,hf,aa,KO,aa,oq om,C,aK om om,Z1 om om,aa,htext];rw[Jv ol ol,aa,hstep,aa];rfl;have v:j=s.length:=om
    subst v;simp[ql,Jp,Vp,ju]
 have hk:=key s.length 0 n [] oh oh oh om;grind
def aZ(W:List Qm)(i:Nat):Qm:=(W[i]?).getD ⟨0,[],0⟩
def jb(W:List Qm)(E:Int)(i:Nat):Int:=(W[i]?.map (·.At)).getD E
def gE(W:List Qm):Prop:=W.length<=4000/\∀ w∈W,dp w.Az w.Av=true
theorem S8{W:List Qm}{i:Nat}(h:i<W.length):aZ W i∈W:=by grind[aZ]
theorem xG{W:List Qm}{i:Nat}(h:W.length<=i):aZ W i=⟨0,[],0⟩:=by grind[aZ]
theorem Jmh{W:List Qm}{i:Nat}(h:i<W.length):ah W (i:Int)=some (aZ W i):=by grind[Wx,aZ]
theorem bJ{W:List Qm}{i:Nat}{t:Be}(a:t≠[])(h:(aZ W i).Av=t):i<W.length:=by grind[xG]
theorem qs{W:List Qm}{i:Nat}(h:(aZ W i).Az≠0):i<W.length:=by grind[xG]
theorem gt{i:Nat}(h:i<=100000):wrap64 ((i:Int)+1)=((i+1:Nat):Int):=w1 om
section
variable {W:List Qm}{E d:Int}{Nm:List Be}{i:Nat}
theorem GJ(_:i<=100000):X4 W (i:Int) E d Nm=some (aZ W i):=by simp_all[X4,ap,Jmh,xG]
theorem Z6(hi:i<=100000)(t:Be):J3 W (i:Int) E d Nm t=some (decide ((aZ W i).Av=t),W,(if (aZ W i).Av=t then ((i+1:Nat):Int) else (i:Int)),E,d):=by unfold J3;rw[GJ hi,aa,bB];grind[gt]
theorem ta:Xf W (i:Int) E d Nm=some (.error (na (jb W E i))):=by
 unfold Xf;simp only[ai,ap];by_cases h:i<W.length
 all_goals simp_all[Wx,jb,na,oq]
end
theorem iQ(a:ε->Option R)(k:α->Option R)(x:α):(some (Except.ok x)).bind (cI a k)=k x:=oe
theorem ka(a:ε->Option R)(k:α->Option R)(e:ε):(some (Except.error e)).bind (cI a k)=a e:=oe
theorem LD(a:ε->Option R)(k:α->Option R)(x:α):cI a k (Except.ok x)=k x:=oe
theorem LE(a:ε->Option R)(k:α->Option R)(e:ε):cI a k (Except.error e)=a e:=oe
def lQ{α β:Type}(f:α->β):Except Int α->Option (Except Qc β)
 | .ok x=>some (.ok (f x))
 | .error p=>some (.error (na p))
theorem Xs(f:α->β)(x):lQ f (.ok x)=some (.ok (f x)):=oe
theorem im(f:α->β)(p):lQ f (.error p)=some (.error (na p)):=oe
def gu{α β:Type}(x:Except Int α)(k:α->Except Int β):Except Int β:=match x with
 | .ok x=>k x
 | .error p=>.error p
theorem Vx(x:α)(k:α->Except Int β):gu (.ok x) k=k x:=oe
theorem Wg(p:Int)(k:α->Except Int β):gu (.error p) k=.error p:=oe
def bn(W:List Qm)(E:Int)(t:Be)(i:Nat):Except Int Nat:=if (aZ W i).Av=t then .ok (i+1) else .error (jb W E i)
def bW(W:List Qm)(E:Int)(i:Nat):Except Int (Int×Nat):=if (aZ W i).Az≠1\/3<((aZ W i).Av).length then .error (jb W E i) else .ok ((aE ((aZ W i).Av) 0:Nat),i+1)
def eY(W:List Qm)(E:Int)(op:Int)(i:Nat):Except Int (List Qi×Nat):=
 gu (bn W E [91] (i+1)) λj=>gu (bW W E j) λv=>gu (bn W E [93] v.2) λj=>.ok ([⟨op,v.1,[]⟩],j)
def gP(s:Be):Bool:=decide (s=[116]\/s=[121]\/s=[112]\/s=[108,101,116])
def fF(W:List Qm)(E:Int)(i:Nat):Except Int (Be×Nat):=if (aZ W i).Az≠2\/gP ((aZ W i).Av)=true then .error (jb W E i) else .ok ((aZ W i).Av,i+1)
def io:List Be->Be->Nat->Int
 | [],_,_=>-1
 | x::l,s,i=>if x=s then (i:Int) else io l s (i+1)
section
variable {W:List Qm}{E d:Int}{Nm:List Be}{i:Nat}
theorem tb(hi:i<=100000)(t:Be):Kf W (i:Int) E d Nm t=lQ (λj:Nat=>(W,(j:Int),E,d)) (bn W E t i):=by unfold Kf bn;rw[Z6 hi,aa,bB];by_cases h:(aZ W i).Av=t;simp only[ot h];rfl;simp only[oq h];rw[ta,ka];rfl
theorem Jkk{w:Qm}(h:dp w.Az w.Av=true)(hk:w.Az=1):fR w.Av/\w.Av≠[]/\w.Av.length<=60:=by
 cases m:w.Av with
 | nil=>grind[dp]
 | cons c r=>
   rw[m] at h;obtain⟨_,a,j,k⟩:=(sN _ _ _).1 h;rw[hk] at a j k;have hd:∀ c:Nat,gI c=true->48<=c/\c<=57:=by grind[gI]
   refine⟨λb e=>?_,oh,?_⟩;rcases xk.1 e with rfl | e;refine hd _ ?_;unfold aD at a;by_cases g:gI b.toNat=true;exact g;rw[oq g] at a;split at a;omega;split at a<;>omega;grind[gm];grind[bm]
theorem iB(hW:gE W)(hk:(aZ W i).Az=1):fR ((aZ W i).Av)/\(aZ W i).Av≠[]/\((aZ W i).Av).length<=60:=
 Jkk (hW.2 _ (by grind[S8,qs])) hk
theorem Jiq:∀ {s:Be}{v:Nat},fR s->v<1000000000->s.length<=3->Lib.parseUint10 v s=.ok (aE s v)
 | [],v,_,_,_=>oe
 | c::r,v,a,g,e=>by
   have ⟨h1,h2⟩:=a c (.head _);unfold Lib.parseUint10 aE;simp only[xd] at e;rw[ot ⟨h1,h2⟩,oq om,oq om];cases r with
   | nil=>rfl
   | cons c2 r=>
     have ⟨h3,h4⟩:=a c2 oh;unfold Lib.parseUint10 aE;simp only[xd] at e;rw[ot ⟨h3,h4⟩,oq om,oq om];cases r with
     | nil=>rfl
     | cons c3 r=>
       have ⟨h5,h6⟩:=a c3 oh;unfold Lib.parseUint10 aE;simp only[xd] at e;rw[ot ⟨h5,h6⟩,oq om,oq om];grind[Lib.parseUint10,aE]
theorem nb{s:Be}(a:fR s)(e:s.length<=3):aE s 0<1000:=by have h:=wQ a 0 0 (by grind[jM]);have:=fh (show 0+s.length<=3 by omega);grind[tp]
theorem Jir{s:Be}(a:fR s)(g:s≠[])(e:s.length<=3):yY s=some (((aE s 0:Nat):Int),false):=by
 have j:=nb a e;have k:Lib.atoiAll s=.ok (aE s 0:Nat):=by
  cases s with
  | nil=>exact by grind
  | cons c r=>
    have m:=a c (.head _);unfold Lib.atoiAll;simp only[];rw[oq om];unfold Lib.parseMag;rw[oq oh,Jiq a om e];simp only[];rw[oq om,oq om,oq om]
 grind[yY]
theorem S9(hi:i<=100000)(hW:gE W):Zo W (i:Int) E d Nm=lQ (λv:Int×Nat=>(v.1,W,(v.2:Int),E,d)) (bW W E i):=by unfold Zo bW;rw[GJ hi,aa];simp only[ai,bB];by_cases hk:(aZ W i).Az=1;obtain⟨e,a,_⟩:=iB hW hk;rw[ot hk];by_cases g:3<((aZ W i).Av).length;rw[ot (.inr g),ou om,aj,ta,ka,im];rw[oq om,ov om,ak,Jir e a om,aa,gt hi,Xs];rw[oq hk,ot (.inl hk),aj,ta,ka,im]
theorem GK{v:Int×Nat}(h:bW W E i=.ok v):v.2=i+1/\i<W.length:=by unfold bW at h;split at h;cases h;rename_i a;cases h;simp_all[qs]
theorem jv{t:Be}{j:Nat}(e:t≠[])(h:bn W E t i=.ok j):j=i+1/\i<W.length:=by unfold bn at h;split at h;rename_i a;cases h;exact⟨rfl,bJ e a⟩;grind
theorem Ta(hi:i<=90000)(hW:gE W)(op:Int):Yk W (i:Int) E d Nm op=lQ (λv:List Qi×Nat=>(v.1,W,(v.2:Int),E,d)) (eY W E op i):=by
 have g:=hW.1;unfold Yk eY;rw[gt om,tb om];cases a:bn W E [91] (i+1) with
 | error p=>rfl
 | ok j=>
   obtain⟨rfl,_⟩:=jv oh a;rw[Xs,iQ,Vx];simp only[];rw[S9 om hW];cases e:bW W E (i+1+1) with
   | error p=>rfl
   | ok v=>
     obtain⟨k,_⟩:=GK e;grind[Xs,iQ,Vx,tb,bn,im,ka,Wg]
theorem Tb{v:List Qi×Nat}(h:eY W E op i=.ok v)(_:i<W.length):i<v.2/\v.2<=W.length/\v.1.length=1:=by
 unfold eY at h;cases a:bn W E [91] (i+1) with
 | error p=>grind[Wg]
 | ok j=>
   rw[a,Vx] at h;obtain⟨rfl,_⟩:=jv oh a;cases e:bW W E (i+1+1) with
   | error p=>grind[Wg]
   | ok w=>
     rw[e,Vx] at h;obtain⟨k,_⟩:=GK e;cases g:bn W E [93] w.2 with
     | error p=>grind[Wg]
     | ok j=>
       rw[g,Vx] at h;obtain⟨rfl,_⟩:=jv oh g;grind
theorem Q90(s:Be):zv s=some (gP s):=by unfold zv gP;simp only[ai,ap];grind
theorem Tc(hi:i<=100000):X5 W (i:Int) E d Nm=lQ (λv:Be×Nat=>(v.1,W,(v.2:Int),E,d)) (fF W E i):=by unfold X5 fF;rw[GJ hi,aa];simp only[ai,bB,Q90,aa];by_cases hk:(aZ W i).Az=2;rw[ot hk];by_cases a:gP ((aZ W i).Av)=true;rw[ot (.inr a),a,aj,ta,ka,im];simp_all[gt,Xs];rw[oq hk,ot (.inl hk),aj,ta,ka,im]
theorem GL{v:Be×Nat}(h:fF W E i=.ok v):v.2=i+1/\i<W.length/\v.1=(aZ W i).Av:=by unfold fF at h;split at h;cases h;rename_i a;cases h;simp_all[qs]
theorem Jgo{x a b c:_}(s:Be):zw x a b c Nm s=some (io Nm s 0):=by
 unfold zw;refine JB λf e=>?_;have key:∀(l:List Be) (k:Nat),(ao f l k ()).bind (aS λ(_:Unit)=>some (-1))=some (io l s k):=by
  subst e;intro l
  induction l with
  | nil=>intro k;rfl
  | cons x l g=>
    intro k;simp only[ao,ap,io];by_cases h:x=s
    all_goals simp_all[Yy,ap]
 grind
theorem LF(hi:1<=i)(a:i<=100000)(e:r<=40):uT W (i:Int) E ((40 - r:Nat):Int) Nm=lQ (λ_:Unit=>(W,(i:Int),E,((40 - r:Nat):Int)+1)) (if r=0 then .error (jb W E (i - 1)) else .ok ()):=by unfold uT;simp only[ai,ap];by_cases h:r=0;subst h;rw[ot om,ot rfl,aK om om,show(i:Int) - 1=((i - 1:Nat):Int) by omega,ta,ka,im];rw[oq om,oq h,aK om om,Xs]
end
abbrev fg:=Except Int (List Qi×Nat)
def eZ(W:List Qm)(E:Int)(Nm:List Be)(r:Nat)(ex:Nat->fg)(i:Nat):fg:=
 if (aZ W i).Az=1 then .ok ([⟨1,0,ay (aE ((aZ W i).Av) 0)⟩],i+1)
 else if (aZ W i).Av=[116] then .ok ([⟨2,0,[]⟩],i+1)
 else if (aZ W i).Av=[121] then eY W E 3 i
 else if (aZ W i).Av=[112] then eY W E 4 i
 else if (aZ W i).Av=[40] then (if r=0 then .error (jb W E i) else gu (ex (i+1)) λv=>gu (bn W E [41] v.2) λj=>.ok (v.1,j))
 else gu (fF W E i) λv=>.ok ([⟨5,io Nm v.1 0,[]⟩],v.2)
def gQ(W:List Qm)(E:Int)(at_:Nat->fg)(i:Nat):fg:=
 gu (at_ i) λv=>if (aZ W v.2).Av=[94] then gu (bW W E (if (aZ W (v.2+1)).Av=[45] then v.2+1+1 else v.2+1)) λe=>.ok (v.1++[⟨11,if (aZ W (v.2+1)).Av=[45] then -e.1 else e.1,[]⟩],e.2) else .ok v
def cj(W:List Qm)(p:Nat->fg)(a b:Be)(oa ob:Int):Nat->List Qi->Nat->fg
 | 0,c,j=>.ok (c,j)
 | k+1,c,j=>if (aZ W j).Av=a then gu (p (j+1)) λv=>cj W p a b oa ob k (c++v.1++[⟨oa,0,[]⟩]) v.2
   else if (aZ W j).Av=b then gu (p (j+1)) λv=>cj W p a b oa ob k (c++v.1++[⟨ob,0,[]⟩]) v.2 else .ok (c,j)
def db(W:List Qm)(p:Nat->fg)(a b:Be)(oa ob:Int)(i:Nat):fg:=gu (p i) λv=>cj W p a b oa ob W.length v.1 v.2
def kV(W:List Qm)(f:Nat->fg)(i:Nat):fg:=db W f [42] [47] 9 10 i
def n6(W:List Qm)(f:Nat->fg)(i:Nat):fg:=db W (kV W f) [43] [45] 7 8 i
def ck(W:List Qm)(E:Int)(Nm:List Be):Nat->Nat->fg
 | 0,i=>if (aZ W i).Av=[45] then .error (jb W E i) else gQ W E (eZ W E Nm 0 (λ_=>.error 0)) i
 | r+1,i=>if (aZ W i).Av=[45] then gu (ck W E Nm r (i+1)) λv=>.ok (v.1++[⟨6,0,[]⟩],v.2) else gQ W E (eZ W E Nm (r+1) (n6 W (ck W E Nm r))) i
def PO(W:List Qm)(p:Nat->fg):Prop:=∀ i v,p i=.ok v->i<v.2/\v.2<=W.length/\v.1.length+i<=v.2/\1<=v.1.length
section
variable {W:List Qm}{E:Int}{Nm:List Be}
theorem Vq{x:Except Int α}{k:α->Except Int β}{y:β}(h:gu x k=.ok y):∃ v,x=.ok v/\k v=.ok y:=by
 cases x with
 | ok v=>exact⟨v,rfl,h⟩
 | error p=>cases h
theorem xH{ex:Nat->fg}(B:r≠0->PO W ex):PO W (eZ W E Nm r ex):=by
 intro i v h;unfold eZ at h;by_cases a:(aZ W i).Az=1;rw[ot a] at h;have:=qs (W:=W) (i:=i) (by rw[a];decide);grind;rw[oq a] at h;by_cases e:(aZ W i).Av=[116]
 rw[ot e] at h;have:=bJ oh e;grind;rw[oq e] at h;by_cases k:(aZ W i).Av=[121]
 rw[ot k] at h;have:=Tb h (bJ oh k);omega;rw[oq k] at h;by_cases m:(aZ W i).Av=[112]
 rw[ot m] at h;have:=Tb h (bJ oh m);omega;rw[oq m] at h;by_cases x:(aZ W i).Av=[40]
 rw[ot x] at h;by_cases p:r=0;rw[ot p] at h;cases h;rw[oq p] at h;obtain⟨u,w,h⟩:=Vq h;obtain⟨j,A,h⟩:=Vq h;have g:=B p _ _ w;obtain⟨rfl,y⟩:=jv oh A;grind;rw[oq x] at h;obtain⟨u,w,h⟩:=Vq h;obtain⟨g1,y,g3⟩:=GL w;grind
theorem Td{p:Nat->fg}(k:PO W p):PO W (gQ W E p):=by
 intro i v h;unfold gQ at h;obtain⟨u,m,h⟩:=Vq h;have g:=k _ _ m;by_cases a:(aZ W u.2).Av=[94]
 rw[ot a] at h;obtain⟨e,j,h⟩:=Vq h;obtain⟨g1,r⟩:=GK j;grind;grind
theorem LG{p:Nat->fg}(e:PO W p){a b:Be}{oa ob:Int}:∀(k:Nat) (c:List Qi) (j i:Nat) (v),i<j->j<=W.length->c.length+i<=j->1<=c.length->cj W p a b oa ob k c j=.ok v->i<v.2/\v.2<=W.length/\v.1.length+i<=v.2/\1<=v.1.length
 | 0,c,j,i,v,r,w,x,y,h=>by grind[cj]
 | k+1,c,j,i,v,r,w,x,y,h=>by unfold cj at h;split at h;obtain⟨u,m,h⟩:=Vq h;have g:=e _ _ m;exact LG e k _ _ i v om g.2.1 ol ol h;split at h;obtain⟨u,m,h⟩:=Vq h;have g:=e _ _ m;exact LG e k _ _ i v om g.2.1 ol ol h;grind
theorem GM{p:Nat->fg}(e:PO W p):PO W (db W p a b oa ob):=by intro i v h;unfold db at h;obtain⟨u,j,h⟩:=Vq h;have g:=e _ _ j;exact LG e _ _ _ i v g.1 g.2.1 g.2.2.1 g.2.2.2 h
theorem xI{f:Nat->fg}(hf:PO W f):PO W (n6 W f):=GM (GM hf)
theorem lS:∀(r:Nat),PO W (ck W E Nm r)
 | 0=>λi v h=>by unfold ck at h;split at h;cases h;exact Td (xH oh) i v h
 | r+1=>λi v h=>by unfold ck at h;split at h;rename_i e;obtain⟨u,a,h⟩:=Vq h;have g:=lS r _ _ a;grind;exact Td (xH λ_=>xI (lS r)) i v h
end
abbrev pj:=List Qm->Int->Int->Int->List Be->Option (Except Qc (List Qi×List Qm×Int×Int×Int×List Be))
def fT(W:List Qm)(E d:Int)(Nm:List Be)(v:List Qi×Nat):List Qi×List Qm×Int×Int×Int×List Be:=(v.1,W,(v.2:Int),E,d,Nm)
def Rd(W:List Qm)(E d:Int)(Nm:List Be)(m:pj)(p:Nat->fg):Prop:=∀ i:Nat,i<=W.length->m W (i:Int) E d Nm=lQ (fT W E d Nm) (p i)
section
variable {W:List Qm}{E:Int}{Nm:List Be}
theorem Te(v:Nat):aN (ay v)=ay v:=by simp[P5]
theorem Tf{me:pj}{n:Nat}{ex:Nat->fg}(hn:aq<=n)(hW:gE W)(C:r<=40)(G:r≠0->Rd W E ((40 - r:Nat)+1:Int) Nm me ex)(B:r≠0->PO W ex):
 Rd W E ((40 - r:Nat):Int) Nm (uU me n) (eZ W E Nm r ex):=by
 intro i hi;have y:=hW.1;unfold uU eZ;rw[GJ om,aa];simp only[ap];by_cases e:(aZ W i).Az=1;obtain⟨H,A,J⟩:=iB hW e;rw[ot e,ot e,B5 hn (by grind[maxLen])];have F:aw (aZ W i).Av=-1:=by simp_all[Jgf]
 rw[oq om];rw[aa];simp only[];rw[W2 hn (by grind[lL]),aa,Te,gt om,Xs];rfl;rw[oq e,oq e];by_cases m:(aZ W i).Av=[116]
 rw[ot m,ot m,gt om,Xs];rfl;rw[oq m,oq m];by_cases u:(aZ W i).Av=[121]
 rw[ot u,ot u,Ta om hW];cases eY W E 3 i with
 | error p=>rfl
 | ok v=>rfl
 rw[oq u,oq u];by_cases w:(aZ W i).Av=[112]
 rw[ot w,ot w,Ta om hW];cases eY W E 4 i with
 | error p=>rfl
 | ok v=>rfl
 rw[oq w,oq w,Z6 om,aa];by_cases k:(aZ W i).Av=[40]
 simp only[ot k,ou k,aj];rw[LF om om C];by_cases a:r=0;rw[ot a,ot a,im,ka,im];rfl;rw[oq a,oq a,Xs,iQ];simp only[];rw[G a (i+1) (bJ oh k)];cases x:ex (i+1) with
 | error p=>rfl
 | ok v=>
   have g:=B a _ _ x;rw[Xs,iQ,Vx];simp only[fT];rw[tb om];cases I:bn W E [41] v.2 with
   | error p=>rfl
   | ok j=>rw[Xs,iQ,Vx,Xs];simp only[fT];rw[aK om om,Int.add_sub_cancel]
 simp only[oq k,ov k,ak];rw[Tc om];cases x:fF W E i with
 | error p=>rfl
 | ok v=>rw[Xs,iQ,Vx];simp only[];rw[Jgo,aa,Xs];rfl
theorem LH(hW:gE W){i:Nat}{e:Int×Nat}(a:bW W E i=.ok e):0<=e.1/\e.1<1000:=by
 unfold bW at a;by_cases g:(aZ W i).Az≠1\/3<(aZ W i).Av.length;grind;rw[oq g] at a;cases a;have hk:(aZ W i).Az=1:=om
 grind[nb,iB]
theorem Tg{me:pj}{n:Nat}{d:Int}{p:Nat->fg}(hW:gE W)(h:Rd W E d Nm (uU me n) p)(r:PO W p):Rd W E d Nm (zz me n) (gQ W E p):=by
 intro i hi;have k:=hW.1;unfold zz gQ;rw[h i hi];cases w:p i with
 | error p=>rfl
 | ok v=>
   have g:=r _ _ w;rw[Xs,iQ,Vx];simp only[fT];rw[Z6 om,aa,bB];by_cases a:(aZ W v.2).Av=[94]
   simp only[ot a];rw[Z6 om,aa];simp only[ai,ap];have e:(if (aZ W (v.2+1)).Av=[45] then ((v.2+1+1:Nat):Int) else ((v.2+1:Nat):Int))=(((if (aZ W (v.2+1)).Av=[45] then v.2+1+1 else v.2+1):Nat):Int):=ol
   rw[e,S9 om hW];cases m:bW W E (if (aZ W (v.2+1)).Av=[45] then v.2+1+1 else v.2+1) with
   | error p=>rfl
   | ok e=>
     have u:=LH hW m;rw[Xs,iQ,Vx];simp only[];by_cases j:(aZ W (v.2+1)).Av=[45]
     simp only[ot j];rw[aK om om,Jv ol ol,aa,Xs];rfl;simp only[oq j];rw[Jv ol ol,aa,Xs];rfl
   simp only[oq a];rfl
theorem Jed{me:pj}(hW:gE W){R:Nat}(x:R<=40)(u:∀ r,r<R->Rd W E ((40 - r:Nat):Int) Nm me (n6 W (ck W E Nm r))):
 ∀(r n:Nat),r<=R->aq+r+1<=n->Rd W E ((40 - r:Nat):Int) Nm (Vr me n) (ck W E Nm r):=by
 have e:=hW.1;intro r
 induction r with
 | zero=>
   intro n j hn i hi;obtain⟨n,rfl⟩:∃ k,n=k+1:=⟨n - 1,om⟩
   unfold Vr ck;rw[Z6 om,aa,bB];by_cases a:(aZ W i).Av=[45]
   simp only[ot a];rw[LF (r:=0) om om om,ot rfl,im,ka,im];rfl;simp only[oq a];rw[Tg hW (Tf (r:=0) (ex:=λ_=>.error 0) om hW om oh oh) (xH oh) i hi];cases gQ W E (eZ W E Nm 0 (λ_=>.error 0)) i with
   | error p=>rfl
   | ok v=>rfl
 | succ r w=>
   intro n j hn i hi;obtain⟨n,rfl⟩:∃ k,n=k+1:=⟨n - 1,om⟩
   have hd:((40 - (r+1):Nat):Int)+1=((40 - r:Nat):Int):=om
   unfold Vr ck;rw[Z6 om,aa,bB];by_cases a:(aZ W i).Av=[45]
   simp only[ot a];rw[LF (r:=r+1) om om om,oq om,Xs,iQ];simp only[];rw[hd,w n om om (i+1) (bJ oh a)];cases m:ck W E Nm r (i+1) with
   | error p=>rfl
   | ok v=>
     have g:=lS r _ _ m;grind[Xs,iQ,Vx,fT,Jv,aK]
   simp only[oq a];rw[Tg hW (Tf (r:=r+1) om hW om (λ_=>by rw[hd];exact u r om) (by grind[xI,lS])) (by grind[xH,xI,lS]) i hi];cases gQ W E (eZ W E Nm (r+1) (n6 W (ck W E Nm r))) i with
   | error p=>rfl
   | ok v=>rfl
def GN(p:pj)(n:Nat)(x0_words:(List Qm))(x0_at_:Int)(x0_end_:Int)(x0_deep:Int)(x0_names:(List Be))(x2:Be)(x:Be)(x4:Int)(y:Int):Option (Except Qc ((List Qi)×(List Qm)×Int×Int×Int×(List Be))):=
 (p x0_words x0_at_ x0_end_ x0_deep x0_names).bind (cI (λe=>
  some (Except.error e)) λr=>
 ae (λ(a:(List Qm)×Int×Int×Int×(List Be)×(List Qi))=>
  jn (λu=>(J3 a.1 a.2.1 a.2.2.1 a.2.2.2.1 a.2.2.2.2.1 x2).bind λg=>bif g.1 then (
    u (g.2.1,g.2.2.1,g.2.2.2.1,g.2.2.2.2,x4))
   else ((J3 g.2.1 g.2.2.1 g.2.2.2.1 g.2.2.2.2 a.2.2.2.2.1 x).bind λj=>bif j.1 then (
     u (j.2.1,j.2.2.1,j.2.2.2.1,j.2.2.2.2,y))
    else (some (.out (Except.ok (a.2.2.2.2.2,j.2.1,j.2.2.1,j.2.2.2.1,j.2.2.2.2,a.2.2.2.2.1)))))) (λ(m:(List Qm)×Int×Int×Int×Int)=>
   (p m.1 m.2.1 m.2.2.1 m.2.2.2.1 a.2.2.2.2.1).bind (cI (λe=>
    some (.out (Except.error e))) λk=>(az 40 a.2.2.2.2.2 k.1).bind λv=>(az 40 v ([(⟨m.2.2.2.2,0,[]⟩:Qi)]:List Qi)).bind λw=>some (.go (k.2.1,k.2.2.1,k.2.2.2.1,k.2.2.2.2.1,k.2.2.2.2.2,w))))) n (r.2.1,r.2.2.1,r.2.2.2.1,r.2.2.2.2.1,r.2.2.2.2.2,r.1))
theorem Q7t(me:pj)(n:Nat):Wq me n=GN (Vr me n) n:=oe
theorem Jc7(me:pj)(n:Nat):W1 me n=GN (Y3 me n) n:=oe
theorem Th{m:pj}{n:Nat}{d:Int}{p:Nat->fg}(hn:10000<=n)(hW:gE W)(h:Rd W E d Nm m p)(J:PO W p)(K:a≠[])(L:b≠[]):
 ∀ i:Nat,i<=W.length->GN m n W (i:Int) E d Nm a b oa ob=lQ (fT W E d Nm) (db W p a b oa ob i):=by
 intro i hi;have M:=hW.1;unfold GN db;rw[h i hi];cases Q:p i with
 | error q=>rfl
 | ok v=>
   have g:=J _ _ Q;rw[Xs,iQ,Vx];simp only[fT,ai]
   have key:∀(k n j:Nat) (c:List Qi),j<=W.length->c.length<=j->W.length - j<=k->W.length - j<n ->
    ae (λ(w:(List Qm)×Int×Int×Int×(List Be)×(List Qi))=>
     (J3 w.1 w.2.1 w.2.2.1 w.2.2.2.1 w.2.2.2.2.1 a).bind λx=>bif x.1 then (
      (m x.2.1 x.2.2.1 x.2.2.2.1 x.2.2.2.2 w.2.2.2.2.1).bind (cI (λe=>
       some (.out (Except.error e))) λr=>(az 40 w.2.2.2.2.2 r.1).bind λG=>(az 40 G ([(⟨oa,0,[]⟩:Qi)]:List Qi)).bind λH=>some (.go (r.2.1,r.2.2.1,r.2.2.2.1,r.2.2.2.2.1,r.2.2.2.2.2,H)))) else ((J3 x.2.1 x.2.2.1 x.2.2.2.1 x.2.2.2.2 w.2.2.2.2.1 b).bind λy=>bif y.1 then (
       (m y.2.1 y.2.2.1 y.2.2.2.1 y.2.2.2.2 w.2.2.2.2.1).bind (cI (λe=>
        some (.out (Except.error e))) λr=>(az 40 w.2.2.2.2.2 r.1).bind λG=>(az 40 G ([(⟨ob,0,[]⟩:Qi)]:List Qi)).bind λH=>some (.go (r.2.1,r.2.2.1,r.2.2.2.1,r.2.2.2.2.1,r.2.2.2.2.2,H)))) else (
       some (Lp.out (Except.ok (w.2.2.2.2.2,y.2.1,y.2.2.1,y.2.2.2.1,y.2.2.2.2,w.2.2.2.2.1)))))) n (W,(j:Int),E,d,Nm,c)=lQ (fT W E d Nm) (cj W p a b oa ob k c j):=by
    intro k
    induction k with
    | zero=>
      intro n j c O N hk hn;have P:j=W.length:=om
      have A:(aZ W j).Av≠a:=λe=>by have:=bJ K e;omega
      have B:(aZ W j).Av≠b:=λe=>by have:=bJ L e;omega
      unfold cj;rw[Xs];exact Jp (by simp only[Z6 (show j<=100000 by omega),aa,ov A,ov B,ak,oq A,oq B];rfl) om
    | succ k R=>
      intro n j c O N hk hn;obtain⟨n,rfl⟩:∃ q,n=q+1:=⟨n - 1,om⟩
      unfold cj;by_cases A:(aZ W j).Av=a;have I:=bJ K A;rw[ot A];have C:=h (j+1) om;cases F:p (j+1) with
      | error q=>
        rw[F,im] at C;rw[Wg,im];exact Jp (by simp only[Z6 (show j<=100000 by omega),aa,ou A,aj,ot A,C,LE]) om
      | ok u=>
        have g:=J _ _ F;rw[F,Xs] at C;rw[Vx,V0 (s':=(W,(u.2:Int),E,d,Nm,c++u.1++[(⟨oa,0,[]⟩:Qi)]))];grind;simp only[Z6 (show j<=100000 by omega),aa,ou A,aj,ot A,C,LD,fT];grind[Jv]
      rw[oq A];by_cases B:(aZ W j).Av=b;have I:=bJ L B;rw[ot B];have C:=h (j+1) om;cases F:p (j+1) with
      | error q=>
        rw[F,im] at C;rw[Wg,im];exact Jp (by simp only[Z6 (show j<=100000 by omega),aa,ov A,ak,oq A,ou B,aj,ot B,C,LE]) om
      | ok u=>
        have g:=J _ _ F;rw[F,Xs] at C;rw[Vx,V0 (s':=(W,(u.2:Int),E,d,Nm,c++u.1++[(⟨ob,0,[]⟩:Qi)]))];grind;simp only[Z6 (show j<=100000 by omega),aa,ov A,ak,oq A,ou B,aj,ot B,C,LD,fT];grind[Jv]
      rw[oq B,Xs];exact Jp (by simp only[Z6 (show j<=100000 by omega),aa,ov A,ov B,ak,oq A,oq B];rfl) om
   grind
theorem Jit{me:pj}{n:Nat}{d:Int}{f:Nat->fg}(hn:10000<=n)(hW:gE W)(h:Rd W E d Nm (Vr me n) f)(a:PO W f):Rd W E d Nm (Y3 me n) (kV W f):=by
 intro i hi;unfold Y3 kV;rw[Q7t,Th hn hW h a oh oh i hi];cases db W f [42] [47] 9 10 i with
 | error q=>rfl
 | ok v=>rfl
theorem Jiu(hW:gE W):∀(r n:Nat),r<=40->aq+r+2<=n->Rd W E ((40 - r:Nat):Int) Nm (Kv n) (n6 W (ck W E Nm r)):=by
 intro r
 induction r using Nat.strongRecOn with
 | _ r j=>
   intro n e hn i hi;obtain⟨n,rfl⟩:∃ k,n=k+1:=⟨n - 1,om⟩
   have a:10000<=n:=by grind[aq]
   have hf:=Jed (E:=E) (Nm:=Nm) (me:=Kv n) hW e ol r n oh om;have g:=Jit a hW hf (lS r);unfold Kv n6;rw[Jc7,Th a hW g (GM (lS r)) oh oh i hi];cases db W (kV W (ck W E Nm r)) [43] [45] 7 8 i with
   | error q=>rfl
   | ok v=>rfl
end
def lT(V:List Qf)(E:Int):Prop:=gE (V.map bg)/\0<=E/\∀ w∈V,0<=w.At
theorem kW{V:List Qf}:(V.map bg).length=V.length:=oh
def dN(x:Qi):Qd:=⟨x.Op,x.I,x.N⟩
abbrev kc:=List Qf->Int->Int->Int->List Be->Int->Option (List Qd×List Qf×Int×Int×Int×Int×List Be)
theorem td{V:List Qf}{i:Nat}(h:i<V.length):∃ w,ah V (i:Int)=some w/\V[i]?=some w/\aZ (V.map bg) i=bg w/\w∈V:=by simp_all[Wx,aZ]
theorem Ti{V:List Qf}{E:Int}{i:Nat}:jb (V.map bg) E i=(V[i]?.map (·.At)).getD E:=by unfold jb;rw[uq];cases V[i]?<;>rfl
theorem jw{V:List Qf}{E:Int}(h:lT V E)(i:Nat):0<=jb (V.map bg) E i:=by
 rw[Ti];cases a:V[i]? with
 | none=>exact h.2.1
 | some w=>exact h.2.2 w (List.mem_of_getElem? a)
section
variable {V:List Qf}{E d q:Int}{Nm:List Be}{i:Nat}
theorem Wt{t:Be}(g:t≠[]):Q2 V (i:Int) E d Nm (-1) t=some (decide ((aZ (V.map bg) i).Av=t)):=by unfold Q2;simp only[ai,ap];rw[ot om];by_cases h:i<V.length;obtain⟨w,a,_,e,_⟩:=td h;rw[ot om,a,aa,e];rfl;simp_all[oq,xG]
theorem lU(a:0<=q)(t:Be):Q2 V I E d Nm q t=some false:=by simp_all[Q2,ai,ap,oq]
theorem LI:V6 V (i:Int) E d Nm (-1)=some (aZ (V.map bg) i).Az:=by unfold V6;simp only[ai,ap];rw[ot om];by_cases h:i<V.length;obtain⟨w,a,_,e,_⟩:=td h;rw[ot om,a,aa,e];rfl;simp_all[oq,xG]
theorem LJ(a:0<=q):V6 V I E d Nm q=some 0:=by simp_all[V6,ai,ap,oq]
theorem qt:Kg V (i:Int) E d Nm (-1)=some (V,(i:Int),E,d,jb (V.map bg) E i):=by unfold Kg;simp only[ap];rw[oq om,Ti];by_cases h:i<V.length;obtain⟨w,a,e,_,_⟩:=td h;grind;grind
theorem LK(a:0<=q):Kg V I E d Nm q=some (V,I,E,d,q):=by simp_all[Kg]
theorem tf(hi:i<=100000){t:Be}(a:t≠[]):Jl V (i:Int) E d Nm (-1) t=some (match bn (V.map bg) E t i with
 | .ok j=>(V,(j:Int),E,d,-1)
 | .error q=>(V,(i:Int),E,d,q)):=by
 unfold Jl bn;rw[Wt a,aa,ap];grind[gt,qt]
theorem nc(a:0<=q)(t:Be):Jl V I E d Nm q t=some (V,I,E,d,q):=by simp_all[Jl,lU,LK]
theorem Jee{n:Nat}(a:0<=q):Ve n V I E d Nm q=some (0,V,I,E,d,q):=by unfold Ve;simp only[ai];rw[LJ a,aa,show(!decide ((0:Int)=1))=true by rfl,aj,aj,LK a,aa]
theorem Q7u{s:Be}(hk:k<s.length):aE (s.take (k+1)) 0=aE (s.take k) 0*10+(s[k].toNat - 48):=by rw[Kd hk,wP]
theorem LL{n:Nat}(hn:aq<=n)(hi:i<=100000)(A:lT V E):Ve n V (i:Int) E d Nm (-1)=some (match bW (V.map bg) E i with
 | .ok v=>(v.1,V,(v.2:Int),E,d,-1)
 | .error q=>(0,V,(i:Int),E,d,q)):=by
 unfold Ve bW;simp only[ai,bB];rw[LI,aa];by_cases hk:(aZ (V.map bg) i).Az=1;rw[ot hk];have m:i<V.length:=by have:=qs (W:=V.map bg) (i:=i) (by rw[hk];decide);grind
 obtain⟨w,u,H,y,I⟩:=td m;obtain⟨p,j,_⟩:=iB A.1 hk;rw[y] at p j |-;have g:fR w.Av:=p;have r:w.Av≠[]:=j;rw[u,aa];by_cases J:3<w.Av.length;rw[ot (by grind[bg]),ou om,aj,qt,aa];rw[oq (by grind[bg]),ov om,ak,aa];unfold aq at hn;refine Ws (λs:Int×Int=>w.Av.length - s.2.toNat) (λs=>∃ k:Nat,s.2=k/\k<=w.Av.length/\s.1=((aE (w.Av.take k) 0:Nat):Int)) (λt=>t=((aE w.Av 0:Nat):Int)) ⟨0,rfl,xu _,oe⟩ om ?_ ?_;rintro⟨a,b⟩ ⟨k,g1,G,g3⟩;simp only at g1 g3;subst g1 g3;simp only[ap];by_cases e:k<w.Av.length;left;obtain⟨C,F⟩:=g _ (uz e);have B:=nb (wR (k:=k) g) (by rw[yi];omega);rw[ot om,jL e,aa,aa,aK (x:=10*_) om om,aK (x:=_+_) om om,aK (x:=_ - _) om om,w1 om];refine⟨_,rfl,⟨k+1,rfl,om,?_⟩,by simp only[];omega⟩;simp only[];rw[Q7u e];omega;grind;rintro t rfl;rw[gt hi];rfl;simp_all[qt]
theorem LM(hi:i<=100000)(a:r<=40):Xe V (i:Int) E ((40 - r:Nat):Int) Nm (-1)=some (V,((i+1:Nat):Int),E,((40 - r:Nat):Int)+1,if r=0 then jb (V.map bg) E i else -1):=by unfold Xe;simp only[ai,ap];by_cases h:r=0;simp_all[qt,gt,aK];rw[oq om,oq h,gt hi,aK om om]
theorem Tj:Vn V (i:Int) E d Nm (-1)=some (decide ((aZ (V.map bg) i).Az=2) && !gP (aZ (V.map bg) i).Av):=by unfold Vn;simp only[ai,ap];rw[LI,aa,Wt oh,Wt oh,Wt oh,Wt oh];simp only[aa,bB];grind[gP]
theorem Jgp(a:0<=q):Vn V I E d Nm q=some false:=by unfold Vn;simp only[ai];rw[LJ a,aa,show decide ((0:Int)=2)=false by rfl,ak]
theorem Jiv{n:Nat}(hn:aq<=n)(hN:Nm.length<=100000){a b c e:_}(s:Be):Zk n a b c e Nm q s=some (io Nm s 0):=by
 unfold Zk;unfold aq at hn;refine ww λf u=>?_;have key:∀(m k n:Nat),Nm.length - k<=m->k<=Nm.length->m<n->(ae f n (k:Int)).bind (aS λ(_:Unit)=>some (-1))=some (io (Nm.drop k) s k):=by
  subst u;intro m
  induction m with
  | zero=>
    intro k n j p r;have hk:k=Nm.length:=om
    simp_all[Jp,Vp,io]
  | succ m v=>
    intro k n j p r;obtain⟨n,rfl⟩:∃ q,n=q+1:=⟨n - 1,om⟩
    by_cases hk:k<Nm.length;rw[xa hk];unfold io;by_cases g:Nm[k]=s;simp_all[Jp,Wx,Yy];rw[oq g,V0 (s':=((k+1:Nat):Int)) (by simp only[ap];rw[ot om,Wx hk,aa,oq g,gt om])];exact v (k+1) n om om om;grind
 exact key Nm.length 0 n om oh om
end
def mz(V:List Qf)(E d:Int)(Nm:List Be)(B:Nat)(m:kc)(p:Nat->fg):Prop:=∀ i:Nat,i<=V.length->match p i with
 | .ok v=>m V (i:Int) E d Nm (-1)=some (v.1.map dN,V,(v.2:Int),E,d,-1,Nm)
 | .error q=>0<=q/\∃ c I a,m V (i:Int) E d Nm (-1)=some (c,V,I,E,a,q,Nm)/\c.length<=B
def pn(V:List Qf)(E:Int)(Nm:List Be)(m:kc):Prop:=∀(I d q:Int),0<=q->m V I E d Nm q=some ([],V,I,E,d,q,Nm)
section
variable {V:List Qf}{E:Int}{Nm:List Be}
theorem Jgq{me:kc}{n:Nat}:pn V E Nm (Wr me n):=by intro I d q a;unfold Wr;simp only[ai];rw[LJ a,aa,show decide ((0:Int)=1)=false by rfl,ak,lU a,aa,ak,lU a,aa,ak,lU a,aa,ak,lU a,aa,ak,Jgp a,aa,show(!false)=true by rfl,aj,LK a,aa]
theorem Tk{me:kc}{n:Nat}(hn:1<=n):pn V E Nm (Kl me n):=by
 intro I d q a;obtain⟨n,rfl⟩:∃ k,n=k+1:=⟨n - 1,om⟩
 unfold Kl;rw[lU a,aa,ak,Jgq I d q a,aa];simp_all[ai,lU]
abbrev LN:=(List Qf)×Int×Int×Int×(List Be)×Int×(List Qd)
def kd(p:kc)(a b:Be)(oa ob:Int):LN->Option (Lp LN LN):=
 λ(e:(List Qf)×Int×Int×Int×(List Be)×Int×(List Qd))=>
  jn (λj=>(Q2 e.1 e.2.1 e.2.2.1 e.2.2.2.1 e.2.2.2.2.1 e.2.2.2.2.2.1 a).bind λm=>bif m then (
    j true)
   else ((Q2 e.1 e.2.1 e.2.2.1 e.2.2.2.1 e.2.2.2.2.1 e.2.2.2.2.2.1 b).bind λr=>
    j r)) (λ(v:Bool)=>
   bif v then (jn (λk=>(Q2 e.1 e.2.1 e.2.2.1 e.2.2.2.1 e.2.2.2.2.1 e.2.2.2.2.2.1 b).bind λu=>bif u then (
      k ob)
     else (
      k oa)) (λ(w:Int)=>
     (p e.1 (wrap64 (e.2.1+1)) e.2.2.1 e.2.2.2.1 e.2.2.2.2.1 e.2.2.2.2.2.1).bind λg=>(az 40 e.2.2.2.2.2.2 g.1).bind λx=>(some (([(⟨w,0,[]⟩:Qd)]:List Qd))).bind λz80=>(az 40 x z80).bind λy=>some (.go (g.2.1,g.2.2.1,g.2.2.2.1,g.2.2.2.2.1,g.2.2.2.2.2.2,g.2.2.2.2.2.1,y)))) else (some (.out (e.1,e.2.1,e.2.2.1,e.2.2.2.1,e.2.2.2.2.1,e.2.2.2.2.2.1,e.2.2.2.2.2.2))))
def xJ(p:kc)(n:Nat)(a b:Be)(oa ob:Int)(x0_W:(List Qf))(x0_I:Int)(x0_End:Int)(x0_Deep:Int)(x0_Names:(List Be))(x0_Bad:Int):Option ((List Qd)×(List Qf)×Int×Int×Int×Int×(List Be)):=
 (p x0_W x0_I x0_End x0_Deep x0_Names x0_Bad).bind λg=>(ae (kd p a b oa ob) n (g.2.1,g.2.2.1,g.2.2.2.1,g.2.2.2.2.1,g.2.2.2.2.2.2,g.2.2.2.2.2.1,g.1)).bind λ(e:(List Qf)×Int×Int×Int×(List Be)×Int×(List Qd))=>
 some (e.2.2.2.2.2.2,e.1,e.2.1,e.2.2.1,e.2.2.2.1,e.2.2.2.2.2.1,e.2.2.2.2.1)
theorem Tl(me:kc)(n:Nat):Xl me n=xJ (Kl me n) n [42] [47] 9 10:=oe
theorem Tm(n:Nat)(W I E d Nm q):Jr (n+1) W I E d Nm q=bif decide (0<=q) then some (([]:List Qd),W,I,E,d,q,Nm) else xJ (Xl (Jr n) n) n [43] [45] 7 8 W I E d Nm q:=oe
theorem GO{n:Nat}(hn:1<=n):pn V E Nm (Jr n):=by
 intro I d q a;obtain⟨n,rfl⟩:∃ k,n=k+1:=⟨n - 1,om⟩
 rw[Tm,ou a,aj]
theorem Jmi{m:kc}{n:Nat}(hn:1<=n)(h:pn V E Nm m):pn V E Nm (xJ m n a b oa ob):=by intro I d q e;unfold xJ;rw[h I d q e,aa];rw[Jp (t:=(V,I,E,d,Nm,q,([]:List Qd))) (by simp_all[kd,ai,lU]) om,aa]
theorem Tn{m:kc}{n:Nat}{d:Int}{p:Nat->fg}(hn:10000<=n)(Z:lT V E)(h:mz V E d Nm B m p)(_:pn V E Nm m)(Y:B<=1000000)(R:PO (V.map bg) p)(N:a≠[])(O:b≠[])(hab:a≠b):
 mz V E d Nm (B+4001) (xJ m n a b oa ob) (db (V.map bg) p a b oa ob):=by
 intro i hi;have hVl:V.length<=4000:=by have:=Z.1.1;grind
 unfold xJ db;have G:=h i hi;cases S:p i with
 | error q=>
   rw[S] at G;obtain⟨L,c,I,r,M,P⟩:=G;rw[Wg];refine⟨L,c,I,r,?_,om⟩;rw[M,aa];rw[Jp (t:=(V,I,E,r,Nm,q,c)) (by simp_all[kd,ai,lU]) om,aa]
 | ok v=>
   have g:=R _ _ S;rw[kW] at g;rw[S] at G;rw[Vx,G,aa];generalize C:kd m a b oa ob=F;have f_bad:∀(I r q:Int) (c:List Qd),0<=q->F (V,I,E,r,Nm,q,c)=some (Lp.out (V,I,E,r,Nm,q,c)):=by intro I r q c L;rw[<-C];simp_all[kd,ai,lU]
   have f_end:∀(j:Nat) (c:List Qd),(aZ (V.map bg) j).Av≠a->(aZ (V.map bg) j).Av≠b->F (V,(j:Int),E,d,Nm,-1,c)=some (Lp.out (V,(j:Int),E,d,Nm,-1,c)):=by intro j c y A;rw[<-C];simp_all[kd,ai,Wt]
   have f_go:∀(j:Nat) (c:List Qi) (o:Int),c.length<=j->j<V.length->((aZ (V.map bg) j).Av=a/\o=oa\/(aZ (V.map bg) j).Av=b/\o=ob) ->
    match p (j+1) with
    | .ok u=>F (V,(j:Int),E,d,Nm,-1,c.map dN)=some (Lp.go (V,(u.2:Int),E,d,Nm,-1,(c++u.1++[(⟨o,0,[]⟩:Qi)]).map dN))
    | .error q=>0<=q/\∃ x I r,F (V,(j:Int),E,d,Nm,-1,c.map dN)=some (Lp.go (V,I,E,r,Nm,q,x))/\x.length<=B+4001:=by
    intro j c o J X hs
    have hstep:F (V,(j:Int),E,d,Nm,-1,c.map dN)=(m V ((j+1:Nat):Int) E d Nm (-1)).bind λw=>
     (az 40 (c.map dN) w.1).bind λT=>(some (([(⟨o,0,[]⟩:Qd)]:List Qd))).bind λz80=>(az 40 T z80).bind λU=>
     some (Lp.go (w.2.1,w.2.2.1,w.2.2.2.1,w.2.2.2.2.1,w.2.2.2.2.2.2,w.2.2.2.2.2.1,U)):=by
     rw[<-C];unfold kd;rcases hs with ⟨y,rfl⟩ | ⟨y,rfl⟩;have A:¬(aZ (V.map bg) j).Av=b:=ol
     simp only[ai,Wt N,Wt O,aa,ou y,ov A,aj,ak,gt (show j<=100000 by omega)];have A:¬(aZ (V.map bg) j).Av=a:=ol
     simp only[ai,Wt N,Wt O,aa,ou y,ov A,aj,ak,gt (show j<=100000 by omega)]
    have G:=h (j+1) om;cases H:p (j+1) with
    | error q=>
      rw[H] at G;grind[Jv]
    | ok u=>
      have g:=R _ _ H;grind[Jv,dN]
   clear C
   have key:∀(k n j:Nat) (c:List Qi),j<=V.length->c.length<=j->V.length - j<=k->V.length - j+1<n ->
    match cj (V.map bg) p a b oa ob k c j with
    | .ok u=>ae F n (V,(j:Int),E,d,Nm,-1,c.map dN)=some (V,(u.2:Int),E,d,Nm,-1,u.1.map dN)
    | .error q=>0<=q/\∃ x I r,ae F n (V,(j:Int),E,d,Nm,-1,c.map dN)=some (V,I,E,r,Nm,q,x)/\x.length<=B+4001:=by
    intro k
    induction k with
    | zero=>
      intro n j c X J hk hn;have y:(aZ (V.map bg) j).Av≠a:=λe=>by have:=bJ N e;grind
      have A:(aZ (V.map bg) j).Av≠b:=λe=>by have:=bJ O e;grind
      grind[cj,Jp]
    | succ k ih=>
      intro n j c X J hk hn;obtain⟨n,rfl⟩:∃ q,n=q+1:=⟨n - 1,om⟩
      have go:∀(o:Int),((aZ (V.map bg) j).Av=a/\o=oa\/(aZ (V.map bg) j).Av=b/\o=ob)->j<V.length ->
       match gu (p (j+1)) λv=>cj (V.map bg) p a b oa ob k (c++v.1++[(⟨o,0,[]⟩:Qi)]) v.2 with
       | .ok u=>ae F (n+1) (V,(j:Int),E,d,Nm,-1,c.map dN)=some (V,(u.2:Int),E,d,Nm,-1,u.1.map dN)
       | .error q=>0<=q/\∃ x I r,ae F (n+1) (V,(j:Int),E,d,Nm,-1,c.map dN)=some (V,I,E,r,Nm,q,x)/\x.length<=B+4001:=by
       intro o ho Q;have K:=f_go j c o J Q ho;cases H:p (j+1) with
       | error q=>
         rw[H] at K;obtain⟨L,x,I,r,M,P⟩:=K;rw[Wg];refine⟨L,x,I,r,?_,P⟩;rw[V0 M];grind[Jp]
       | ok u=>
         have g:=R _ _ H;rw[kW] at g;rw[H] at K;simp only[] at K;rw[Vx,V0 K];exact ih n u.2 _ g.2.1 ol om om
      unfold cj;by_cases y:(aZ (V.map bg) j).Av=a;rw[ot y];exact go oa ol (by have:=bJ N y;grind);rw[oq y];by_cases A:(aZ (V.map bg) j).Av=b;rw[ot A];exact go ob ol (by have:=bJ O A;grind);rw[oq A];grind[Jp]
   have hk:=key (V.map bg).length n v.2 v.1 g.2.1 om oh om;cases J:cj (V.map bg) p a b oa ob (V.map bg).length v.1 v.2 with
   | ok u=>grind
   | error q=>
     rw[J] at hk;obtain⟨L,x,I,r,M,P⟩:=hk;simp_all
end
section
variable {V:List Qf}{E:Int}{Nm:List Be}
theorem tg{W:List Qm}{E:Int}{t:Be}{i:Nat}{q:Int}(h:bn W E t i=.error q):q=jb W E i:=by grind[bn]
theorem LO{W:List Qm}{E:Int}{i:Nat}{q:Int}(h:bW W E i=.error q):q=jb W E i:=by grind[bW]
def Cs(n:Nat)(op:Int)(V:List Qf)(I E d:Int)(Nm:List Be):Option (List Qd×List Qf×Int×Int×Int×Int×List Be):=
 (Jl V I E d Nm (-1) ([91]:Be)).bind λe=>(Ve n e.1 e.2.1 e.2.2.1 e.2.2.2.1 Nm e.2.2.2.2).bind λa=>(Jl a.2.1 a.2.2.1 a.2.2.2.1 a.2.2.2.2.1 Nm a.2.2.2.2.2 ([93]:Be)).bind λg=>(some (([(⟨op,a.1,[]⟩:Qd)]:List Qd))).bind λz37=>
 some (z37,g.1,g.2.1,g.2.2.1,g.2.2.2.1,g.2.2.2.2,Nm)
theorem To{n:Nat}{d:Int}{i:Nat}(hn:aq<=n)(hi:i<=90000)(a:lT V E):match eY (V.map bg) E op i with
 | .ok v=>Cs n op V ((i+1:Nat):Int) E d Nm=some (v.1.map dN,V,(v.2:Int),E,d,-1,Nm)
 | .error q=>0<=q/\∃ c I m,Cs n op V ((i+1:Nat):Int) E d Nm=some (c,V,I,E,m,q,Nm)/\c.length<=1:=by
 unfold Cs eY;have u:V.length<=4000:=by have:=a.1.1;grind
 rw[tf om oh];cases e:bn (V.map bg) E [91] (i+1) with
 | error q=>
   have k:0<=q:=by rw[tg e];exact jw a _
   simp_all[Wg,Jee,nc]
 | ok j=>
   obtain⟨rfl,_⟩:=jv oh e;rw[Vx];simp only[aa];rw[LL hn om a];cases g:bW (V.map bg) E (i+1+1) with
   | error q=>
     have k:0<=q:=by rw[LO g];exact jw a _
     simp_all[Wg,nc]
   | ok v=>
     obtain⟨w,p⟩:=GK g;rw[kW] at p;rw[Vx];simp only[aa];rw[tf om oh];cases r:bn (V.map bg) E [93] v.2 with
     | error q=>
       have k:0<=q:=by rw[tg r];exact jw a _
       simp_all[Wg]
     | ok j=>rfl
theorem Tp{me:kc}{n:Nat}{ex:Nat->fg}(hn:aq<=n)(m:lT V E)(hN:Nm.length<=100000)(S:r<=40)(L:4001<=B)(T:r≠0->mz V E ((40 - r:Nat)+1:Int) Nm B me ex)(N:pn V E Nm me)(R:r≠0->PO (V.map bg) ex):
 mz V E ((40 - r:Nat):Int) Nm B (Wr me n) (eZ (V.map bg) E Nm r ex):=by
 intro i hi;have M:V.length<=4000:=by have:=m.1.1;grind
 unfold Wr eZ;simp only[ai,ap];rw[LI,aa];by_cases p:(aZ (V.map bg) i).Az=1;obtain⟨H,Q,I⟩:=iB m.1 p;have e:i<V.length:=by have:=qs (W:=V.map bg) (i:=i) om;grind
 obtain⟨w,g1,K,g3,g4⟩:=td e;rw[ot p,ot p];rw[g3] at H I |-;have F:fR w.Av:=H;have P:w.Av.length<=60:=I;simp only[];rw[g1,aa,KK hn F om,aa,Wz hn (by grind[lL]),aa,aa,Te,gt om];rfl;rw[oq p,oq p,Wt oh,aa];by_cases x:(aZ (V.map bg) i).Av=[116]
 rw[ot x,ou x,aj,aa,gt om];rfl;rw[oq x,ov x,ak,Wt oh,aa];by_cases y:(aZ (V.map bg) i).Av=[121]
 have k:¬(aZ (V.map bg) i).Av=[112]:=ol
 rw[ot y,ou y,aj,aj,Wt oh,aa,ov k,ak,gt om];have:=To (Nm:=Nm) (op:=3) (d:=((40 - r:Nat):Int)) (i:=i) hn om m;grind[Cs];rw[oq y,ov y,ak,Wt oh,aa];by_cases k:(aZ (V.map bg) i).Av=[112]
 rw[ot k,ou k,aj,aa,aj,gt om];have:=To (Nm:=Nm) (op:=4) (d:=((40 - r:Nat):Int)) (i:=i) hn om m;grind[Cs];rw[oq k,ov k,ak,Wt oh,aa];by_cases u:(aZ (V.map bg) i).Av=[40]
 have e:i<V.length:=by have:=bJ oh u;grind
 rw[ot u,ou u,aj,LM om S,aa];by_cases a:r=0;have A:=jw m i;rw[ot a,ot a];refine⟨A,[],((i+1:Nat):Int),wrap64 (((40 - r:Nat):Int)+1 - 1),?_,oh⟩;simp only[];rw[N _ _ _ A,aa];grind[nc];rw[oq a,oq a];simp only[];have G:=T a (i+1) om;cases J:ex (i+1) with
 | error q=>
   grind[Wg,nc]
 | ok v=>
   have g:=R a _ _ J;rw[kW] at g;rw[J] at G;simp only[] at G;rw[Vx,G,aa];simp only[];rw[tf om oh];cases O:bn (V.map bg) E [41] v.2 with
   | error q=>
     have A:0<=q:=by rw[tg O];exact jw m _
     rw[Wg];exact⟨A,v.1.map dN,(v.2:Int),wrap64 (((40 - r:Nat):Int)+1 - 1),rfl,ol⟩
   | ok j=>
     rw[Vx];simp only[aa];rw[aK om om,Int.add_sub_cancel]
 rw[oq u,ov u,ak,Tj,aa];unfold fF;by_cases a:(aZ (V.map bg) i).Az=2;by_cases U:gP (aZ (V.map bg) i).Av=true;simp_all[Wg,qt,jw];have e:i<V.length:=by have:=qs (W:=V.map bg) (i:=i) om;grind
 obtain⟨w,g1,K,g3,g4⟩:=td e;have C:gP (aZ (V.map bg) i).Av=false:=ol
 rw[oq ol,C,Vx,ou a,show(!(true && !false))=false by rfl,ak,g1,aa,Jiv hn hN,aa,aa,gt om,g3];rfl;rw[ot (.inl a),Wg,ov a,show(!(false && !gP (aZ (V.map bg) i).Av))=true by rfl,aj,qt,aa];simp_all[jw]
def LP(at_:kc)(n:Nat)(x0_W:List Qf)(x0_I x0_End x0_Deep:Int)(x0_Names:List Be)(x0_Bad:Int):Option (List Qd×List Qf×Int×Int×Int×Int×List Be):=
 (at_ x0_W x0_I x0_End x0_Deep x0_Names x0_Bad).bind λa=>jn (λj=>(Q2 a.2.1 a.2.2.1 a.2.2.2.1 a.2.2.2.2.1 a.2.2.2.2.2.2 a.2.2.2.2.2.1 ([94]:Be)).bind λp=>bif p then (jn (λk=>(Q2 a.2.1 (wrap64 (a.2.2.1+1)) a.2.2.2.1 a.2.2.2.2.1 a.2.2.2.2.2.2 a.2.2.2.2.2.1 ([45]:Be)).bind λr=>bif r then (
     k (wrap64 ((wrap64 (a.2.2.1+1))+1),(-1)))
    else (
     k (wrap64 (a.2.2.1+1),1))) (λ(m:Int×Int)=>
    (Ve n a.2.1 m.1 a.2.2.2.1 a.2.2.2.2.1 a.2.2.2.2.2.2 a.2.2.2.2.2.1).bind λe=>(some (([(⟨11,wrap64 (m.2*e.1),[]⟩:Qd)]:List Qd))).bind λv=>(az 40 a.1 v).bind λu=>
    j (e.2.1,e.2.2.1,e.2.2.2.1,e.2.2.2.2.1,e.2.2.2.2.2,u)))
  else (
   j (a.2.1,a.2.2.1,a.2.2.2.1,a.2.2.2.2.1,a.2.2.2.2.2.1,a.1))) (λ(g:(List Qf)×Int×Int×Int×Int×(List Qd))=>
  some (g.2.2.2.2.2,g.1,g.2.1,g.2.2.1,g.2.2.2.1,g.2.2.2.2.1,a.2.2.2.2.2.2))
theorem Tq(me:kc)(n:Nat)(W I E d Nm q):Kl me (n+1) W I E d Nm q=(Q2 W I E d Nm q ([45]:Be)).bind λp=>
 bif p then ((Xe W I E d Nm q).bind λe=>jn (λm=>bif decide (e.2.2.2.2<0) then ((Kl me n e.1 e.2.1 e.2.2.1 e.2.2.2.1 Nm e.2.2.2.2).bind λa=>
    m (a.2.1,a.2.2.1,a.2.2.2.1,a.2.2.2.2.1,a.2.2.2.2.2.2,a.2.2.2.2.2.1,a.1))
   else (
    m (e.1,e.2.1,e.2.2.1,e.2.2.2.1,Nm,e.2.2.2.2,([]:List Qd)))) (λ(g:(List Qf)×Int×Int×Int×(List Be)×Int×(List Qd))=>
   (some (([(⟨6,0,[]⟩:Qd)]:List Qd))).bind λk=>(az 40 g.2.2.2.2.2.2 k).bind λj=>
   some (j,g.1,g.2.1,g.2.2.1,wrap64 (g.2.2.2.1 - 1),g.2.2.2.2.2.1,g.2.2.2.2.1)))
 else LP (Wr me n) n W I E d Nm q:=oe
theorem Tr{at_:kc}{n:Nat}{d:Int}{p:Nat->fg}(hn:aq<=n)(a:lT V E)(y:4001<=B)(A:B<=1000000)(h:mz V E d Nm B at_ p)(F:PO (V.map bg) p):mz V E d Nm (B+1) (LP at_ n) (gQ (V.map bg) E p):=by
 intro i hi;have C:V.length<=4000:=by have:=a.1.1;grind
 unfold LP gQ;simp only[ai];have r:=h i hi;cases u:p i with
 | error q=>
   grind[Wg,lU]
 | ok v=>
   have g:=F _ _ u;rw[kW] at g;rw[u] at r;simp only[] at r;rw[Vx,r,aa];simp only[];rw[Wt oh,aa];by_cases m:(aZ (V.map bg) v.2).Av=[94]
   rw[ot m,ou m,aj,gt om,Wt oh,aa];have w:v.2<V.length:=by have:=bJ oh m;grind
   by_cases j:(aZ (V.map bg) (v.2+1)).Av=[45]
   simp only[ot j,ou j,aj];have x:v.2+1<V.length:=by have:=bJ oh j;grind
   rw[gt om,LL hn om a,aa];cases k:bW (V.map bg) E (v.2+1+1) with
   | error q=>
     rw[Wg];refine⟨by rw[LO k];exact jw a _,v.1.map dN++[⟨11,wrap64 (-1*0),[]⟩],((v.2+1+1:Nat):Int),d,?_,oj⟩;grind[Jv]
   | ok e=>
     have G:=LH a.1 k;grind[Vx,Jv,aK,dN]
   simp only[oq j,ov j,ak];rw[LL hn om a,aa];cases k:bW (V.map bg) E (v.2+1) with
   | error q=>
     rw[Wg];refine⟨by rw[LO k];exact jw a _,v.1.map dN++[⟨11,wrap64 (1*0),[]⟩],((v.2+1:Nat):Int),d,?_,oj⟩;grind[Jv]
   | ok e=>
     have G:=LH a.1 k;grind[Vx,Jv,aK,dN]
   grind
def bF(r:Nat):Nat:=20000*(r+1)
theorem mz.mono{V:List Qf}{E d:Int}{Nm:List Be}{B':Nat}{m:kc}{p:Nat->fg}(h:mz V E d Nm B m p)(a:B<=B'):mz V E d Nm B' m p:=by intro i hi;have:=h i hi;grind
theorem Jef{me:kc}(e:lT V E)(hN:Nm.length<=100000){R:Nat}(A:R<=40)(F:∀ r,r<R->mz V E ((40 - r:Nat):Int) Nm (bF r+8002) me (n6 (V.map bg) (ck (V.map bg) E Nm r)))(j:pn V E Nm me):
 ∀(r n:Nat),r<=R->aq+r+1<=n->mz V E ((40 - r:Nat):Int) Nm (bF r) (Kl me n) (ck (V.map bg) E Nm r):=by
 have p:V.length<=4000:=by have:=e.1.1;grind
 intro r
 induction r with
 | zero=>
   intro n x hn i hi;obtain⟨n,rfl⟩:∃ k,n=k+1:=⟨n - 1,om⟩
   rw[Tq,Wt oh,aa];unfold ck;by_cases a:(aZ (V.map bg) i).Av=[45]
   have C:=jw e i;rw[ot a,ou a,aj,LM om om,aa];simp only[ai];simp_all[ov,bF,Jv];rw[oq a,ov a,ak];exact((Tr om e oh om (Tp (r:=0) (B:=4001) (ex:=λ_=>.error 0) om e hN om oh oh j oh) (xH oh)).mono (by grind[bF])) i hi
 | succ r y=>
   intro n x hn i hi;obtain⟨n,rfl⟩:∃ k,n=k+1:=⟨n - 1,om⟩
   have hd:((40 - (r+1):Nat):Int)+1=((40 - r:Nat):Int):=om
   rw[Tq,Wt oh,aa];unfold ck;by_cases a:(aZ (V.map bg) i).Av=[45]
   have w:i<V.length:=by have:=bJ oh a;grind
   rw[ot a,ou a,aj,LM om om,aa];simp only[ai];rw[oq om,show decide ((-1)<0)=true by rfl,aj,hd];have u:=y n om om (i+1) om;cases m:ck (V.map bg) E Nm r (i+1) with
   | error q=>
     rw[m] at u;grind[bF,Wg,Jv]
   | ok v=>
     have g:=lS r _ _ m;grind[Vx,Jv,aK,dN]
   rw[oq a,ov a,ak];exact((Tr om e om (by grind[bF]) (Tp (r:=r+1) (B:=bF r+8002) om e hN om oh ol j (by grind[xI,lS])) (by grind[xH,xI,lS])).mono (by grind[bF])) i hi
theorem Jiz(g:lT V E)(hN:Nm.length<=100000):∀(r n:Nat),r<=40->aq+r+2<=n->mz V E ((40 - r:Nat):Int) Nm (bF r+8002) (Jr n) (n6 (V.map bg) (ck (V.map bg) E Nm r)):=by
 intro r
 induction r using Nat.strongRecOn with
 | _ r w=>
   intro n u hn i hi;obtain⟨n,rfl⟩:∃ k,n=k+1:=⟨n - 1,om⟩
   have e:10000<=n:=by grind[aq]
   have v:bF r+8002<=1000000:=by grind[bF]
   have hf:=Jef (E:=E) (Nm:=Nm) (me:=Jr n) g hN u ol (by grind[GO]) r n oh om;have m:=Tn (a:=[42]) (b:=[47]) (oa:=9) (ob:=10) e g hf (Tk om) om (lS r) oh oh oh;rw[<-Tl] at m;have j:pn V E Nm (Xl (Jr n) n):=by grind[Tl,Jmi,Tk]
   have p:=Tn (a:=[43]) (b:=[45]) (oa:=7) (ob:=8) e g m j om (GM (lS r)) oh oh oh;rw[Tm,show decide (0<=-1)=false by rfl,ak];exact(p.mono om) i hi
end
def kX(W:List Qm)(E:Int)(Nm:List Be)(i:Nat):fg:=n6 W (ck W E Nm 40) i
theorem lV{W E Nm}:PO W (kX W E Nm):=xI (lS 40)
def cM(W:List Qm)(E:Int):Nat->List Be->List Jz->Nat->Except Int ((List Jz×List Be)×Nat)
 | 0,Nm,L,i=>.ok ((L,Nm),i)
 | k+1,Nm,L,i=>if (aZ W i).Av=[108,101,116] then gu (fF W E (i+1)) λv=>gu (bn W E [61] v.2) λj=>gu (kX W E Nm j) λc=>gu (bn W E [59] c.2) λj=>cM W E k (Nm++[v.1]) (L++[⟨v.1,c.1⟩]) j
   else .ok ((L,Nm),i)
def cO(W:List Qm)(E:Int)(Nm:List Be):Nat->List (List Qi)->Nat->Except Int (List (List Qi)×Nat)
 | 0,O,i=>.ok (O,i)
 | k+1,O,i=>if (aZ W i).Av=[44] then gu (kX W E Nm (i+1)) λc=>cO W E Nm k (O++[c.1]) c.2 else .ok (O,i)
def dc(W:List Qm)(E:Int):Except Int ((Qt×List Be)×Nat):=
 gu (cM W E W.length [] [] 0) λa=>gu (bn W E [91] a.2) λj=>gu (kX W E a.1.2 j) λc=>gu (cO W E a.1.2 W.length [c.1] c.2) λb=>gu (bn W E [93] b.2) λj=>.ok ((⟨a.1.1,b.1⟩,a.1.2),j)
section
variable {W:List Qm}{E:Int}
theorem Cu:∀(k:Nat) (Nm:List Be) (L:List Jz) (i:Nat) (v),i<=W.length->Nm.length<=i->L.length<=i->cM W E k Nm L i=.ok v->i<=v.2/\v.2<=W.length/\v.1.2.length<=v.2/\v.1.1.length<=v.2
 | 0,Nm,L,i,v,m,p,r,h=>by grind[cM]
 | k+1,Nm,L,i,v,m,p,r,h=>by unfold cM at h;split at h;obtain⟨a,u,h⟩:=Vq h;obtain⟨j,x,h⟩:=Vq h;obtain⟨c,w,h⟩:=Vq h;obtain⟨A,e,h⟩:=Vq h;obtain⟨a1,a2,_⟩:=GL u;obtain⟨rfl,y⟩:=jv oh x;have g:=lV _ _ w;obtain⟨rfl,c2⟩:=jv oh e;have:=Cu k _ _ _ v om ol ol h;omega;grind
theorem Cv{Nm}:∀(k:Nat) (O:List (List Qi)) (i:Nat) (v),i<=W.length->O.length<=i->cO W E Nm k O i=.ok v->i<=v.2/\v.2<=W.length/\v.1.length<=v.2
 | 0,O,i,v,a,e,h=>by grind[cO]
 | k+1,O,i,v,a,e,h=>by unfold cO at h;split at h;obtain⟨c,j,h⟩:=Vq h;have g:=lV _ _ j;have:=Cv k _ _ v om ol h;omega;grind
theorem LQ{Nm:List Be}{n:Nat}(hW:gE W)(hn:aq+100<=n)(i:Nat)(hi:i<=W.length):Kv n W (i:Int) E 0 Nm=lQ (fT W E 0 Nm) (kX W E Nm i):=Jiu hW 40 n om om i hi
def Cw(W:List Qm)(E:Int)(v:(Qt×List Be)×Nat):Qt×List Qm×Int×Int×Int×List Be:=(v.1.1,W,(v.2:Int),E,0,v.1.2)
abbrev GP:=(List Qm)×Int×Int×Int×(List Be)×(List Jz)
abbrev LR:=(List Qm)×Int×Int×Int×(List Be)×(List (List Qi))
abbrev LT:=Except Qc (Qt×List Qm×Int×Int×Int×List Be)
def ke(n:Nat):GP->Option (Lp GP (Lp GP LT)):=λ(a:(List Qm)×Int×Int×Int×(List Be)×(List Jz))=>
    (J3 a.1 a.2.1 a.2.2.1 a.2.2.2.1 a.2.2.2.2.1 ([108,101,116]:Be)).bind λg=>bif g.1 then (
     (X5 g.2.1 g.2.2.1 g.2.2.2.1 g.2.2.2.2 a.2.2.2.2.1).bind (cI (λe=>
      some (.out (.out (Except.error e)))) λk=>
     (Kf k.2.1 k.2.2.1 k.2.2.2.1 k.2.2.2.2 a.2.2.2.2.1 ([61]:Be)).bind (cI (λe=>
      some (.out (.out (Except.error e)))) λm=>
     (Kv n m.1 m.2.1 m.2.2.1 m.2.2.2 a.2.2.2.2.1).bind (cI (λe=>
      some (.out (.out (Except.error e)))) λj=>(az 40 a.2.2.2.2.2 ([(⟨k.1,j.1⟩:Jz)]:List Jz)).bind λr=>
     (Kf j.2.1 j.2.2.1 j.2.2.2.1 j.2.2.2.2.1 j.2.2.2.2.2 ([59]:Be)).bind (cI (λe=>
      some (.out (.out (Except.error e)))) λp=>(az 16 j.2.2.2.2.2 ([k.1]:List Be)).bind λu=>some (.go (p.1,p.2.1,p.2.2.1,p.2.2.2,u,r))))))) else (some (.out (.go (g.2.1,g.2.2.1,g.2.2.2.1,g.2.2.2.2,a.2.2.2.2.1,a.2.2.2.2.2))))
def lW(n:Nat):LR->Option (Lp LR (Lp LR LT)):=λ(g:(List Qm)×Int×Int×Int×(List Be)×(List (List Qi)))=>
    (J3 g.1 g.2.1 g.2.2.1 g.2.2.2.1 g.2.2.2.2.1 ([44]:Be)).bind λa=>bif a.1 then (
     (Kv n a.2.1 a.2.2.1 a.2.2.2.1 a.2.2.2.2 g.2.2.2.2.1).bind (cI (λe=>
      some (.out (.out (Except.error e)))) λj=>(az 24 g.2.2.2.2.2 ([j.1]:List (List Qi))).bind λk=>some (.go (j.2.1,j.2.2.1,j.2.2.2.1,j.2.2.2.2.1,j.2.2.2.2.2,k)))) else (some (.out (.go (a.2.1,a.2.2.1,a.2.2.2.1,a.2.2.2.2,g.2.2.2.2.1,g.2.2.2.2.2))))
def LU(n:Nat)(a:GP):Option LT:=
 (Kf a.1 a.2.1 a.2.2.1 a.2.2.2.1 a.2.2.2.2.1 ([91]:Be)).bind (cI (λe=>
  some (Except.error e)) λk=>
 (Kv n k.1 k.2.1 k.2.2.1 k.2.2.2 a.2.2.2.2.1).bind (cI (λe=>
  some (Except.error e)) λj=>
 (az 24 ([]:List (List Qi)) ([j.1]:List (List Qi))).bind λp=>
 (ae (lW n) n (j.2.1,j.2.2.1,j.2.2.2.1,j.2.2.2.2.1,j.2.2.2.2.2,p)).bind (aS λ(g:(List Qm)×Int×Int×Int×(List Be)×(List (List Qi)))=>
 (Kf g.1 g.2.1 g.2.2.1 g.2.2.2.1 g.2.2.2.2.1 ([93]:Be)).bind (cI (λe=>
  some (Except.error e)) λm=>
 some (Except.ok ((⟨a.2.2.2.2.2,g.2.2.2.2.2⟩:Qt),m.1,m.2.1,m.2.2.1,m.2.2.2,g.2.2.2.2.1))))))
theorem Jgr(n:Nat)(W I E d Nm):zA n W I E d Nm=(ae (ke n) n (W,I,E,d,Nm,([]:List Jz))).bind (aS (LU n)):=oe
def GQ{α σ τ:Type}(f:α->σ):Except Int α->Option (Lp σ (Except Qc τ))
 | .ok v=>some (.go (f v))
 | .error q=>some (.out (.error (na q)))
theorem Jos(hW:gE W){n:Nat}(hn:aq+100<=n):∀(k m i:Nat) (Nm:List Be) (L:List Jz),i<=W.length->Nm.length<=i->L.length<=i->W.length - i<=k->W.length - i<m ->
 ae (ke n) m (W,(i:Int),E,0,Nm,L)=GQ (λv:(List Jz×List Be)×Nat=>(W,(v.2:Int),E,0,v.1.2,v.1.1)) (cM W E k Nm L i):=by
 have G:=hW.1;intro k
 induction k with
 | zero=>
   intro m i Nm L hi hN F hk I;have p:(aZ W i).Av≠[108,101,116]:=λe=>by have:=bJ oh e;omega
   unfold cM GQ;exact Jp (by unfold ke;simp only[Z6 (show i<=100000 by omega),aa,ov p,ak,oq p]) om
 | succ k J=>
   intro m i Nm L hi hN F hk I;obtain⟨m,rfl⟩:∃ q,m=q+1:=⟨m - 1,om⟩
   unfold cM;by_cases p:(aZ W i).Av=[108,101,116]
   have H:=bJ oh p;rw[ot p]
   have hstep:ke n (W,(i:Int),E,0,Nm,L)=(X5 W ((i+1:Nat):Int) E 0 Nm).bind (cI (λe=>
    some (.out (.out (Except.error e)))) λg=>
   (Kf g.2.1 g.2.2.1 g.2.2.2.1 g.2.2.2.2 Nm ([61]:Be)).bind (cI (λe=>
    some (.out (.out (Except.error e)))) λr=>
   (Kv n r.1 r.2.1 r.2.2.1 r.2.2.2 Nm).bind (cI (λe=>
    some (.out (.out (Except.error e)))) λa=>(az 40 L ([(⟨g.1,a.1⟩:Jz)]:List Jz)).bind λB=>
   (Kf a.2.1 a.2.2.1 a.2.2.2.1 a.2.2.2.2.1 a.2.2.2.2.2 ([59]:Be)).bind (cI (λe=>
    some (.out (.out (Except.error e)))) λu=>(az 16 a.2.2.2.2.2 ([g.1]:List Be)).bind λC=>
   some (Lp.go (u.1,u.2.1,u.2.2.1,u.2.2.2,C,B)))))):=by unfold ke;simp only[Z6 (show i<=100000 by omega),aa,ou p,aj,ot p]
   rw[Tc om] at hstep;cases w:fF W E (i+1) with
   | error q=>
     rw[w,im,ka] at hstep;rw[Wg];exact Jp hstep om
   | ok v=>
     obtain⟨g1,K,_⟩:=GL w;rw[w,Xs,iQ] at hstep;simp only[] at hstep;rw[tb om] at hstep;rw[Vx];cases x:bn W E [61] v.2 with
     | error q=>
       rw[x,im,ka] at hstep;rw[Wg];exact Jp hstep om
     | ok j=>
       obtain⟨rfl,g3⟩:=jv oh x;rw[x,Xs,iQ] at hstep;simp only[] at hstep;rw[LQ hW hn _ om] at hstep;rw[Vx];cases y:kX W E Nm (v.2+1) with
       | error q=>
         rw[y,im,ka] at hstep;rw[Wg];exact Jp hstep om
       | ok c=>
         have g4:=lV _ _ y;rw[y,Xs,iQ] at hstep;simp only[fT] at hstep;rw[Jv ol ol,aa,tb om] at hstep;rw[Vx];cases A:bn W E [59] c.2 with
         | error q=>
           rw[A,im,ka] at hstep;rw[Wg];exact Jp hstep om
         | ok j=>
           obtain⟨rfl,M⟩:=jv oh A;rw[A,Xs,iQ,Jv ol ol,aa] at hstep;rw[Vx,V0 hstep];exact J m (c.2+1) _ _ om ol ol om om
   rw[oq p];exact Jp (by unfold ke;simp only[Z6 (show i<=100000 by omega),aa,ov p,ak,oq p]) om
theorem Jot(hW:gE W){n:Nat}(hn:aq+100<=n){Nm:List Be}:∀(k m i:Nat) (O:List (List Qi)),i<=W.length->O.length<=i->W.length - i<=k->W.length - i<m ->
 ae (lW n) m (W,(i:Int),E,0,Nm,O)=GQ (λv:List (List Qi)×Nat=>(W,(v.2:Int),E,0,Nm,v.1)) (cO W E Nm k O i):=by
 have r:=hW.1;intro k
 induction k with
 | zero=>
   intro m i O hi p hk w;have a:(aZ W i).Av≠[44]:=λe=>by have:=bJ oh e;omega
   unfold cO GQ;exact Jp (by unfold lW;simp only[Z6 (show i<=100000 by omega),aa,ov a,ak,oq a]) om
 | succ k x=>
   intro m i O hi p hk w;obtain⟨m,rfl⟩:∃ q,m=q+1:=⟨m - 1,om⟩
   unfold cO;by_cases a:(aZ W i).Av=[44]
   have u:=bJ oh a;rw[ot a];have g:=LQ (E:=E) (Nm:=Nm) hW hn (i+1) om;cases j:kX W E Nm (i+1) with
   | error q=>
     rw[j,im] at g;rw[Wg];exact Jp (by unfold lW;simp only[Z6 (show i<=100000 by omega),aa,ou a,aj,ot a,g,LE]) om
   | ok c=>
     have g4:=lV _ _ j;rw[j,Xs] at g;rw[Vx,V0 (s':=(W,(c.2:Int),E,0,Nm,O++[c.1]))];grind;unfold lW;simp only[Z6 (show i<=100000 by omega),aa,ou a,aj,ot a,g,LD,fT];grind[Jv]
   rw[oq a];exact Jp (by unfold lW;simp only[Z6 (show i<=100000 by omega),aa,ov a,ak,oq a]) om
theorem Jmj(hW:gE W){n:Nat}(hn:aq+100<=n):zA n W 0 E 0 []=lQ (Cw W E) (dc W E):=by
 have p:=hW.1;have e:100000<n:=by grind[aq]
 rw[Jgr,show(0)=((0:Nat):Int) by rfl,show ae (ke n) n (W,((0:Nat):Int),E,((0:Nat):Int),([]:List Be),([]:List Jz))=_ from Jos hW hn W.length n 0 [] [] oh oh oh om om];unfold dc;cases h0:cM W E W.length [] [] 0 with
 | error q=>rfl
 | ok a=>
   have g0:=Cu _ _ _ _ _ oh oh oh h0;rw[Vx];show(some (Lp.go (W,(a.2:Int),E,0,a.1.2,a.1.1))).bind (aS (LU n))=_;rw[aa,Vp];unfold LU;simp only[];rw[tb om];cases g:bn W E [91] a.2 with
   | error q=>rfl
   | ok j=>
     obtain⟨rfl,g1⟩:=jv oh g;rw[Xs,iQ,Vx];simp only[];rw[LQ hW hn _ om];cases k:kX W E a.1.2 (a.2+1) with
     | error q=>rfl
     | ok c=>
       have r:=lV _ _ k;rw[Xs,iQ,Vx];simp only[fT];rw[Jv oh oh,aa,xi,Jot hW hn W.length n c.2 [c.1] om ol om om];cases m:cO W E a.1.2 W.length [c.1] c.2 with
       | error q=>rfl
       | ok b=>
         have g3:=Cv _ _ _ _ om ol m;rw[Vx];show(some (Lp.go (W,(b.2:Int),E,0,a.1.2,b.1))).bind (aS _)=_;rw[aa,Vp];simp only[];rw[tb om];cases u:bn W E [93] b.2 with
         | error q=>rfl
         | ok j=>rfl
theorem Jou{d:Int}{Nm:List Be}{i:Nat}:zB W (i:Int) E d Nm=lQ (λ_:Unit=>()) (if i<W.length then .error (jb W E i) else .ok ()):=by unfold zB;rw[ap];by_cases h:i<W.length;rw[ot om,ot h,ta,ka,im];simp_all[oq,Xs]
end
def cu(s:Be):Except Int Qt:=
 if 4000<s.length then .error 4000 else match bt s 0 with
 | .inr p=>.error (p:Int)
 | .inl ws=>gu (dc (ws.map bg) (s.length:Int)) λv=>if v.2<ws.length then .error (jb (ws.map bg) (s.length:Int) v.2) else .ok v.1.1
theorem Cy:∀(m:Nat) (s:Be) (i:Nat) (ws),s.length<=m->bt s i=.inl ws->ws.length<=s.length/\∀ w∈ws,0<=w.At/\dp w.Az w.Av=true
 | _,[],i,ws,_,h=>by grind[ql]
 | 0,_::_,_,_,h,_=>by simp at h
 | m+1,c::r,i,ws,v,h=>by
   rw[pc] at h;simp only[xd] at v |-;split at h;have:=Cy m r _ ws om h;grind;split at h;have B:=pb (λb:UInt8=>decide (b.toNat≠10)) r;have:=Cy m _ _ ws om h;grind;split at h;cases h;rename_i e;split at h;cases h;rename_i hmost;cases g:bt (r.drop (bh (aD c.toNat) r).length) (i+1+(bh (aD c.toNat) r).length) with
   | inr p=>rw[g] at h;cases h
   | inl j=>
     rw[g] at h;cases h;have:=Cy m _ _ j ol g;refine⟨ol,λw k=>?_⟩;rcases xk.1 k with rfl | k;refine⟨oh,(sN _ _ _).2 ⟨e,rfl,?_,by show _<=bm (aD c.toNat);omega⟩⟩;refine uv.2 λb a=>?_;have u:b∈r.takeWhile (λb=>gm (aD c.toNat) b.toNat):=a;have key:∀(l:Be) (p:UInt8->Bool),∀ b∈l.takeWhile p,p b=true:=by
      intro l p
      induction l with
      | nil=>intro b a;simp at a
      | cons x l A=>
        intro b a;rw[xj] at a;split at a;rename_i y;rcases xk.1 a with rfl | a;exact y;exact A b a;simp at a
     grind;grind
theorem Cz{s:Be}{ws:List Qf}(g:s.length<=4000)(h:bt s 0=.inl ws):lT ws (s.length:Int):=by have:=Cy _ s 0 ws (xe _) h;refine⟨⟨ol,λw e=>?_⟩,oh,ol⟩;obtain⟨v,a,rfl⟩:=xv.1 e;exact(this.2 v a).2
def n7{α:Type}(z:α):Except Int α->α×Qc
 | .ok f=>(f,⟨0,0,0,0⟩)
 | .error q=>(z,na q)
theorem Jmk(p:Int):Ji (na p) ⟨0,0,0,0⟩=false:=oe
theorem Jkl:Ji ⟨0,0,0,0⟩ ⟨0,0,0,0⟩=true:=oe
theorem Q3d{n:Nat}{s:Be}(hn:aq+100<=n)(g:s.length<=9223372036854775807):uV n s=some (n7 ⟨[],[]⟩ (cu s)):=by
 unfold uV EV cu;rw[Q9z om g,aa,Jv oh oh,aa,aa];simp only[vj];by_cases e:4000<s.length;rw[ot e,ot e,Jmk];rfl;rw[oq e,oq e];cases h:bt s 0 with
 | inr p=>rfl
 | inl ws=>
   have j:=Cz om h;simp only[ju,xi];rw[Jkl,show(!true)=false by rfl,ak,Jmj j.1 hn];cases hf:dc (ws.map bg) (s.length:Int) with
   | error q=>rfl
   | ok v=>
     rw[Xs,iQ,Vx];simp only[Cw];rw[Jou,kW];by_cases a:v.2<ws.length;rw[ot a,ot a,im,ka];rfl;rw[oq a,oq a,Xs,iQ];rfl
def dL(x:Jz):Q9:=⟨x.A0,x.Code.map dN⟩
def dF(f:Qt):Qo:=⟨f.Aw.map dL,f.Ax.map (·.map dN)⟩
section
variable {V:List Qf}{E:Int}
theorem LV{Nm:List Be}{n:Nat}(e:lT V E)(hN:Nm.length<=100000)(hn:aq+100<=n)(i:Nat)(hi:i<=V.length):match kX (V.map bg) E Nm i with
 | .ok v=>Jr n V (i:Int) E 0 Nm (-1)=some (v.1.map dN,V,(v.2:Int),E,0,-1,Nm)
 | .error q=>0<=q/\∃ c I a,Jr n V (i:Int) E 0 Nm (-1)=some (c,V,I,E,a,q,Nm)/\c.length<=1000000:=
 (Jiz e hN 40 n om om).mono (by grind[bF]) i hi
abbrev GR:=(List Qf)×Int×Int×Int×(List Be)×Int×(List Q9)
abbrev LW:=(List Qf)×Int×Int×Int×(List Be)×Int×(List (List Qd))
abbrev Tt:=Qo×(List Qf)×Int×Int×Int×Int×(List Be)
def fU(n:Nat):GR->Option (Lp GR (Lp GR Tt)):=λ(a:(List Qf)×Int×Int×Int×(List Be)×Int×(List Q9))=>
    (Q2 a.1 a.2.1 a.2.2.1 a.2.2.2.1 a.2.2.2.2.1 a.2.2.2.2.2.1 ([108,101,116]:Be)).bind λp=>bif p then ((Vn a.1 (wrap64 (a.2.1+1)) a.2.2.1 a.2.2.2.1 a.2.2.2.2.1 a.2.2.2.2.2.1).bind λr=>bif !r then ((Kg a.1 (wrap64 (a.2.1+1)) a.2.2.1 a.2.2.2.1 a.2.2.2.2.1 a.2.2.2.2.2.1).bind λg=>some (.out (.out (((⟨a.2.2.2.2.2.2,([]:List (List Qd))⟩:Qo),g.1,g.2.1,g.2.2.1,g.2.2.2.1,g.2.2.2.2,a.2.2.2.2.1))))) else ((ah a.1 (wrap64 (a.2.1+1))).bind λm=>(Jl a.1 (wrap64 ((wrap64 (a.2.1+1))+1)) a.2.2.1 a.2.2.2.1 a.2.2.2.2.1 a.2.2.2.2.2.1 ([61]:Be)).bind λj=>(Jr n j.1 j.2.1 j.2.2.1 j.2.2.2.1 a.2.2.2.2.1 j.2.2.2.2).bind λe=>(az 40 a.2.2.2.2.2.2 ([(⟨m.Av,e.1⟩:Q9)]:List Q9)).bind λu=>(Jl e.2.1 e.2.2.1 e.2.2.2.1 e.2.2.2.2.1 e.2.2.2.2.2.2 e.2.2.2.2.2.1 ([59]:Be)).bind λk=>(az 16 e.2.2.2.2.2.2 ([m.Av]:List Be)).bind λv=>some (.go (k.1,k.2.1,k.2.2.1,k.2.2.2.1,v,k.2.2.2.2,u)))) else (some (.out (.go (a.1,a.2.1,a.2.2.1,a.2.2.2.1,a.2.2.2.2.1,a.2.2.2.2.2.1,a.2.2.2.2.2.2))))
def ip(n:Nat):LW->Option (Lp LW LW):=λ(a:(List Qf)×Int×Int×Int×(List Be)×Int×(List (List Qd)))=>
    (Q2 a.1 a.2.1 a.2.2.1 a.2.2.2.1 a.2.2.2.2.1 a.2.2.2.2.2.1 ([44]:Be)).bind λg=>bif g then ((Jr n a.1 (wrap64 (a.2.1+1)) a.2.2.1 a.2.2.2.1 a.2.2.2.2.1 a.2.2.2.2.2.1).bind λe=>(az 24 a.2.2.2.2.2.2 ([e.1]:List (List Qd))).bind λj=>some (.go (e.2.1,e.2.2.1,e.2.2.2.1,e.2.2.2.2.1,e.2.2.2.2.2.2,e.2.2.2.2.2.1,j))) else (some (.out (a.1,a.2.1,a.2.2.1,a.2.2.2.1,a.2.2.2.2.1,a.2.2.2.2.2.1,a.2.2.2.2.2.2)))
def GS(n:Nat)(t20:GR):Option Tt:=
 (Jl t20.1 t20.2.1 t20.2.2.1 t20.2.2.2.1 t20.2.2.2.2.1 t20.2.2.2.2.2.1 ([91]:Be)).bind λg=>(Jr n g.1 g.2.1 g.2.2.1 g.2.2.2.1 t20.2.2.2.2.1 g.2.2.2.2).bind λe=>(az 24 ([]:List (List Qd)) ([e.1]:List (List Qd))).bind λk=>(ae (ip n) n (e.2.1,e.2.2.1,e.2.2.2.1,e.2.2.2.2.1,e.2.2.2.2.2.2,e.2.2.2.2.2.1,k)).bind λ(a:(List Qf)×Int×Int×Int×(List Be)×Int×(List (List Qd)))=>(Jl a.1 a.2.1 a.2.2.1 a.2.2.2.1 a.2.2.2.2.1 a.2.2.2.2.2.1 ([93]:Be)).bind λj=>
 some ((⟨t20.2.2.2.2.2.2,a.2.2.2.2.2.2⟩:Qo),j.1,j.2.1,j.2.2.1,j.2.2.2.1,j.2.2.2.2,a.2.2.2.2.1)
theorem Jgs(n:Nat)(W I E d Nm q):Yc n W I E d Nm q=(ae (fU n) n (W,I,E,d,Nm,q,([]:List Q9))).bind (aS (GS n)):=oe
theorem GT{n m:Nat}(a:1<=m){d q:Int}{Nm O}(e:0<=q):ae (ip n) m (V,I,E,d,Nm,q,O)=some (V,I,E,d,Nm,q,O):=
 by grind[Jp,ip,lU]
theorem Jml{n:Nat}(hn:1<=n){d q:Int}{Nm L}(a:0<=q):∃ f,GS n (V,I,E,d,Nm,q,L)=some (f,V,I,E,d,q,Nm):=by refine⟨⟨L,[[]]⟩,?_⟩;unfold GS;simp only[];rw[nc a,aa];simp only[];rw[GO hn _ _ _ a,aa,Jv oh oh,aa];grind[GT,nc]
theorem Jov(r:lT V E){n:Nat}(hn:aq+100<=n){Nm:List Be}(hN:Nm.length<=100000):∀(k m i:Nat) (O:List (List Qi)),i<=V.length->O.length<=i->V.length - i<=k->V.length - i+1<m ->
 match cO (V.map bg) E Nm k O i with
 | .ok v=>ae (ip n) m (V,(i:Int),E,0,Nm,-1,O.map (·.map dN))=some (V,(v.2:Int),E,0,Nm,-1,v.1.map (·.map dN))
 | .error q=>0<=q/\∃ I d O',ae (ip n) m (V,(i:Int),E,0,Nm,-1,O.map (·.map dN))=some (V,I,E,d,Nm,q,O'):=by
 have x:V.length<=4000:=by have:=r.1.1;grind
 intro k
 induction k with
 | zero=>
   intro m i O hi w hk A;have a:(aZ (V.map bg) i).Av≠[44]:=λe=>by have:=bJ oh e;grind
   grind[cO,Jp,ip,Wt]
 | succ k C=>
   intro m i O hi w hk A;obtain⟨m,rfl⟩:∃ q,m=q+1:=⟨m - 1,om⟩
   unfold cO;by_cases a:(aZ (V.map bg) i).Av=[44]
   have y:i<V.length:=by have:=bJ oh a;grind
   rw[ot a];have g:=LV (E:=E) (Nm:=Nm) r hN hn (i+1) om;cases j:kX (V.map bg) E Nm (i+1) with
   | error q=>
     rw[j] at g;obtain⟨B,c,I,p,u,F⟩:=g;rw[Wg];refine⟨B,I,p,O.map (·.map dN)++[c],?_⟩;rw[V0 (s':=(V,I,E,p,Nm,q,O.map (·.map dN)++[c]))];grind[GT];unfold ip;simp only[Wt (show([44]:Be)≠[] by simp),aa,ou a,aj,gt (show i<=100000 by omega),u];grind[Jv]
   | ok c=>
     have g4:=lV _ _ j;rw[kW] at g4;rw[j] at g;simp only[] at g;rw[Vx,V0 (s':=(V,(c.2:Int),E,0,Nm,-1,(O++[c.1]).map (·.map dN)))];exact C m c.2 _ om ol om om;unfold ip;simp only[Wt (show([44]:Be)≠[] by simp),aa,ou a,aj,gt (show i<=100000 by omega),g];grind[Jv]
   simp_all[Jp,ip,Wt]
theorem Jmm{n:Nat}{d q:Int}{Nm L}(a:0<=q):fU n (V,I,E,d,Nm,q,L)=some (Lp.out (Lp.go (V,I,E,d,Nm,q,L))):=by simp_all[fU,lU]
theorem Jow(G:lT V E){n:Nat}(hn:aq+100<=n):∀(k m i:Nat) (Nm:List Be) (L:List Jz),i<=V.length->Nm.length<=i->L.length<=i->V.length - i<=k->V.length - i+1<m ->
 match cM (V.map bg) E k Nm L i with
 | .ok v=>ae (fU n) m (V,(i:Int),E,0,Nm,-1,L.map dL)=some (Lp.go (V,(v.2:Int),E,0,v.1.2,-1,v.1.1.map dL))
 | .error q=>0<=q/\((∃ I d Nm' L',ae (fU n) m (V,(i:Int),E,0,Nm,-1,L.map dL)=some (Lp.go (V,I,E,d,Nm',q,L')))\/∃ f I d Nm',ae (fU n) m (V,(i:Int),E,0,Nm,-1,L.map dL)=some (Lp.out (f,V,I,E,d,q,Nm'))):=by
 have S:V.length<=4000:=by have:=G.1.1;grind
 intro k
 induction k with
 | zero=>
   intro m i Nm L hi hN R hk X;have x:(aZ (V.map bg) i).Av≠[108,101,116]:=λe=>by have:=bJ oh e;grind
   grind[cM,Jp,fU,Wt]
 | succ k Y=>
   intro m i Nm L hi hN R hk X;obtain⟨m,rfl⟩:∃ q,m=q+1:=⟨m - 1,om⟩
   unfold cM;by_cases x:(aZ (V.map bg) i).Av=[108,101,116]
   have U:i<V.length:=by have:=bJ oh x;grind
   rw[ot x]
   have hstep:fU n (V,(i:Int),E,0,Nm,-1,L.map dL)=(Vn V ((i+1:Nat):Int) E 0 Nm (-1)).bind λM=>
    bif !M then ((Kg V ((i+1:Nat):Int) E 0 Nm (-1)).bind λg=>some (.out (.out (((⟨L.map dL,([]:List (List Qd))⟩:Qo),g.1,g.2.1,g.2.2.1,g.2.2.2.1,g.2.2.2.2,Nm))))) else ((ah V ((i+1:Nat):Int)).bind λB=>(Jl V ((i+1+1:Nat):Int) E 0 Nm (-1) ([61]:Be)).bind λp=>(Jr n p.1 p.2.1 p.2.2.1 p.2.2.2.1 Nm p.2.2.2.2).bind λa=>(az 40 (L.map dL) ([(⟨B.Av,a.1⟩:Q9)]:List Q9)).bind λN=>(Jl a.2.1 a.2.2.1 a.2.2.2.1 a.2.2.2.2.1 a.2.2.2.2.2.2 a.2.2.2.2.2.1 ([59]:Be)).bind λr=>(az 16 a.2.2.2.2.2.2 ([B.Av]:List Be)).bind λO=>
     some (Lp.go (r.1,r.2.1,r.2.2.1,r.2.2.2.1,O,r.2.2.2.2,N))):=by
    unfold fU;simp only[Wt (show([108,101,116]:Be)≠[] by simp),aa,ou x,aj,gt (show i<=100000 by omega),gt (show i+1<=100000 by omega)]
   rw[Tj,aa] at hstep;unfold fF;by_cases hfree:(aZ (V.map bg) (i+1)).Az≠2\/gP (aZ (V.map bg) (i+1)).Av=true;rw[ot hfree,Wg];have T:(!(decide ((aZ (V.map bg) (i+1)).Az=2) && !gP (aZ (V.map bg) (i+1)).Av))=true:=ol
   rw[T,aj,qt,aa] at hstep;simp_all[jw,Jp];rw[oq hfree,Vx];have J:(aZ (V.map bg) (i+1)).Az=2:=om
   have K:gP (aZ (V.map bg) (i+1)).Av=false:=ol
   have y:i+1<V.length:=by have:=qs (W:=V.map bg) (i:=i+1) om;grind
   obtain⟨w,Z,y2,y3,y4⟩:=td y;rw[ou J,K,show(!(true && !false))=false by rfl,ak,Z,aa,tf om oh] at hstep;rw[y3]
   have bad_go:∀(I d q:Int) (c:List Qd) (Lx:List Q9),0<=q->fU n (V,(i:Int),E,0,Nm,-1,L.map dL)=some (Lp.go (V,I,E,d,Nm++[w.Av],q,Lx)) ->
    0<=q/\((∃ I d Nm' L',ae (fU n) (m+1) (V,(i:Int),E,0,Nm,-1,L.map dL)=some (Lp.go (V,I,E,d,Nm',q,L')))\/∃ f I d Nm',ae (fU n) (m+1) (V,(i:Int),E,0,Nm,-1,L.map dL)=some (Lp.out (f,V,I,E,d,q,Nm'))):=by
    intro I d q c Lx u h;refine⟨u,.inl ⟨I,d,Nm++[w.Av],Lx,?_⟩⟩;rw[V0 h];grind[Jp,Jmm]
   simp only[bg];cases C:bn (V.map bg) E [61] (i+1+1) with
   | error q=>
     have u:0<=q:=by rw[tg C];exact jw G _
     rw[C] at hstep;rw[Wg];refine bad_go ((i+1+1:Nat):Int) 0 q [] (L.map dL++[⟨w.Av,[]⟩]) u ?_;rw[hstep,aa];simp only[];rw[GO om _ _ _ u,aa,Jv ol ol,aa];grind[nc,Jv]
   | ok j=>
     obtain⟨rfl,g3⟩:=jv oh C;rw[kW] at g3;rw[C,aa] at hstep;simp only[] at hstep;rw[Vx];have A:=LV (E:=E) (Nm:=Nm) G om hn (i+1+1+1) om;cases H:kX (V.map bg) E Nm (i+1+1+1) with
     | error q=>
       rw[H] at A;obtain⟨u,c,I,P,b1,b2⟩:=A;rw[Wg];refine bad_go I P q c (L.map dL++[⟨w.Av,c⟩]) u ?_;grind[Jv,nc]
     | ok c=>
       have g4:=lV _ _ H;rw[kW] at g4;rw[H] at A;simp only[] at A;rw[Vx];rw[A,aa,Jv ol ol,aa] at hstep;simp only[] at hstep;rw[tf om oh,aa,Jv ol ol,aa] at hstep;cases F:bn (V.map bg) E [59] c.2 with
       | error q=>
         have u:0<=q:=by rw[tg F];exact jw G _
         rw[F] at hstep;rw[Wg];exact bad_go (c.2:Int) 0 q [] (L.map dL++[⟨w.Av,c.1.map dN⟩]) u hstep
       | ok j=>
         obtain⟨rfl,Q⟩:=jv oh F;rw[kW] at Q;rw[F] at hstep;simp only[] at hstep;rw[Vx,V0 hstep];have e:L.map dL++[(⟨w.Av,c.1.map dN⟩:Q9)]=(L++[(⟨w.Av,c.1⟩:Jz)]).map dL:=by simp[dL]
         rw[e];exact Y m (c.2+1) _ _ om ol ol om om
   rw[oq x];grind[Jp,fU,Wt]
theorem Tu(k:lT V E){n:Nat}(hn:aq+100<=n):match dc (V.map bg) E with
 | .ok v=>Yc n V 0 E 0 [] (-1)=some (dF v.1.1,V,(v.2:Int),E,0,-1,v.1.2)
 | .error q=>0<=q/\∃ f I d Nm',Yc n V 0 E 0 [] (-1)=some (f,V,I,E,d,q,Nm'):=by
 have C:V.length<=4000:=by have:=k.1.1;grind
 have x:100000<n:=by grind[aq]
 have e:=Jow k hn (V.map bg).length n 0 [] [] oh oh oh oh om;rw[Jgs];unfold dc;cases h0:cM (V.map bg) E (V.map bg).length [] [] 0 with
 | error q=>
   rw[h0] at e;obtain⟨g,e⟩:=e;rw[Wg];refine⟨g,?_⟩;rcases e with ⟨I,d,Nm',L',e⟩ | ⟨f,I,d,Nm',e⟩;obtain⟨f,hf⟩:=Jml (V:=V) (E:=E) (n:=n) om (I:=I) (d:=d) (q:=q) (Nm:=Nm') (L:=L') g;grind[Vp];grind[Yy]
 | ok a=>
   have g0:=Cu _ _ _ _ _ oh oh oh h0;rw[kW] at g0;rw[h0] at e;simp only[] at e;rw[Vx,show ae (fU n) n (V,0,E,0,([]:List Be),(-1),([]:List Q9))=_ from e,aa,Vp];unfold GS;simp only[];rw[tf om oh];cases w:bn (V.map bg) E [91] a.2 with
   | error q=>
     have g:0<=q:=by rw[tg w];exact jw k _
     rw[Wg];refine⟨g,⟨a.1.1.map dL,[[]]⟩,(a.2:Int),0,a.1.2,?_⟩;rw[aa];simp only[];rw[GO om _ _ _ g,aa,Jv oh oh,aa];grind[GT,nc]
   | ok j=>
     obtain⟨rfl,g1⟩:=jv oh w;rw[kW] at g1;rw[Vx,aa];simp only[];have p:=LV (E:=E) (Nm:=a.1.2) k om hn (a.2+1) om;cases r:kX (V.map bg) E a.1.2 (a.2+1) with
     | error q=>
       rw[r] at p;obtain⟨g,c,I,y,F,G⟩:=p;rw[Wg];refine⟨g,⟨a.1.1.map dL,[c]⟩,I,y,a.1.2,?_⟩;grind[Jv,GT,nc]
     | ok c=>
       have A:=lV _ _ r;rw[kW] at A;rw[r] at p;simp only[] at p;have m:=Jov k hn (Nm:=a.1.2) om (V.map bg).length n c.2 [c.1] om ol oh om;rw[Vx,p,aa,Jv oh oh,aa];simp only[xi];cases u:cO (V.map bg) E a.1.2 (V.map bg).length [c.1] c.2 with
       | error q=>
         rw[u] at m;obtain⟨g,I,d,O',m⟩:=m;simp_all[Wg,nc]
       | ok b=>
         have g3:=Cv _ _ _ _ ol ol u;rw[kW] at g3;rw[u] at m;simp only[] at m;rw[Vx,show ae (ip n) n (V,(c.2:Int),E,0,a.1.2,(-1),[c.1.map dN])=_ from m,aa];simp only[];rw[tf om oh];cases B:bn (V.map bg) E [93] b.2 with
         | error q=>
           have g:0<=q:=by rw[tg B];exact jw k _
           simp_all[Wg]
         | ok j=>rfl
theorem Ji0{d:Int}{Nm:List Be}{i:Nat}:Xm V (i:Int) E d Nm (-1)=some (V,(i:Int),E,d,if i<V.length then jb (V.map bg) E i else -1):=by
 unfold Xm;simp only[ai,ap];rw[ot om];by_cases h:i<V.length
 all_goals simp_all[qt,oq]
theorem Jgt{d q:Int}{Nm:List Be}(a:0<=q):Xm V I E d Nm q=some (V,I,E,d,q):=by simp_all[Xm,ai,ap,oq]
end
def LX{α β:Type}(z:β)(f:α->β):Except Int α->β×Int
 | .ok x=>(f x,-1)
 | .error q=>(z,q)
theorem Q3e{n:Nat}{s:Be}(hn:aq+100<=n):Bi n s=some (LX ⟨[],[]⟩ dF (cu s)):=by
 unfold Bi Fb cu;rw[Ss om,aa,Jv oh oh,aa,aa];simp only[vj,ap];by_cases e:4000<s.length;rw[ot e,ot e];rfl;rw[oq e,oq e];cases h:bt s 0 with
 | inr p=>rfl
 | inl ws=>
   have g:=Cz om h;simp only[Sk,xi];rw[oq oc];have hf:=Tu g hn;cases a:dc (ws.map bg) (s.length:Int) with
   | error q=>
     rw[a] at hf;obtain⟨k,f,I,d,Nm',hf⟩:=hf;rw[hf,aa,Wg];simp only[];rw[Jgt k,aa,ot k];rfl
   | ok v=>
     rw[a] at hf;simp only[] at hf;rw[hf,aa,Vx];simp only[];rw[Ji0,aa];by_cases j:v.2<ws.length;simp only[ot j];rw[ot (jw g _)];rfl;simp only[oq j];rfl
def NO(x:Qi):Prop:=x.N.length<=100/\Wd x.N
def kg(f:Qt):Prop:=f.Aw.length<=5000/\f.Ax.length<=5000/\∀ c∈aQ f,c.length<=5000/\∀ x∈c,NO x
def PN(p:Nat->fg):Prop:=∀ i v,p i=.ok v->∀ x∈v.1,NO x
theorem xK{a b:Int}:NO ⟨a,b,[]⟩:=⟨oh,Vw⟩
theorem Ji1{d:List Qi}{y:Qi}(h:x∈c++d++[y]):x∈c\/x∈d\/x=y:=ol
section
variable {W:List Qm}{E:Int}{Nm:List Be}
theorem Tv{i:Nat}{v}(h:eY W E op i=.ok v):∀ x∈v.1,NO x:=by unfold eY at h;obtain⟨j,_,h⟩:=Vq h;obtain⟨u,_,h⟩:=Vq h;obtain⟨k,_,h⟩:=Vq h;grind[xK]
theorem Tw(hW:gE W){ex:Nat->fg}(a:r≠0->PN ex):PN (eZ W E Nm r ex):=by intro i v h;unfold eZ at h;split at h;rename_i g;obtain⟨p,_,w⟩:=iB hW g;cases h;intro x a;rw[uw.1 a];exact⟨by grind[lL],Jh _⟩;split at h;grind[xK];split at h;exact Tv h;split at h;exact Tv h;split at h;split at h;cases h;rename_i k;obtain⟨u,m,h⟩:=Vq h;obtain⟨j,_,h⟩:=Vq h;cases h;exact λx e=>a k _ _ m x e;obtain⟨u,_,h⟩:=Vq h;grind[xK]
theorem Tx{p:Nat->fg}(g:PN p):PN (gQ W E p):=by intro i v h;unfold gQ at h;obtain⟨u,j,h⟩:=Vq h;split at h;obtain⟨e,_,h⟩:=Vq h;cases h;intro x a;rcases yz.1 a with a | a;exact g _ _ j x a;grind[xK];cases h;exact g _ _ j
theorem LY{p:Nat->fg}(m:PN p){a b:Be}{oa ob:Int}:∀(k:Nat) (c:List Qi) (j:Nat) (v),(∀ x∈c,NO x)->cj W p a b oa ob k c j=.ok v->∀ x∈v.1,NO x
 | 0,c,j,v,r,h=>by grind[cj]
 | k+1,c,j,v,r,h=>by
   unfold cj at h;have step:∀(o:Int) (u:List Qi×Nat),p (j+1)=.ok u->∀ x∈c++u.1++[(⟨o,0,[]⟩:Qi)],NO x:=by intro o u e x g;rcases Ji1 g with g | g | rfl;grind;exact m _ _ e x g;exact xK
   split at h;obtain⟨u,e,h⟩:=Vq h;exact LY m k _ _ v (step oa u e) h;split at h;obtain⟨u,e,h⟩:=Vq h;exact LY m k _ _ v (step ob u e) h;grind
theorem Ty{p:Nat->fg}(e:PN p):PN (db W p a b oa ob):=by intro i v h;unfold db at h;obtain⟨u,g,h⟩:=Vq h;exact LY e _ _ _ v (e _ _ g) h
theorem Tz{f:Nat->fg}(hf:PN f):PN (n6 W f):=Ty (Ty hf)
theorem LZ(hW:gE W):∀(r:Nat),PN (ck W E Nm r)
 | 0=>λi v h=>by unfold ck at h;split at h;cases h;exact Tx (Tw hW λh=>absurd rfl h) i v h
 | r+1=>λi v h=>by unfold ck at h;split at h;obtain⟨u,e,h⟩:=Vq h;cases h;intro x a;rcases yz.1 a with a | a;exact LZ hW r _ _ e x a;grind[xK];exact Tx (Tw hW λ_=>Tz (LZ hW r)) i v h
theorem Jox(hW:gE W):PN (kX W E Nm):=Tz (LZ hW 40)
theorem L0(hW:gE W){i:Nat}{v}(h:kX W E Nm i=.ok v):v.1.length<=5000/\∀ x∈v.1,NO x:=
 ⟨by have:=lV _ _ h;have:=hW.1;omega,Jox hW _ _ h⟩
theorem TA(hW:gE W):∀(k:Nat) (Nm:List Be) (L:List Jz) (i:Nat) (v),(∀ l∈L,l.Code.length<=5000/\∀ x∈l.Code,NO x)->cM W E k Nm L i=.ok v->∀ l∈v.1.1,l.Code.length<=5000/\∀ x∈l.Code,NO x
 | 0,Nm,L,i,v,g,h=>by grind[cM]
 | k+1,Nm,L,i,v,g,h=>by unfold cM at h;split at h;obtain⟨a,_,h⟩:=Vq h;obtain⟨j,_,h⟩:=Vq h;obtain⟨c,m,h⟩:=Vq h;obtain⟨p,_,h⟩:=Vq h;refine TA hW k _ _ _ v (λl e=>?_) h;rcases yz.1 e with e | e;exact g l e;rw[uw.1 e];exact L0 hW m;cases h;exact g
theorem TB(hW:gE W){Nm}:∀(k:Nat) (O:List (List Qi)) (i:Nat) (v),(∀ c∈O,c.length<=5000/\∀ x∈c,NO x)->cO W E Nm k O i=.ok v->∀ c∈v.1,c.length<=5000/\∀ x∈c,NO x
 | 0,O,i,v,e,h=>by grind[cO]
 | k+1,O,i,v,e,h=>by unfold cO at h;split at h;obtain⟨c,g,h⟩:=Vq h;refine TB hW k _ _ v (λl a=>?_) h;rcases yz.1 a with a | a;exact e l a;rw[uw.1 a];exact L0 hW g;cases h;exact e
theorem Jeg(hW:gE W){v}(h:dc W E=.ok v):kg v.1.1:=by have r:=hW.1;unfold dc at h;obtain⟨a,g,h⟩:=Vq h;obtain⟨j,u,h⟩:=Vq h;obtain⟨c,p,h⟩:=Vq h;obtain⟨b,m,h⟩:=Vq h;obtain⟨k,hk,h⟩:=Vq h;cases h;have g0:=Cu _ _ _ _ _ oh oh oh g;obtain⟨rfl,g1⟩:=jv oh u;have y:=lV _ _ p;have g3:=Cv _ _ _ _ om oj m;have w:=TA hW _ _ _ _ _ (λl e=>by cases e) g;have x:=TB hW _ _ _ _ (λl e=>by rw[uw.1 e];exact L0 hW p) m;refine⟨by simp only[];omega,by simp only[];omega,λd hd=>?_⟩;grind[aQ]
end
theorem TC{s:Be}{f:Qt}(h:cu s=.ok f):kg f:=by
 unfold cu at h;split at h;cases h;rename_i j;cases a:bt s 0 with
 | inr p=>grind
 | inl ws=>
   rw[a] at h;have e:=Cz om a;obtain⟨v,g,h⟩:=Vq h;split at h;cases h;cases h;exact Jeg e.1 g
theorem Ji3{a:Bf}{j:Nat}(h:j<a.length):Vy a (j:Int)=some a[j]:=by simp_all[Vy,Wx]
theorem Jkm{n:Nat}{a:Bf}(hn:1000000<=n)(g:a.length<=100000):W5 n a a=some 0:=by
 unfold W5;rw[show max (a.length:Int) (a.length:Int)=(a.length:Int) by omega,aK om om];refine(jg (λi:Nat=>(a.length:Int) - 1 - i) a.length (Lp.go ()) (λi hi=>?_) ?_ om oh).trans (Vp _ _);have e:(a.length:Int) - 1 - (i:Int)=((a.length - 1 - i:Nat):Int):=om
 simp only[ap];rw[ot om,e,Ji3 om,aa,aa,oq om,oq om,aK om om];grind;grind
def L1(c:List Qd):Prop:=c.length<=10000/\∀ x∈c,x.N.length<=100000
theorem Q1p{n:Nat}{c:List Qd}(hn:1000000<=n)(a:L1 c):BE n c c=some true:=by unfold BE;have e:=a.1;rw[bB,ot rfl];refine(jg (λi:Nat=>(i:Int)) c.length (Lp.go ()) (λi hi=>?_) ?_ om oh).trans (Vp _ _);simp only[ap,ai];rw[ot om,Wx hi];simp only[aa,bB];rw[ot trivial,ot trivial,Jkm hn (a.2 _ oh),aa,ot rfl,gt om];simp
def CA(f:Qo):Prop:=f.Aw.length<=10000/\f.Ax.length<=10000/\∀ c∈f.Aw.map (·.Code)++f.Ax,L1 c
theorem Q1q{n:Nat}{f:Qo}(hn:aq<=n)(e:f.Aw.length<=10000)(g:f.Ax.length<=10000):Wi n f=some (f.Aw.map (·.Code)++f.Ax):=by unfold Wi;unfold aq at hn;refine wH (λs i=>(s,(i:Int))) (λi (x:Q9) s=>.inl (s++[x.Code])) (λs=>s) (λi s=>s.length=i) f.Aw [] (λi x s a j=>?_) oh rfl om ?_;have hi:=Vh a;refine⟨?_,ol⟩;simp only[ap,ot (show(i:Int)<(f.Aw.length:Int) by omega),Ku a,aa];rw[Jv ol ol,aa,w1 om];rfl;rw[qd (λ(x:Q9) s=>s++[x.Code]),wI,xi,Jv ol ol,aa]
theorem GU{n:Nat}{f:Qo}(hn:aq<=n)(hf:CA f):Xn n f f=some true:=by
 unfold Xn;have g:1000000<=n:=by grind[aq]
 obtain⟨a,e,j⟩:=hf;simp only[ai,bB];rw[ot trivial,ot trivial];refine(jg (λi:Nat=>(i:Int)) f.Aw.length (Lp.go ()) (λi hi=>?_) ?_ om oh).trans ?_;simp only[ap];rw[ot om,Wx hi];simp only[aa];rw[ot trivial,gt om];simp;rw[Vp,Q1q hn a e,aa,aa];have k:(f.Aw.map (·.Code)++f.Ax).length<=20000:=ol
 refine(jg (λi:Nat=>(i:Int)) (f.Aw.map (·.Code)++f.Ax).length (Lp.go ()) (λi hi=>?_) ?_ om oh).trans (Vp _ _);simp only[ap];rw[ot om,Wx hi];simp only[aa];rw[Q1p g ol,aa,show(!true)=false by rfl,ak,gt om];simp
theorem TD{n:Nat}(hn:aq<=n)(g:c.length<=1000000000):v7 n c=some (c.map dN):=by unfold v7;unfold aq at hn;refine wH (λs i=>(s,(i:Int))) (λi (x:Qi) s=>.inl (s++[dN x])) (λs=>s) (λi s=>s.length=i) c [] (λi x s a e=>?_) oh rfl om ?_;have hi:=Vh a;refine⟨?_,ol⟩;simp only[ap,ot (show(i:Int)<(c.length:Int) by omega),Ku a,aa];rw[Jv ol ol,aa,w1 om];rfl;rw[qd (λ(x:Qi) s=>s++[dN x]),wI,xi]
theorem GV{n:Nat}{f:Qt}(hn:aq<=n)(h:kg f):Xz n f=some (dF f):=by unfold Xz;obtain⟨m,p,g⟩:=h;unfold aQ at g;have e:=hn;unfold aq at hn;refine wH (λs i=>(s,(i:Int))) (λi (x:Jz) s=>.inl (s++[dL x])) (λs=>s) (λi s=>s.length=i) f.Aw [] (λi x s a k=>?_) oh rfl om ?_;have hi:=Vh a;refine⟨?_,ol⟩;have j:=(g x.Code (List.mem_append_left _ (List.mem_map_of_mem (mt a)))).1;simp only[ap,ot (show(i:Int)<(f.Aw.length:Int) by omega),Ku a,aa];rw[TD e om,aa,Jv ol ol,aa,w1 om];rfl;rw[qd (λ(x:Jz) s=>s++[dL x]),wI,xi];refine wH (λs i=>(s,(i:Int))) (λi (x:List Qi) s=>.inl (s++[x.map dN])) (λs=>s) (λi s=>s.length=i) f.Ax [] (λi x s a k=>?_) oh rfl om ?_;have hi:=Vh a;refine⟨?_,ol⟩;have j:=(g x (List.mem_append_right _ (mt a))).1;simp only[ap,ot (show(i:Int)<(f.Ax.length:Int) by omega),Ku a,aa];rw[TD e om,aa,Jv ol ol,aa,w1 om];rfl;rw[qd (λ(x:List Qi) s=>s++[x.map dN]),wI,xi];rfl
theorem TE(h:c.length<=5000/\∀ x∈c,NO x):L1 (c.map dN):=by refine⟨ol,λx a=>?_⟩;obtain⟨y,e,rfl⟩:=xv.1 a;have:=(h.2 y e).1;show y.N.length<=_;omega
theorem GW{f:Qt}(h:kg f):CA (dF f):=by obtain⟨p,r,e⟩:=h;unfold aQ at e;refine⟨by show(f.Aw.map dL).length<=_;grind,by show(f.Ax.map _).length<=_;grind,λc a=>?_⟩;rcases yz.1 a with a | a;obtain⟨l,j,rfl⟩:=xv.1 a;obtain⟨l',k,rfl⟩:=xv.1 j;exact TE ol;obtain⟨m,g,rfl⟩:=xv.1 a;grind[TE]
theorem L2(s:Be):(kN s).1=0->(kN s).2=0:=by grind[kN]
theorem Joy(t:Be):(dT t).1=0->(dT t).2=0:=by grind[xC,sY,GD,GC]
theorem L3(t:Be):(gr t).1=0->(gr t).2=0:=by grind[gr,Joy]
section
variable {n:Nat}{l:List Qn}{st:du}
def qu(l:List Qn)(nm:Be):Int×Int:=match cc l nm with
 | none=>(0,0)
 | some s=>kN s
def n8(l:List Qn)(nm:Be)(d:Int):Int:=match cc l nm with
 | none=>d
 | some s=>vN s
theorem L4(l:List Qn)(nm:Be):dJ (dq (qu l nm)):=by grind[qp,qu,L2]
theorem Jkn(hn:aq<=n)(g:cw l)(j:dJ st.2)(nm:Be)(d:Int):
 ∃ v,Wl n (ey l st) nm d=some (v,ey l (cH st nm (dq (qu l nm))))/\(st.2.Az=0->v=n8 l nm d):=by
 have a:=L4 l nm;unfold Wl Xy;rw[show(ey l st).l=l from rfl,xD,aa];simp only[ai];unfold qu n8 at *;cases e:cc l nm with
 | none=>
   rw[show(Option.isSome (none:Option Be))=false from rfl,xn,aj,aj,aa];exact⟨_,by rw[my st nm _ rfl],λ_=>rfl⟩
 | some s=>
   rw[e] at a;have k:=xF g e;rw[show(Option.isSome (some s))=true from rfl,ow,ak,qo j,aa];by_cases hk:st.2.Az=0;simp_all[Jeb,mx,dq];simp_all[qr]
theorem GX(hn:aq<=n)(A:cw l)(nm:Be)(d:Int):
 V8 n (dv l st) nm d=some (n8 l nm d,dv l (cH st nm (dq (qu l nm)))):=by
 unfold V8;rw[xE hn (by have:=A.1;omega),aa];unfold qu n8;cases e:cc l nm with
 | none=>
   simp only[];rw[show(Option.isSome (none:Option Be))=false from rfl,xn,aj,my st nm _ rfl]
 | some s=>
   have r:=xF A e;simp only[];rw[show(Option.isSome (some s))=true from rfl,ow,ak,show(some s).getD []=s from rfl,FF hn (xz r oc),aa];unfold kN vN;by_cases k:0<=aw s;rw[ot k,ot k,ou k,aj,show(⟨1,0,0,aw s⟩:Ks)=fA (dq (1,aw s)) from rfl,m9,aa];rw[oq k,oq k,ov k,ak];obtain⟨m,a,u⟩:=lK (show aw s<0 by omega);have C:s.length<=maxLen:=xz r oc;rw[R2 hn C,aa];have p:=Jij m a;have F:(bZ s).length<=4000:=by
    rw[<-wS m a];have:=Lf 60 oc (xr (by simpa using wQ m 0 0 (by grind[jM])) (show tp s.length<=tp 60 from fh u));omega
   refine je (show _=some ((aE ((bZ s).take 8) 0:Nat):Int) from ?_) _ ?_;generalize bZ s=t at *;refine BU (λi=>(((aE (t.take i) 0:Nat):Int),(i:Int))) (min t.length 8) 0 n ?_ ?_ (by grind[Nat.lt_of_le_of_lt,Nat.min_le_right,Nat.lt_of_lt_of_le,aq]);intro i hi;rw[xx];simp only[ai];have j:i<t.length:=om
   obtain⟨G,H⟩:=p _ (uz j);have v:=Jcw p i om;have B:tp i<=100000000:=by have:=fh (show i<=8 by omega);grind[tp]
   rw[ou om,aj,ou om,aj,jL j,aa,aa,Kd j,wP,aK (x:=10*((aE (t.take i) 0:Nat):Int)) om om,aK (x:=10*((aE (t.take i) 0:Nat):Int)+((t[i]).toNat:Int)) om om,aK (x:=10*((aE (t.take i) 0:Nat):Int)+((t[i]).toNat:Int) - 48) om om,w1 om];grind;rw[xx];grind[ai];rw[aa];simp only[ai];have v:=Jke m a;by_cases w:1000000<((aE ((bZ s).take 8) 0:Nat):Int);have g:=v.1 (.inl om);rw[ou w,aj,aj,ot g,ot g,show(⟨2,0,0,0⟩:Ks)=fA (dq (2,0)) from rfl,m9,aa];rw[ov w,ak];by_cases y:8<((bZ s).length:Int);have g:=v.1 (.inr om);rw[ou y,aj,ot g,ot g,show(⟨2,0,0,0⟩:Ks)=fA (dq (2,0)) from rfl,m9,aa];have g:¬ 1000000<aE s 0:=om
   rw[ov y,ak,oq g,oq g,xc om,SR m a,my st nm _ rfl]
abbrev gT:Be:=[115,99,104,101,109,101]
abbrev ne:Be:=[101,117,108,101,114]
def ia(l:List Qn):Be:=(cc l gT).getD ne
theorem Jko:gM ne=some cZ.a0:=oe
theorem Jkp(hn:aq<=n)(k:eJ)(m:bC n)(p:dJ st.2):
 ∃ v,K4 n (ey l st) gT (gO cZ.a0)=some (v,ey l (cH st gT (dq (gr (ia l)))))/\(st.2.Az=0->v=gO (iP (ia l))):=by
 have a:=qp (L3 (ia l));unfold K4;rw[show(ey l st).l=l from rfl,xD,aa];simp only[ai];unfold ia at *;cases e:cc l gT with
 | none=>
   have g:gr ((none:Option Be).getD ne)=(0,0):=oe
   have j:iP ((none:Option Be).getD ne)=cZ.a0:=oe
   rw[show(Option.isSome (none:Option Be))=false from rfl,xn,aj,aj,g,j];exact⟨_,by rw[my st gT _ rfl],λ_=>rfl⟩
 | some s=>
   rw[e] at a;rw[show(Option.isSome (some s))=true from rfl,ow,ak,qo p,aa];by_cases hk:st.2.Az=0;rw[ou hk,ow,ak,show(some s).getD []=s from rfl,Jim hn k m,aa];simp_all[mx,dq];simp_all[qr]
theorem Jkq(hn:aq<=n)(j:bC n)(m:cw l):Y0 n (dv l st)=some (fS (iP (ia l)),dv l (cH st gT (dq (gr (ia l))))):=by
 unfold Y0;rw[xE hn (by have:=m.1;omega),aa];simp only[ai]
 have key:∀ s,((vY n s).bind λk=>
  bif k.2 then (
   some (k.1,dv l st))
  else ((Yt n s).bind λg=>(Jn (dv l st) ([115,99,104,101,109,101]:Be) (⟨g.2.a0,0,0,g.2.a1⟩:Ks)).bind λa=>
   some (g.1,a)))=some (fS (iP s),dv l (cH st gT (dq (gr s)))):=by
  intro s;rw[Jmg hn j,aa];unfold iP gr;cases gM s with
  | some t=>simp only[];rw[aj,my st gT _ rfl]
  | none=>
    simp only[];rw[ak,SZ hn j,aa];simp only[];rw[show(⟨(dT s).1,0,0,(dT s).2⟩:Ks)=fA (dq (dT s)) from rfl,m9,aa];rfl
 unfold ia;cases e:cc l gT with
 | none=>
   grind
 | some s=>
   grind
end
theorem L5:∀ {a:Bf},(aN a).length=a.length↔aN a=a
 | []=>oh
 | x::a=>by
   have:=Wy a;simp only[aN];split
   all_goals simp_all[L5]
def jx(N:Bf):Bool:=decide (aN N=N) && decide ((fQ (val N)).length<=60)
def cP(x:Qi)(d p l:Int):Bool:=
 if x.Op=1 then decide (x.I=0) && jx x.N
 else if 0<x.N.length then false
 else if x.Op=3 then decide (0<=x.I/\x.I<d)
 else if x.Op=4 then decide (0<=x.I/\x.I<p)
 else if x.Op=5 then decide (0<=x.I/\x.I<l)
 else if x.Op=11 then decide (-8<=x.I/\x.I<=8)
 else decide (x.I=0) && decide (0<=ar x.Op)
theorem Q1r{n:Nat}{N:Bf}(hn:aq<=n)(a:N.length<=1000000000)(e:Wd N):zK n N=some (jx N):=by unfold zK jx;rw[ai,W2 hn om,aa,ap];unfold EX;rw[KJ hn a e,aa,aa];by_cases h:aN N=N;rw[ot (by rw[h]),ou h,Bool.true_and];simp;omega;rw[oq (by grind[L5]),ov h,Bool.false_and]
theorem Q3h(i m:Int):rU i m=some (decide (0<=i/\i<m)):=by unfold rU;simp only[ai,ap];grind
theorem Q50{n:Nat}{d l:Int}(hn:aq<=n)(a:x.N.length<=1000000000)(e:Wd x.N):zL n x d p l=some (cP x d p l):=by unfold zL cP;simp only[ai,Q1r hn a e,Q3h,B7,aa,ap,bB];grind
theorem Q51{n:Nat}{x:Qd}{d l:Int}(hn:aq<=n)(r:x.N.length<=1000000000)(u:Wd x.N):Bt n x d p l=some (cP (cN x) d p l):=by
 unfold Bt cP jx;have v:=Wy x.N;simp only[kM,KL,B6,ai,Wz hn (show x.N.length<=35184372088832 by omega),JI (n:=n) (a:=aN x.N) (b:=x.N) hn om,Q5c hn r u,aa,ap];by_cases g:x.Op=1;simp only[ot g];by_cases j:x.I=0;simp only[j,yf,Bool.true_and];by_cases k:aN x.N=x.N;rw[ot k,ou k,Bool.true_and];simp;omega;grind;grind;simp only[oq g];by_cases h0:0<x.N.length;grind;rw[oq om,oq h0];by_cases m:x.Op<1;rw[ot m,aj,oq om,oq om,oq om,oq om];have:ar x.Op=-1:=by grind[ar]
 simp[*];rw[oq m];by_cases e:11<x.Op;rw[ot e,oq om,oq om,oq om,oq om];have:ar x.Op=-1:=by grind[ar]
 simp[*];rw[oq e];have:0<=ar x.Op:=by grind[ar]
 grind
def th(d p l w:Int)(i:Nat)(x:Qi)(_:Unit):Unit ⊕ Int:=if (i:Int)=w\/cP x d p l=false then .inr (i:Int) else .inl ()
def dh(c:List Qi)(d p l:Int):Int:=aT (th d p l (bU c)) (λ_=>bU c) c 0 ()
def NB(x:Qi):Prop:=x.N.length<=100000/\Wd x.N
theorem Q3i{n:Nat}{d l:Int}(hn:aq<=n)(g:c.length<=1000000000)(hN:∀ x∈c,NB x):zM n c d p l=some (dh c d p l):=by unfold zM dh;rw[R4 om,aa];refine Fs (th d p l (bU c)) _ (λ_ _=>True) c (λi x _ j _=>⟨?_,oh⟩) trivial oh;obtain⟨e,a⟩:=hN x ol;simp only[ai,Q50 (d:=d) (p:=p) (l:=l) hn om a,aa,ap,th];grind[iK]
theorem Q3j{n:Nat}{c:List Qd}{d l:Int}(hn:aq<=n)(k:c.length<=1000000000)(hN:∀ x∈c.map cN,NB x):Bu n c d p l=some (dh (c.map cN) d p l):=by unfold Bu dh;rw[R5 hn om,aa,BT];have a:=hn;unfold aq at hn;refine sH (λ_ i=>(i:Int)) (λi x b=>th d p l (bU (c.map cN)) i (cN x) b) (λ_=>()) _ (λ_ _=>True) c () (λi x b g _=>⟨?_,oh⟩) oh oh trivial om;have hi:=Vh g;obtain⟨j,e⟩:=hN (cN x) ol;rw[B6] at j e;simp only[ap,ai,Ku g,Q51 (d:=d) (p:=p) (l:=l) a om e,aa,th,w1 (show i<9223372036854775807 by omega)];grind[dw]
def cQ(s:Be):Bool:=dp 2 s && (decide (s≠[116]) && (decide (s≠[121]) && (decide (s≠[112]) && decide (s≠[108,101,116]))))
theorem Q52{n:Nat}{s:Be}(hn:aq<=n)(a:s.length<=4611686018427387904):zH n s=some (cQ s):=by unfold zH cQ;simp only[ai,ap,FL (w:=⟨2,s,0⟩) hn a,aa];grind
theorem Q53{n:Nat}{s:Be}(hn:aq<=n):Br n s=some (cQ s):=by unfold Br cQ;simp only[ai,bB,FS (w:=⟨2,s,0⟩) hn,aa];grind
def dA(L:List Jz)(i:Nat):Bool:=(L.take i).any (λl=>decide (some l.A0=L[i]?.map (·.A0)))
theorem Q3k{n:Nat}{L:List Jz}{i:Nat}(hn:aq<=n)(hi:i<L.length)(u:L.length<=1000000000):zI n L (i:Int)=some (dA L i):=by
 unfold zI dA;unfold aq at hn;have g:L[i]?=some L[i]:=xm hi;have e:((L.take i).any (λl=>decide (some l.A0=L[i]?.map (·.A0))))=aT (τ:=Bool) (λ_ (l:Jz) (_:Unit)=>if l.A0=(L[i]).A0 then .inr true else .inl ()) (λ_=>false) (L.take i) 0 ():=by
  have:∀(l:List Jz) (k:Nat),l.any (λl=>decide (some l.A0=L[i]?.map (·.A0)))=aT (τ:=Bool) (λ_ (l:Jz) (_:Unit)=>if l.A0=(L[i]).A0 then .inr true else .inl ()) (λ_=>false) l k ():=by
   intro l
   induction l with
   | nil=>intro k;rfl
   | cons x l r=>
     intro k;rw[g] at r |-;simp only[wq,aT,yd,Option.some.injEq];grind
  grind
 rw[e];refine sH (λ_ j=>(j:Int)) (λ_ (l:Jz) (_:Unit)=>if l.A0=(L[i]).A0 then .inr true else .inl ()) (λ_=>()) _ (λ_ _=>True) (L.take i) () (λj x b p _=>⟨?_,oh⟩) ol oh trivial ol;have v:=Vh p;have m:j<i:=ol
 have a:L[j]?=some x:=ol
 simp only[ap,ot (show(j:Int)<(i:Int) by omega),Ku a,Ku g,aa,w1 (show j<9223372036854775807 by omega)];by_cases h:x.A0=(L[i]).A0;rw[ot h,ot h];rfl;rw[oq h,oq h];rfl
def cn(c:List Qi)(num d p l:Int):Qc:=
 if 0<=dh c d p l then ⟨2,num,0,dh c d p l⟩ else if 40<fi c then ⟨2,num,0,(c.length:Int)⟩ else ⟨0,0,0,0⟩
theorem TF{n:Nat}{num d l:Int}(hn:aq<=n)(a:c.length<=1000000000)(hN:∀ x∈c,NB x):uX n c num d p l=some (cn c num d p l):=by unfold uX cn;rw[Q3i hn a hN,aa];simp only[ai,Q5e hn a,aa,ap];grind
def dB(f:Qt)(d p:Int):Bool:=decide (1<=d/\d<=6/\0<=p/\p<=6/\(f.Ax.length:Int)=d/\f.Aw.length<=10/\jk f<=300)
theorem Q3l{f:Qt}{d:Int}(h:FB f):zF f d p=some (dB f d p):=by unfold zF dB;simp only[ai,Q7l h,aa,ap];grind
def f0:Qc:=⟨0,0,0,0⟩
theorem CB(x y:Qc):Ji x y=true↔x=y:=by cases x;cases y;simp[Ji]
theorem TG(x y:Qc)[Decidable (x=y)]:Ji x y=decide (x=y):=by rw[Bool.eq_iff_iff,CB,yq]
instance:DecidableEq Qc:=λx y=>if h:Ji x y=true then isTrue ((CB x y).1 h) else isFalse (λe=>h ((CB x y).2 e))
theorem L6(c num d p l):cn c num d p l=f0↔dh c d p l<0/\fi c<=40:=by grind[cn,f0]
def jy(L:List Jz)(d p:Int)(i:Nat)(l:Jz)(_:Unit):Unit ⊕ Qc:=
 if cQ l.A0=false\/dA L i=true then .inr ⟨2,(i:Int)+1,1,0⟩ else if cn l.Code ((i:Int)+1) d p i=f0 then .inl () else .inr (cn l.Code ((i:Int)+1) d p i)
def kh(k:Nat)(d p:Int)(i:Nat)(c:List Qi)(_:Unit):Unit ⊕ Qc:=
 if cn c ((k:Int)+i+1) d p k=f0 then .inl () else .inr (cn c ((k:Int)+i+1) d p k)
def iC(f:Qt)(d p:Int):Qc:=aT (kh f.Aw.length d p) (λ_=>f0) f.Ax 0 ()
def aI(f:Qt)(d p:Int):Qc:=
 if dB f d p=false then ⟨2,0,0,0⟩ else aT (jy f.Aw d p) (λ_=>iC f d p) f.Aw 0 ()
theorem TH{f:Qt}(h:FB f){l:Jz}(a:l∈f.Aw):l.Code.length<=1000000000/\∀ x∈l.Code,NB x:=by have:=h.2.2 l.Code (List.mem_append_left _ ol);exact⟨om,this.2⟩
theorem TI{f:Qt}(h:FB f)(a:c∈f.Ax):c.length<=1000000000/\∀ x∈c,NB x:=by have:=h.2.2 c (List.mem_append_right _ a);exact⟨om,this.2⟩
theorem TJ{n:Nat}{f:Qt}{d:Int}(hn:aq<=n)(h:FB f)(g:∀ l∈f.Aw,l.A0.length<=4611686018427387904):rV n f d p=some (aI f d p):=by
 unfold rV aI;rw[Q3l h,aa];cases dB f d p with
 | false=>rfl
 | true=>
   simp only[ow,ak,Bool.true_eq_false,if_false];have j:=h.1;have k:=h.2.1;refine Fs (jy f.Aw d p) _ (λ_ _=>True) f.Aw (λi l _ a _=>⟨?_,oh⟩) trivial (λ_ _=>?_);have hi:=Vh a;obtain⟨g1,e⟩:=TH h (mt a);simp only[ai,Q52 hn (g l (mt a)),Q3k (L:=f.Aw) hn hi om,aa,aK om (show(i:Int)+1<=9223372036854775807 by omega),TF (num:=(i:Int)+1) (d:=d) (p:=p) (l:=(i:Int)) hn g1 e,TG,jy];grind[iK,f0];unfold iC;refine Fs (kh f.Aw.length d p) _ (λ_ _=>True) f.Ax (λi c _ a _=>⟨?_,oh⟩) trivial (λ_ _=>rfl);have hi:=Vh a;grind[TI,aK,TF,TG,kh,f0,iK]
theorem TK{α β τ:Type}{g a:Nat->α->β->β ⊕ τ}{e m:β->τ}:∀ {xs:List α}{i:Nat}{b:β},(∀ j x b,xs[j]?=some x->g (i+j) x b=a (i+j) x b)->(∀ b,e b=m b)->aT g e xs i b=aT a m xs i b
 | [],_,b,_,k=>k b
 | x::xs,i,b,h,k=>by
   have h0:=h 0 x b rfl;rw[xg] at h0;simp only[aT,h0];cases a i x b with
   | inl r=>exact TK (λj y c p=>by have:=h (j+1) y c (by simpa using p);rwa [show i+(j+1)=i+1+j by omega] at this) k
   | inr t=>rfl
theorem TL{α β τ:Type}(g:Nat->α->β->β ⊕ τ)(e:β->τ):∀(xs a:List α) (i:Nat) (b:β),aT g e (xs++a) i b=aT g (λb=>aT g e a (i+xs.length) b) xs i b
 | [],a,i,b=>rfl
 | x::xs,a,i,b=>by
   simp only[yr,aT];cases g i x b with
   | inl j=>simp only[TL g e xs a (i+1) j,xd];rw[show i+1+xs.length=i+(xs.length+1) by omega]
   | inr t=>rfl
theorem TM{α β τ:Type}(g:Nat->α->β->β ⊕ τ)(e:β->τ):∀(xs:List α) (i k:Nat) (b:β),aT g e xs (k+i) b=aT (λi x b=>g (k+i) x b) e xs i b
 | [],_,_,_=>rfl
 | x::xs,i,k,b=>by
   simp only[aT];cases g (k+i) x b with
   | inl a=>simp only[];rw[show k+i+1=k+(i+1) by omega];exact TM g e xs (i+1) k a
   | inr t=>rfl
theorem L7{α τ:Type}{g:Nat->α->Unit->Unit ⊕ τ}{e:Unit->τ}{v:τ}:∀ {xs:List α}{k:Nat},(∀ j x t,xs[j]?=some x->g (k+j) x ()=.inr t->t≠v) ->
 (aT g e xs k ()=v↔(∀ j x,xs[j]?=some x->g (k+j) x ()=.inl ())/\e ()=v)
 | [],k,_=>by simp[aT]
 | x::xs,k,h=>by
   simp only[aT];have h0:=h 0 x;rw[xg] at h0;cases r:g k x () with
   | inl b=>
     simp only[];rw[L7 (xs:=xs) (k:=k+1) (λj y t a u=>h (j+1) y t ol ol)];constructor;grind;rintro⟨m,p⟩;refine⟨λj y a=>?_,p⟩;have:=m (j+1) y (by simpa using a);grind
   | inr t=>
     grind
def iq(F:Qc):Bool×Yd:=if F=f0 then (false,⟨0,0,0⟩) else (true,⟨F.Step,F.Bd,F.At⟩)
theorem GY(F:Qc)(h:F.Az=2):iq F=(true,⟨F.Step,F.Bd,F.At⟩):=by unfold iq;rw[oq];rintro rfl;grind[f0]
theorem TN:iq f0=(false,⟨0,0,0⟩):=oe
theorem L8{c num d p l}(h:cn c num d p l≠f0):(cn c num d p l).Az=2:=by unfold cn at *;split;rfl;rename_i a;rw[oq a] at h;split;rfl;rename_i e;rw[oq e] at h;exact absurd rfl h
def ki(L:List Jz)(d p:Int)(i:Nat)(c:List Qi)(_:Unit):Unit ⊕ (Bool×Yd):=
 if i<L.length/\(((L[i]?.map (λl=>cQ l.A0)).getD true)=false\/dA L i=true) then .inr (true,⟨(i:Int)+1,1,0⟩)
 else if cn c ((i:Int)+1) d p (min i L.length:Nat)=f0 then .inl () else .inr (iq (cn c ((i:Int)+1) d p (min i L.length:Nat)))
theorem Jmn(l):(cL l).A0=l.A0:=oe
theorem TO{α:Type}(q:α->Bool):∀(l:List α) (r:Bool),l.foldl (λb x=>b && !q x) r=(r && !l.any q)
 | [],r=>oh
 | x::l,r=>by rw[vw,TO q l];simp[Bool.and_assoc]
theorem Q3m{n:Nat}{f:Qo}{d:Int}(hn:aq<=n)(h:FB (cF f)):Zx n f d p=some (iq (aI (cF f) d p)):=by
 unfold Zx;have a:=hn;have O:f.Aw.length<=1000:=by have:=h.1;grind[cF]
 have P:f.Ax.length<=1000:=by have:=h.2.1;grind[cF]
 have m:(cF f).Aw.length=f.Aw.length:=by simp[cF]
 have r:(cF f).Ax.length=f.Ax.length:=by simp[cF]
 unfold aq at hn;simp only[ai,Q5h a h,R8 a O P,aa,ap,bB];unfold aI;by_cases I:dB (cF f) d p=true
 . rw[I]
   have e:=I;simp only[dB,yq,m,r] at e;obtain⟨S,T,U,X,K,Y,Z⟩:=e;rw[oq om,oq om,oq om,oq om,ot K,oq om,oq om];simp only[Bool.true_eq_false,if_false];have hgoal:aT (ki (cF f).Aw d p) (λ_=>(false,(⟨0,0,0⟩:Yd))) ((f.Aw.map (·.Code)++f.Ax).map (·.map cN)) 0 ()=iq (aT (jy (cF f).Aw d p) (λ_=>iC (cF f) d p) (cF f).Aw 0 ()):=by
    rw[JR iq];have M:(f.Aw.map (·.Code)++f.Ax).map (·.map cN)=(cF f).Aw.map (·.Code)++(cF f).Ax:=by rw[<-FH];rfl
    rw[M,TL,BT];refine TK (λj l b g=>?_) (λb=>?_)
    . have C:=Vh g
      simp only[xx];unfold ki jy;rw[g];simp only[yd,ut];rw[show min j (cF f).Aw.length=j by omega];by_cases u:cQ l.A0=false\/dA (cF f).Aw j=true
      . rw[ot ⟨C,u⟩,ot u];show _=Sum.inr (iq _);rw[GY _ oe]
      grind
    . unfold iC
      rw[JR iq,TN,xf,xx];have:=TM (ki (cF f).Aw d p) (λ_=>(false,(⟨0,0,0⟩:Yd))) (cF f).Ax 0 (cF f).Aw.length b;rw[xg] at this;rw[this];refine Rb (λj c b Q=>?_) oh;unfold ki kh;grind
   rw[<-hgoal,BT];generalize g:f.Aw.map (·.Code)++f.Ax=l;have R:l.length<=2000:=ol
   have H:∀ c∈l,c.length<=1000000000/\∀ x∈c.map cN,NB x:=λc Q=>by have:=h.2.2 (c.map cN) (by grind[FH]);simp only[xf] at this;exact⟨om,this.2⟩
   refine sH (λ_ i=>(i:Int)) (λi c b=>ki (cF f).Aw d p i (c.map cN) b) (λ_=>()) (λ_=>(false,(⟨0,0,0⟩:Yd))) (λ_ _=>True) l () (λi c b L _=>⟨?_,oh⟩) ?_ ?_ trivial ?_;have hi:=Vh L;obtain⟨g1,N⟩:=H c ol;have w:min (i:Int) (f.Aw.length:Int)=((min i (cF f).Aw.length:Nat):Int):=om
   simp only[ot (show(i:Int)<(l.length:Int) by omega),Ku L,aa,w,Q3j (d:=d) (p:=p) (l:=((min i (cF f).Aw.length:Nat):Int)) a g1 N,Q2w a g1,w1 (show i<9223372036854775807 by omega)]
   have htail:(if 0<=dh (c.map cN) d p ((min i (cF f).Aw.length:Nat):Int) then some (Lp.out (Lp.out (true,(⟨((i+1:Nat):Int),0,dh (c.map cN) d p ((min i (cF f).Aw.length:Nat):Int)⟩:Yd))))
    else if 40<fi (c.map cN) then some (.out (.out (true,(⟨((i+1:Nat):Int),0,(c.length:Int)⟩:Yd)))) else some (.go ((i+1:Nat):Int))) =
    some (dw (τ0:=Unit) (λ(_:Unit) i=>((i:Nat):Int)) i (if cn (c.map cN) ((i:Int)+1) d p (min i (cF f).Aw.length:Nat)=f0 then .inl () else .inr (iq (cn (c.map cN) ((i:Int)+1) d p (min i (cF f).Aw.length:Nat))))):=by
    by_cases A:cn (c.map cN) ((i:Int)+1) d p (min i (cF f).Aw.length:Nat)=f0
    . rw[ot A]
      obtain⟨y,J⟩:=(L6 _ _ _ _ _).1 A;rw[oq om,oq om];rfl
    . rw[oq A,GY _ (L8 A)]
      by_cases y:0<=dh (c.map cN) d p ((min i (cF f).Aw.length:Nat):Int)
      . rw[ot y];unfold cn;rw[ot y];rfl
      . rw[oq y]
        by_cases J:40<fi (c.map cN)
        . rw[ot J];unfold cn;rw[oq y,ot J];simp[dw]
        grind[L6]
   by_cases k:i<f.Aw.length
   . have B:f.Aw[i]?=some f.Aw[i]:=xm k
     have v:(cF f).Aw[i]?=some (cL f.Aw[i]):=by simp[cF,k]
     rw[ot om];simp only[Ku B,aa,Q53 a];refine je (show _=some (cQ (f.Aw[i]).A0 && !dA (cF f).Aw i) from ?_) _ ?_
     . refine(QZ (λ(b:Bool) j=>(b,(j:Int))) (λ_ (l:Q9) b=>.inl (b && !decide (l.A0=(f.Aw[i]).A0))) (λb=>b) (λ_ _=>True) (f.Aw.take i) (b:=cQ (f.Aw[i]).A0)
        (λj l b g _=>⟨by
         have C:=Vh g;have F:j<i:=by simp at C;omega
         have G:f.Aw[j]?=some l:=by rw[vf] at g;rw[ot F] at g;exact g
         simp only[ot (show(j:Int)<(i:Int) by omega),Ku G,aa,w1 (show j<9223372036854775807 by omega)]
         cases b<;>rfl,oh⟩) ol trivial oj).trans ?_
       rw[qd (λ(l:Q9) b=>b && !decide (l.A0=(f.Aw[i]).A0)),TO (λl:Q9=>decide (l.A0=(f.Aw[i]).A0))];congr 3;unfold dA;rw[v];simp only[cF,<-List.map_take,List.any_map,yd,Option.some.injEq];rfl
     rw[aa];unfold ki;rw[v];simp only[yd,ut,Jmn];by_cases u:cQ (f.Aw[i]).A0=false\/dA (cF f).Aw i=true
     . rw[ot (show i<(cF f).Aw.length/\(cQ (f.Aw[i]).A0=false\/dA (cF f).Aw i=true) from⟨om,u⟩)]
       have:(cQ (f.Aw[i]).A0 && !dA (cF f).Aw i)=false:=by rcases u with h | h<;>simp[h]
       rw[this];simp only[xn,aj,dw];rfl
     grind
   . rw[oq om]
     unfold ki;grind
   all_goals grind
 . have e:dB (cF f) d p=false:=ol
   rw[e,ot rfl,GY _ rfl];simp only[dB,yq,m,r] at I;grind
theorem L9{α τ:Type}{g:Nat->α->Unit->Unit ⊕ τ}{e:Unit->τ}{P:τ->Prop}:∀ {xs:List α}{k:Nat},(∀ j x t,x∈xs->g j x ()=.inr t->P t)->P (e ())->P (aT g e xs k ())
 | [],k,_,a=>a
 | x::xs,k,h,a=>by
   simp only[aT];cases m:g k x () with
   | inl b=>exact L9 ol a
   | inr t=>grind
theorem TP(f d p):aI f d p=f0\/(aI f d p).Az=2:=by unfold aI;split;simp;refine L9 (P:=λF=>F=f0\/F.Az=2) (λj l t _ a=>?_) ?_;unfold jy at a;split at a;grind;grind[L8];unfold iC;refine L9 (P:=λF=>F=f0\/F.Az=2) (λj l t _ a=>?_) (.inl rfl);grind[kh,L8]
theorem Jgu{d l:Int}:dh c d p l<0↔bU c<0/\∀ x∈c,cP x d p l=true:=by
 unfold dh;have key:∀(a:List Qi) (k:Nat),(aT (th d p l (bU c)) (λ_=>bU c) a k ()<0↔bU c<0/\∀ x∈a,cP x d p l=true):=by
  intro a
  induction a with
  | nil=>grind[aT]
  | cons y a e=>
    intro k;simp only[aT,th];grind
 grind
theorem Jeh{d l a e:Int}(hd:d<=a)(g:p<=e)(h:cP x d p l=true):cP x a e l=true:=by grind[cP]
theorem Jei{f d p}:aI f d p=f0↔dB f d p=true/\(∀(i:Nat) l,f.Aw[i]?=some l->cQ l.A0=true/\dA f.Aw i=false/\cn l.Code ((i:Int)+1) d p i=f0)/\∀(i:Nat) c,f.Ax[i]?=some c->cn c ((f.Aw.length:Int)+i+1) d p f.Aw.length=f0:=by
 unfold aI;cases k:dB f d p with
 | false=>simp[f0]
 | true=>
   simp only[Bool.true_eq_false,if_false,true_and];rw[L7 (v:=f0)];refine and_congr ?_ ?_;refine forall_congr' λj=>forall_congr' λl=>imp_congr_right λg=>?_;rw[xx];unfold jy;grind;unfold iC;rw[L7 (v:=f0)];simp only[and_true];refine forall_congr' λj=>forall_congr' λc=>imp_congr_right λe=>?_;rw[xx];unfold kh;by_cases a:cn c ((f.Aw.length:Int)+j+1) d p f.Aw.length=f0;rw[ot a];simp[a];rw[oq a];simp[a];grind[kh];grind[jy,f0]
theorem ar0(h:ar op=0):op=1\/op=2\/op=3\/op=4\/op=5:=by grind[ar]
theorem TQ(h:ar op=1):op=6\/op=11:=by grind[ar]
theorem TR(h:ar op=2):op=7\/op=8\/op=9\/op=10:=by grind[ar]
theorem nf{l:Int}(h0:ar x.Op=0)(h:cP x 6 6 l=true):
 (x.Op=1/\x.I=0/\aN x.N=x.N/\(fQ (val x.N)).length<=60)\/(x.Op=2/\x.I=0/\x.N=[])\/(x.Op=3/\0<=x.I/\x.I<6/\x.N=[])\/(x.Op=4/\0<=x.I/\x.I<6/\x.N=[])\/(x.Op=5/\0<=x.I/\x.I<l/\x.N=[]):=by
 have a:¬ 0<x.N.length->x.N=[]:=oh
 unfold cP jx at h;rcases ar0 h0 with e | e | e | e | e
 all_goals grind
section
variable {n:Nat}{Nm:List Be}(hn:aq<=n) (hN:∀ s∈Nm,s.length<=100)
include hn
include hn hN
end
def bL:Nat:=18446744073709553616
def TS(f:Qt):Prop:=f.Aw.length<=12/\f.Ax.length<=12/\(∀ l∈f.Aw,l.A0.length<=100)/\∀ c∈aQ f,c.length<=1500/\∀ x∈c,NB x
section
variable {f:Qt}(hS:TS f) (hf:aI f (f.Ax.length:Int) 6=f0)
include hS hf
end
def Ma(Nm:List Be):Prop:=∀ s∈Nm,cQ s=true
section
variable {W:List Qm}{E:Int}{Nm:List Be}(hW:gE W)
include hW
def NmU(Nm:List Be):Prop:=∀ i,i<Nm.length->io Nm (Nm.getD i []) 0=(i:Int)
end
section
variable {W:List Qm}{E:Int}{Nm:List Be}
variable (hW:gE W)
include hW
variable (hN:Ma Nm) (hU:NmU Nm)
include hN hU
end
section
variable {f:Qt}(hS:TS f) (hf:aI f (f.Ax.length:Int) 6=f0)
include hS hf
end
section
variable {W:List Qm}{E:Int}(hW:gE W)
include hW
end
section
variable {W:List Qm}{E:Int}(hW:gE W)
include hW
theorem Jgv{i:Nat}:((aZ W i).Av).length<=100:=by
 rcases yx i W.length with h | h;have e:=hW.2 _ (S8 h);cases a:(aZ W i).Av with
 | nil=>simp
 | cons c t=>grind[sN,Cc]
 grind[xG]
theorem TT:∀(k:Nat) (Nm:List Be) (L:List Jz) (i:Nat) (v),5*L.length<=i->(∀ l∈L,l.A0.length<=100)->cM W E k Nm L i=.ok v->5*v.1.1.length<=v.2/\∀ l∈v.1.1,l.A0.length<=100
 | 0,Nm,L,i,v,m,p,h=>by grind[cM]
 | k+1,Nm,L,i,v,m,p,h=>by unfold cM at h;split at h;obtain⟨a,r,h⟩:=Vq h;obtain⟨j,w,h⟩:=Vq h;obtain⟨c,u,h⟩:=Vq h;obtain⟨A,e,h⟩:=Vq h;obtain⟨a1,a2,a3⟩:=GL r;obtain⟨rfl,x⟩:=jv oh w;have g:=lV _ _ u;obtain⟨rfl,c2⟩:=jv oh e;refine TT k _ _ _ v oj (λl y=>?_) h;grind[Jgv];grind
omit hW in
theorem TU{Nm:List Be}:∀(k:Nat) (O:List (List Qi)) (i:Nat) (v),2*O.length<=i->cO W E Nm k O i=.ok v->2*v.1.length<=v.2
 | 0,O,i,v,a,h=>by unfold cO at h;cases h;exact a
 | k+1,O,i,v,a,h=>by unfold cO at h;split at h;obtain⟨c,e,h⟩:=Vq h;have g:=lV _ _ e;exact TU k _ _ v oj h;cases h;exact a
theorem Jgw{v}(h:dc W E=.ok v):5*v.1.1.Aw.length<=W.length/\2*v.1.1.Ax.length<=W.length/\∀ l∈v.1.1.Aw,l.A0.length<=100:=by unfold dc at h;obtain⟨a,e,h⟩:=Vq h;obtain⟨j,p,h⟩:=Vq h;obtain⟨c,m,h⟩:=Vq h;obtain⟨b,g,h⟩:=Vq h;obtain⟨k,hk,h⟩:=Vq h;cases h;have g0:=Cu _ _ _ _ _ oh oh oh e;obtain⟨rfl,g1⟩:=jv oh p;have w:=lV _ _ m;have g3:=Cv _ _ _ _ om ol g;obtain⟨r,u⟩:=TT hW _ _ _ _ _ oh oh e;have f3:=TU _ _ _ _ ol g;grind
end
theorem Ji6{s:Be}{f:Qt}(u:s.length<=1500)(h:cu s=.ok f):FB f/\∀ l∈f.Aw,l.A0.length<=4611686018427387904:=by
 have k:=TC h;unfold cu at h;rw[oq om] at h;cases a:bt s 0 with
 | inr p=>grind
 | inl ws=>
   rw[a] at h;have j:=Cz om a;have r:=(Cy _ s 0 ws (xe _) a).1;obtain⟨v,m,h⟩:=Vq h;obtain⟨g1,g,g3⟩:=Jgw j.1 m;rw[xf] at g1 g;split at h;cases h;cases h;refine⟨⟨om,om,λc a=>?_⟩,ol⟩;have:=k.2.2 c a;exact⟨om,λx e=>⟨by have:=(this.2 x e).1;omega,(this.2 x e).2⟩⟩
def fV:List Be:=match rS with
 | some r=>r
 | none=>[]
def jz:List Be:=match zt with
 | some r=>r
 | none=>[]
theorem Mb:rS=some fV:=rfl
theorem Md:Zu=some fV:=rfl
theorem Jmo:zt=some jz:=rfl
theorem TV(L:List Be)(x:Be):W0 L x=some (decide (x∈L)):=by
 unfold W0 Z9
 have key:∀(L:List Be) (i:Nat),((ao (λ(a:Nat) (g:Be) (_:Unit)=>
  bif decide (x=g) then (some (.out ((a:Int)))) else (some (.go ()))) L i ()).bind (aS λ(_:Unit)=>
 some (-1))).bind (λe=>some (decide (0<=e)))=some (decide (x∈L)):=by
  intro L
  induction L with
  | nil=>intro i;rfl
  | cons y r j=>
    intro i;simp only[ao];by_cases h:x=y;rw[ou h,aj,aa,aa,Yy,aa,ou om,ou (by rw[h];exact .head _)];grind
 grind
def gU:List Qn->du->du
 | [],st=>st
 | p::r,st=>gU r (if p.A0∈fV then st else cH st p.A0 (dq (2,0)))
theorem po:dJ (dq (2,0)):=by grind[qp,absurd]
theorem GZ:∀(r:List Qn) {st:du},dJ st.2->dJ (gU r st).2
 | [],_,h=>h
 | p::r,st,h=>by unfold gU;split;exact GZ r h;exact GZ r (kU h po)
theorem Jmp{l:List Qn}{st:du}(a:dJ st.2):zp (ey l st)=some (ey l (gU l st)):=by
 unfold zp;refine JB λf j=>?_;have key:∀(r:List Qn) (i:Nat) (st:du),dJ st.2->(ao f r i (ey l st)).bind (aS λ(e:Jc)=>some e)=some (ey l (gU r st)):=by
  subst j;intro r
  induction r with
  | nil=>intro i st _;rfl
  | cons p r g=>
    intro i st a;simp only[ao];rw[Mb,aa,TV,aa];unfold gU;by_cases h:p.A0∈fV;rw[ou h,ow,ak,ot h,aa];exact g (i+1) st a;rw[ov h,xn,aj,oq h];unfold Z7;rw[aa,show(⟨2,0,0,0⟩:Qc)=dq (2,0) from rfl,mx a po,aa,aa];exact g (i+1) _ (kU a po)
 exact key l 0 st a
theorem Jgx{s:Be}{q:Int}(h:cu s=.error q):0<=q:=by
 unfold cu at h;split at h;grind;cases g:bt s 0 with
 | inr p=>grind
 | inl ws=>
   rw[g] at h;have e:=Cz om g;simp only[] at h;have hf:=Tu e (n:=aq+100) oh;cases a:dc (ws.map bg) (s.length:Int) with
   | error p=>
     grind[Wg]
   | ok v=>
     rw[a,Vx] at h;split at h;cases h;exact jw e _;grind
def qv(n:Nat)(L:List Be)(x:Be):Option Bool:=ae (λ(s212:Bool×Int)=>
         bif decide (s212.2<(L.length:Int)) then (jn (λj218=>bif s212.1 then (
            j218 true)
           else ((ah L s212.2).bind λy222=>
            j218 (decide (y222=x)))) (λ(s220:Bool)=>
           some (.go (s220,wrap64 (s212.2+1))))) else (some (.out s212.1))) n (false,0)
theorem Jkr{n:Nat}{x:Be}(hn:aq<=n)(j:L.length<=1000):qv n L x=some (decide (x∈L)):=by
 unfold qv
 have h:=BU (f:=(λ(s212:Bool×Int)=>
        bif decide (s212.2<(L.length:Int)) then (jn (λj218=>bif s212.1 then (
           j218 true)
          else ((ah L s212.2).bind λy222=>
           j218 (decide (y222=x)))) (λ(s220:Bool)=>
          some (.go (s220,wrap64 (s212.2+1))))) else (
         some (Lp.out s212.1)))) (λi=>(decide (x∈L.take i),(i:Int))) (t:=decide (x∈L)) L.length 0 n ?_ ?_ (by grind[Nat.lt_of_le_of_lt,Nat.lt_of_lt_of_le,aq])
 exact h;intro i hi;rw[xx];simp only[ai];have e:L[i]?=some L[i]:=xm hi;have a:L.take (i+1)=L.take i++[L[i]]:=oh
 rw[ou om,aj,w1 om,a];by_cases g:x∈L.take i;grind;rw[ov g,ak,Ku e,aa];grind;simp
abbrev bR:Be:=[100,111]
abbrev cR:Be:=[102,105,101,108,100]
def aB(l:List Qn):Qt:=(n7 ⟨[],[]⟩ (cu (aY l cR))).1
def fL(l:List Qn):Qc:=(n7 (⟨[],[]⟩:Qt) (cu (aY l cR))).2
def CC(l:List Qn)(st:du):du:=if aY l bR∈jz then st else cH st bR (dq (2,0))
def tj(l:List Qn)(st:du):du:=cH (CC l st) cR (fL l)
theorem TX(l:List Qn):dJ (fL l):=by
 unfold fL;cases cu (aY l cR) with
 | ok f=>exact λ_=>rfl
 | error q=>exact λh=>absurd h (show ¬ 1=0 by decide)
theorem Joz{l:List Qn}{st:du}(h:dJ st.2):dJ (CC l st).2:=by grind[CC,kU,po]
theorem Jmq{n:Nat}{l:List Qn}{st:du}(hn:aq+100<=n)(m:cw l)(g:dJ st.2):zC n (ey l st)=some (aY l bR,aB l,ey l (tj l st)):=by
 unfold zC EU;rw[show(ey l st).l=l from rfl,xD,aa];simp only[ai];rw[Jmo,aa,TV,aa,aa,show(cc l ([100,111]:Be)).getD []=aY l bR from rfl];have e:(aY l cR).length<=9223372036854775807:=xz (sZ m) oc
 have tail:∀ st:du,dJ st.2->((mN (ey l st).l ([102,105,101,108,100]:Be)).bind λj=>
  (uV n j.1).bind λa=>(Kh (ey l st) ([102,105,101,108,100]:Be) a.2).bind λk=>
  some (aY l bR,a.1,k))=some (aY l bR,aB l,ey l (cH st cR (fL l))):=by
  intro st g;rw[show(ey l st).l=l from rfl,xD,aa];simp only[];rw[show(cc l ([102,105,101,108,100]:Be)).getD []=aY l cR from rfl,Q3d hn e,aa,show(n7 (⟨[],[]⟩:Qt) (cu (aY l cR))).2=fL l from rfl,mx g (TX l),aa];rfl
 unfold tj CC;by_cases h:aY l bR∈jz;grind;unfold Z7;rw[ov h,xn,aj,oq h,aa,show(⟨2,0,0,0⟩:Qc)=dq (2,0) from rfl,mx g po,aa];grind[kU,po]
def tm(n:Nat):(Q7×Int)->Option (Lp (Q7×Int) Q7):=λs158=>
    bif decide (s158.2<(s158.1.L.length:Int)) then (jn (λj193=>
      (ae (λ(s212:Bool×Int)=>
       bif decide (s212.2<(fV.length:Int)) then (jn (λj218=>bif s212.1 then (
          j218 true)
         else ((ah fV s212.2).bind λy222=>(ah s158.1.L s158.2).bind λy224=>
          j218 (decide (y222=y224.A0)))) (λ(s220:Bool)=>
         some (.go (s220,wrap64 (s212.2+1))))) else (some (.out s212.1))) n (false,0)).bind λ(t210:Bool)=>bif !t210 then ((ah s158.1.L s158.2).bind λy226=>(Jn s158.1 y226.A0 (⟨2,0,0,0⟩:Ks)).bind λr228=>
       j193 r228)
      else (
       j193 s158.1)) (λ(s195:Q7)=>
      some (.go (s195,wrap64 (s158.2+1))))) else (some (.out s158.1))
theorem Jks{n:Nat}{l:List Qn}(hn:aq<=n)(A:l.length<=4000):∀(r P:List Qn) (st:du) (m:Nat),l=P++r->r.length<m->ae (tm n) m (dv l st,(P.length:Int))=some (dv l (gU r st)):=by
 intro r
 induction r with
 | nil=>
   intro P st m e w;refine Jp ?_ om;unfold tm;simp only[];rw[ov (by show ¬(P.length:Int)<(((l.map iz).length:Nat):Int);grind),ak];rfl
 | cons p r y=>
   intro P st m e w;obtain⟨k,rfl⟩:∃ k,m=k+1:=⟨m - 1,om⟩
   have v:l.length=P.length+(r.length+1):=ol
   have u:ah (dv l st).L (P.length:Int)=some (iz p):=Ku (by
    show(l.map iz)[P.length]?=_
    grind)
   have g:(P.length:Int)<(((dv l st).L.length:Nat):Int):=by show(P.length:Int)<(((l.map iz).length:Nat):Int);grind
   have a:ae (λ(s212:Bool×Int)=>
    bif decide (s212.2<(fV.length:Int)) then (jn (λj218=>bif s212.1 then (
       j218 true)
      else ((ah fV s212.2).bind λy222=>(ah (dv l st).L (P.length:Int)).bind λy224=>
       j218 (decide (y222=y224.A0)))) (λ(s220:Bool)=>
      some (.go (s220,wrap64 (s212.2+1))))) else (
     some (Lp.out s212.1))) n (false,0)=some (decide (p.A0∈fV)):=by
    rw[u];simp only[aa];exact Jkr (L:=fV) (x:=p.A0) hn oc
   refine(V0 (s':=(dv l (if p.A0∈fV then st else cH st p.A0 (dq (2,0))),((P++[p]).length:Int))) ?_).trans ?_;unfold tm;simp only[ai];rw[ou g,aj];refine je (show _=_ from(by simpa only[ai] using a)) _ ?_;rw[aa,u,aa,w1 om];have j:(P++[p]).length=P.length+1:=oh
   rw[j];by_cases h:p.A0∈fV;grind;rw[ov h,xn,aj,oq h,show(iz p).A0=p.A0 from rfl,show(⟨2,0,0,0⟩:Ks)=fA (dq (2,0)) from rfl,m9,aa];exact y (P++[p]) _ k ol ol
theorem Jmr{n:Nat}{l:List Qn}{st:du}(hn:aq+100<=n)(g:cw l):Zb n (dv l st)=some (aY l bR,dF (aB l),dv l (tj l (gU l st))):=by
 have a:aq<=n:=om
 unfold Zb;rw[Md,aa];have j:l.length<n:=xr (show l.length<aq by have:=g.1;grind[aq]) a;refine je (show _=_ from Jks a g.1 l [] st n rfl j) _ ?_;rw[aa];generalize gU l st=st1;rw[xE a (by have:=g.1;omega),aa];simp only[];rw[show(cc l ([100,111]:Be)).getD []=aY l bR from rfl];refine Jn8 λk hk=>?_;have tail:∀ st:du,k (dv l st)=some (aY l bR,dF (aB l),dv l (cH st cR (fL l))):=by
  intro st;rw[hk];simp only[ai];rw[xE a (by have:=g.1;omega),aa];simp only[];rw[show(cc l ([102,105,101,108,100]:Be)).getD []=aY l cR from rfl,Q3e hn,aa];unfold aB fL;cases m:cu (aY l cR) with
  | ok f=>
    show(bif decide (0<=-1) then ((Jn (dv l st) ([102,105,101,108,100]:Be) (⟨1,0,0,-1⟩:Ks)).bind λr254=>some (aY l bR,dF f,r254)) else some (aY l bR,dF f,dv l st))=some (aY l bR,dF f,dv l (cH st cR (⟨0,0,0,0⟩:Qc)));simp[my]
  | error q=>
    have p:=Jgx m;show(bif decide (0<=q) then ((Jn (dv l st) ([102,105,101,108,100]:Be) (⟨1,0,0,q⟩:Ks)).bind λr254=>some (aY l bR,dF ⟨[],[]⟩,r254)) else some (aY l bR,dF ⟨[],[]⟩,dv l st))=some (aY l bR,dF ⟨[],[]⟩,dv l (cH st cR (na q)));rw[ou p,aj,show(⟨1,0,0,q⟩:Ks)=fA (na q) from rfl,m9,aa]
 have e:(aY l bR∈jz)↔(aY l bR=([115,111,108,118,101]:Be)\/aY l bR=([103,114,97,100]:Be)\/aY l bR=([109,111,118,101]:Be)\/aY l bR=([115,116,97,116,101]:Be)\/aY l bR=([115,104,111,119]:Be)):=by show aY l bR∈([[115,111,108,118,101],[103,114,97,100],[109,111,118,101],[115,116,97,116,101],[115,104,111,119]]:List Be)↔_;simp
 unfold tj CC;simp only[ai];have f:Jn (dv l st1) [100,111] ⟨2,0,0,0⟩=some (dv l (cH st1 bR (dq (2,0)))):=m9 (f:=dq (2,0));clear hk;by_cases h:aY l bR∈jz;rw[ot h];rcases e.1 h with h | h | h | h | h<;>simp[h,tail];rw[oq h];simp only[e,not_or] at h;simp[h,f,tail]
set_option maxRecDepth 100000
def ng(r:Kq):Prop:=∀ x∈[r.Tol,r.A6,r.Low,r.A9,r.A4],ba x
structure jA(r:Kq):Prop where
 f:ng r
 tol:0<=(fv r.Tol).num.sign
 safe:0<(fv r.A6).num.sign
 safe1:(fv r.A6 - 1).num.sign<=0
 low:0<(fv r.Low).num.sign
 low1:(fv r.Low - 1).num.sign<0
 high:0<=(fv r.A9 - 1).num.sign
 least:0<(fv r.A4).num.sign
 fine:1<=r.Fine/\r.Fine<=1024
 most:1<=r.Most/\r.Most<=200
def lZ(k:Nat)(r:Kq):Prop:=FR k [r.Tol,r.A6,r.Low,r.A9,r.A4]
theorem lZ.all{r:Kq}(h:lZ k r):Fk k r.Tol/\Fk k r.A6/\Fk k r.Low/\Fk k r.A9/\Fk k r.A4:=
 ⟨h _ oh,h _ oh,h _ oh,h _ oh,h _ oh⟩
theorem Q1s{n:Nat}{l:List Qb}(hn:aq<=n)(hk:k<1048576)(u:FR k l):AT n l=some (dP (∀ x∈l,ba x)):=by
 unfold AT;rw[o7 (λ_ (x:Qb)=>ba x) (r:=false),B2];grind[cq,aL];intro i x v;simp only[ai];have e:=Sf hn hk (u x ol);have p:∀(K:Bool->Option (Lp Unit Bool)),((mQ n x).bind λa=>bif !a then K true else (mr n x).bind λg=>K (decide (190<g)))=(((mQ n x).bind λj=>bif !j then some true else (mr n x).bind λm=>some (decide (190<m))).bind K):=ol
 refine⟨λh=>?_,λh=>?_⟩;refine(p λs=>bif s then some (Lp.out false) else some (Lp.go ())).trans ?_;grind[cq];refine(p λs=>bif s then some (Lp.out false) else some (Lp.go ())).trans ?_;grind[aL]
theorem Me{n:Nat}{f:Qb}(hn:aq<=n)(a:1<=k)(hk:k<1099511627776)(hf:Fk k f):ss n f=some (decide (0<(fv f).num.sign)):=by grind[ss,JV]
theorem Q55{n:Nat}{r:Kq}(hn:aq<=n)(e:1<=k)(hk:k<1048576)(y:lZ k r):AU n r=some (dP (jA r)):=by
 obtain⟨w1,w2,A,B,C⟩:=y.all;have u:Fk k (ce 1):=lF (by grind[Lb]);have a:k<1099511627776:=om
 unfold AU E8;simp only[ai];rw[JU hn,aa,Q1s hn hk y,aa,fC];by_cases c1:∀ x∈[r.Tol,r.A6,r.Low,r.A9,r.A4],ba x
 case neg=>rw[oq c1,aa,aL λh=>c1 h.f];rfl
 rw[ot c1,JV hn e a w1,aa];by_cases c2:(fv r.Tol).num.sign<0
 . rw[ou c2,aj,aa,aL λh=>by have:=h.tol;omega];rfl
 rw[ov c2,ak,Me hn e a w2,aa];by_cases c3:0<(fv r.A6).num.sign
 case neg=>rw[ov c3,xn,aj,aj,aa,aL λh=>c3 h.safe];rfl
 rw[ou c3,ow,ak,BS (k:=k) hn e a w2 u,aa,nX];by_cases c4:0<(fv r.A6 - 1).num.sign
 . rw[ou c4,aj,aa,aL λh=>by have:=h.safe1;omega];rfl
 rw[ov c4,ak,Me hn e a A,aa];by_cases c5:0<(fv r.Low).num.sign
 case neg=>rw[ov c5,xn,aj,aj,aa,aL λh=>c5 h.low];rfl
 rw[ou c5,ow,ak,BS (k:=k) hn e a A u,aa,nX];by_cases v:0<=(fv r.Low - 1).num.sign
 . rw[ou v,aj,aa,aL λh=>by have:=h.low1;omega];rfl
 rw[ov v,ak,BS (k:=k) hn e a B u,aa,nX];by_cases w:(fv r.A9 - 1).num.sign<0
 . rw[ou w,aj,aa,aL λh=>by have:=h.high;omega];rfl
 rw[ov w,ak,Me hn e a C,aa];by_cases p:0<(fv r.A4).num.sign
 case neg=>rw[ov p,xn,aj,aa,aL λh=>p h.least];rfl
 rw[ou p,ow,ak];by_cases c9:r.Fine<1
 . rw[ou c9,aj,aj,aa,aL λh=>by have:=h.fine;omega];rfl
 rw[ov c9,ak];by_cases g:1024<r.Fine
 . rw[ou g,aj,aa,aL λh=>by have:=h.fine;omega];rfl
 rw[ov g,ak];by_cases j:r.Most<1
 . rw[ou j,aj,aj,aa,aL λh=>by have:=h.most;omega];rfl
 rw[ov j,ak];by_cases m:200<r.Most
 . rw[ou m,aj,aa,aL λh=>by have:=h.most;omega];rfl
 rw[ov m,ak,aa,cq ⟨c1,om,c3,om,c5,om,om,p,om,om⟩];rfl
set_option maxRecDepth 100000
theorem qx{a b:Rat}:(a - b).num.sign<0↔a<b:=by rw[Int.sign_neg_iff,<-Int.not_le,Rat.num_nonneg,<-Rat.le_iff_sub_nonneg,Rat.not_le]
theorem CD{a b:Rat}:0<(a - b).num.sign↔b<a:=by grind[Ri,Rat.neg_sub,qx]
theorem kY{a b:Rat}:0<=(a - b).num.sign↔b<=a:=by grind[qx]
theorem TY{a:Rat}:0<a.num.sign↔0<a:=by have:=@CD a 0;grind
set_option maxRecDepth 100000
def iR(k:Kr):Prop:=jX k.Ay/\jA k.A5/\(k.Y.length:Int)=k.Ay.Tape.Bc/\fv k.Ba<=fv k.End/\0<fv k.Bb
set_option maxRecDepth 100000
def tR(r:Qx):Kq:=⟨tF r.Tol,tF r.A6,tF r.Low,tF r.A9,tF r.A4,r.Fine,r.Most⟩
end Go.Proofs.YthdbapalogijdaaGreatDoor
