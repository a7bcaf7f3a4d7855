import Derived.ChangeArms
import Derived.Carry
import Derived.OpenShut
import Derived.ProofKit
import Derived.Test.YtgmknbfonlbjfaaGreatDoorSB
namespace Go.Proofs.YtgmknbfonlbjfaaGreatDoor
open Go Go.RowKit Go.ChangeShapes Go.WideShapes Go.ChangeAt
def S0n:Nat->Prop:=λ_=>False
def g0n:Nm:=λ_=>none
def Opn{α:Type}(P:Program)(T:Nat)(L:α->Ly)(B:α->Prop):Prop:=
 ∀(H:Type) (enc:TypeId×Value->H) (w:World) (fuel:Nat) (cs:List Value) (x:DataW H×List MemPlace),
  DataW.trod enc P w 0 (λ_=>true) true fuel T cs=some x->∃ y:α,(L y).hold w S0n g0n cs/\B y
theorem Q07{P T}(d:P.underlying T=some (.int .i64)):Opn P T i64 (λx=>-9223372036854775808<=x/\x<=9223372036854775807):=by intro H enc w fuel cs x h;obtain⟨n,rfl,_,e⟩:=DataW.trod_int d h;have a:=bounds_i64 e;exact⟨n,⟨_,rfl,rfl,a.1,a.2⟩,a⟩
theorem Q2n{P T k N}(f:UK k N)(g:P.underlying T=some (.int k)):Opn P T (uk k) (λx=>x<N):=by
 intro H enc w fuel cs x h;obtain⟨n,rfl,_,i⟩:=DataW.trod_int g h;have a:k.min<=n/\n<=k.max:=by simpa [Lit.wf] using i
 have d:=a;rw[f.min,f.max] at d;have e:((n.toNat:Nat):Int)=n:=om
 exact⟨n.toNat,⟨_,rfl,by rw[e],by rw[e];exact a.1,by rw[e];exact a.2⟩,om⟩
theorem Q2o{P T}(a:P.underlying T=some .bool):Opn P T bl (λ_=>True):=by
 intro H enc w fuel cs x h;cases fuel with
 | zero=>simp[DataW.trod] at h
 | succ n=>
   unfold DataW.trod at h;rw[a] at h;split at h
   case h_1=>exact⟨_,⟨_,rfl,rfl⟩,trivial⟩
   all_goals simp_all
theorem cells?_all{w:World}{b:Nat}{a:Addr}{n:Nat}{cs:List Value}(h:w.cells? b a n=some cs):cs.length=n/\∀ i u,cs[i]?=some u->w.cell? (a.add i)=some u:=by
 unfold World.cells? at h;split at h
 case isFalse=>cases h
 have e:=mapM_some_length h;simp only[List.length_range] at e;refine⟨e,λi u f=>?_⟩;have hi:i<n:=by
  rcases xd i cs.length with d | d
  . omega
  . simp[ou d] at f
 rw[mapM_some_get h i i (by simp[hi]),f]
theorem Qqe{P T E k}{α:Type}{f:α->Ly}{B:α->Prop}(hT:P.underlying T=some (.slice E))(hc:P.cellsOf E=k)(hk:Nat.blt 0 k=true)(W:∀ x,(f x).sz=k)(Z:Opn P E f B):
 Opn P T (λxs:List α=>sli k (xs.map f)) (λxs=>xs.length<=maxLen/\∀ x∈xs,B x):=by
 intro H enc w fuel cs x h;have hk':0<k:=by simpa using hk
 rcases DataW.trod_slice hT h with ⟨rfl,_⟩ | ⟨a,len,cap,elems,rest,n,_,rfl,_,_,hlc,O,v,t,U,_⟩;exact⟨[],⟨_,rfl,.inl ⟨rfl,rfl⟩⟩,xo _,λ_ h=>by cases h⟩;subst hc;by_cases s:cap=0;subst s;obtain rfl:len=0:=om
 exact⟨[],⟨_,rfl,.inr (.inr ⟨rfl,a,rfl⟩)⟩,xo _,λ_ h=>by cases h⟩;obtain⟨hrl,hr⟩:=U rfl;have first:∃ c0,w.cells? 0 (a.add 0) (P.cellsOf E)=some c0:=by
  by_cases h0:0<len;have:=t 0 h0;rw[Nat.zero_mul] at this;obtain⟨e,q⟩:∃ e,elems[0]?=some e:=⟨elems[0],by simp[v,h0]⟩
  rw[q,Option.bind_eq_some_iff] at this;obtain⟨c0,i,_⟩:=this;exact⟨c0,i⟩;have:=hr 0 om;obtain rfl:len=0:=om
  rw[xf,Nat.zero_mul] at this;obtain⟨e,q⟩:∃ e,rest[0]?=some e:=⟨rest[0]' om,oc⟩
  rw[q,Option.bind_eq_some_iff] at this;obtain⟨c0,i,_⟩:=this;exact⟨c0,i⟩
 obtain⟨c0,M⟩:=first
 obtain⟨hl0,K⟩:=cells?_all M;have hcell:∃ u,w.cell? a=some u:=by have:=K 0 (c0[0]' om) oc;simp only[Addr.add,vb] at this;exact⟨_,this⟩
 obtain⟨u0,g⟩:=hcell;obtain⟨C,o,sp⟩:=a;have A:sp=none:=by unfold World.cell? at g;split at g;split at g;cases g;rename_i h;simpa using h;cases g
 subst A;have L:C<w.heap.size:=by rcases xd C w.heap.size with h | h;exact h;simp[World.cell?,ya h] at g
 have key:∀ m,m<=len->∃(p:List α) (d:List Value),p.length=m/\Ly.holds w S0n g0n (p.map f) d/\(∀ j u,d[j]?=some u->w.cell? ⟨C,o+j,none⟩=some u)/\∀ y∈p,B y:=by
  intro m
  induction m with
  | zero=>intro _;exact⟨[],[],rfl,rfl,λj u r=>by simp at r,λ_ h=>by cases h⟩
  | succ m ih=>
    intro hm;obtain⟨p,d,i,F,I,J⟩:=ih om;have q:=t m om;obtain⟨e,Q⟩:∃ e,elems[m]?=some e:=⟨elems[m]' om,oc⟩
    rw[Q,Option.bind_eq_some_iff] at q;obtain⟨c1,g1,X⟩:=q;obtain⟨gl,G⟩:=cells?_all g1;obtain⟨y,hy,Y⟩:=Z H enc w n c1 e X;have N:d.length=m*P.cellsOf E:=by rw[Ly.holds_sz _ _ F,Qoq (k:=P.cellsOf E) (λly l=>by obtain⟨x,_,rfl⟩:=xy.1 l;exact W x)];simp[i]
    refine⟨p++[y],d++c1,by simp[i],?_,?_,?_⟩;rw[xw];exact Qcq F ⟨c1,[],oc,hy,rfl⟩;intro j u r;rcases xd j d.length with S | R;rw[yi S] at r;exact I j u r;rw[yd R] at r;have:=G _ u r;rw[add0,add0,N] at this;rw[show o+m*P.cellsOf E+(j - m*P.cellsOf E)=o+j by omega] at this;exact this;intro z V;rcases yw.1 V with h | h;exact J z h;rw[yt.1 h];exact Y
 obtain⟨p,d,i,F,I,J⟩:=key len (xn _);refine⟨p,⟨_,rfl,.inr (.inl ⟨C,o,cap,d,by simp[i],by simp[i];omega,O,L,λh=>h,I,F,λly l=>?_⟩)⟩,om,J⟩;obtain⟨x,_,rfl⟩:=xy.1 l;exact W x
def Opns{α:Type}(P:Program)(fl:List (Nat×Nat×Nat))(off total:Nat)(L:α->List Ly)(B:α->Prop):Prop:=
 ∀(H:Type) (enc:TypeId×Value->H) (w:World) (fuel:Nat) (cs:List Value),cs.length=total ->
  (∀ f∈fl,∃ x,DataW.trod enc P w 0 (λ_=>true) true fuel f.1 ((cs.drop f.2.1).take f.2.2)=some x)->∃ y:α,Ly.holds w S0n g0n (L y) (cs.drop off)/\B y
theorem Qmd{P total}:Opns P [] total total (λ_:Unit=>[]) (λ_=>True):=by intro H enc w fuel cs a _;exact⟨(),by rw[xb om];rfl,trivial⟩
theorem Xm{P T off k fl total}{α β:Type}{g:α->Ly}{d:α->Prop}{i:β->List Ly}{e:β->Prop}(l:Opn P T g d)(m:Opns P fl (off+k) total i e):
 Opns P ((T,off,k)::fl) off total (λy:α×β=>g y.1::i y.2) (λy=>d y.1/\e y.2):=by
 intro H enc w fuel cs q j;obtain⟨x,r⟩:=j _ yp;obtain⟨y,s,n⟩:=l H enc w fuel _ x r;obtain⟨z,t,p⟩:=m H enc w fuel cs q (λf a=>j f (yj _ a));refine⟨(y,z),⟨(cs.drop off).take k,cs.drop (off+k),?_,s,t⟩,n,p⟩;rw[<-List.drop_drop];exact(uy k _).symm
theorem Qic{P T total}{fs:Array Field}{fl:List (Nat×Nat×Nat)}{α β:Type}{L:α->List Ly}{B:α->Prop}(g:α->β){Lg:β->List Ly}{Bg:β->Prop}(q:P.underlying T=some (.struct fs))(s:P.cellsOf T=total)
 (d:fs.toList.map (λF=>(F.type,F.offset,P.cellsOf F.type))=fl) (h:Opns P fl 0 total L B) (p:∀ y,L y=Lg (g y)) (l:∀ y,B y->Bg (g y)):Opn P T (λy=>.agg (Lg y)) Bg:=by
 intro H enc w fuel cs x u;obtain⟨xs,n,rfl,_,t,j,a⟩:=DataW.trod_struct q u
 obtain⟨y,v,r⟩:=h H enc w n cs (by rw[t,s]) (λf k=>by
  rw[<-d] at k;obtain⟨F,m,rfl⟩:=xy.1 k;obtain⟨i,hi⟩:=wi m;have:=a i F (by simpa using hi);have e:i<xs.length:=by rw[j];rcases xd i fs.size with h | h;exact h;simp[ou (show fs.toList.length<=i by simpa using h)] at hi
  exact⟨xs[i],by rw[this];simp[e]⟩)
 exact⟨g y,by simp only[Ly.hold];rw[<-p];simpa using v,l y r⟩
theorem Qz7{P T}{α:Type}{L:α->Ly}{B:α->Prop}{r:Reach}{base:Nat}{w:World}{v:Value}{H:Type}{enc:TypeId×Value->H}{d:DataW H}{p:List MemPlace}(h:Opn P T L B)(l:∀ y,(L y).isN=false)
 (g:∀ fs n e,P.underlying T≠some (.struct fs)/\P.underlying T≠some (.array n e)) (a:Value.okWide P w r base T v) (hd:DataW.Trod enc P w 0 (λ_=>true) true T v d p):∃ y,(L y).val w S0n g0n v/\B y:=by
 obtain⟨fuel,k⟩:=hd;obtain⟨y,i,j⟩:=h H enc w fuel _ _ k;have m:v.cells=#[v]:=by
  cases v with
  | agg cs=>
    exfalso;unfold Value.okWide at a;split at a
    . rename_i fs f;exact(g fs 0 0).1 f
    . rename_i n e f;exact(g #[] n e).2 f
    . unfold Cell.okWide at a
      split at a<;>(try (simp_all;done));unfold Cell.ok at a;split at a<;>simp_all
  | _=>rfl
 rw[m] at i;exact⟨y,Ly.val_of_hold1 (l y) i,j⟩
theorem Qz8{P T}{α:Type}{L:α->List Ly}{B:α->Prop}{r:Reach}{base:Nat}{w:World}{v:Value}{H:Type}{enc:TypeId×Value->H}{d:DataW H}{k:List MemPlace}(h:Opn P T (λy=>.agg (L y)) B)
 (f:(∃ fs,P.underlying T=some (.struct fs))\/∃ n e,P.underlying T=some (.array n e)) (a:Value.okWide P w r base T v) (hd:DataW.Trod enc P w 0 (λ_=>true) true T v d k):∃ y,Ly.val w S0n g0n (.agg (L y)) v/\B y:=by
 obtain⟨fuel,i⟩:=hd;obtain⟨y,j,g⟩:=h H enc w fuel _ _ i;obtain⟨cs,rfl⟩:∃ cs,v=.agg cs:=by unfold Value.okWide at a;rcases f with ⟨fs,f⟩ | ⟨n,e,f⟩<;>rw[f] at a<;>(obtain⟨cs,h,_⟩:=a;exact⟨cs,h⟩)
 exact⟨y,⟨cs,rfl,by simpa [Ly.hold,Value.cells] using j⟩,g⟩
theorem Qrn{H:Type}{enc:TypeId×Value->H}{P:Program}{f:Func}{s:ChangeSpec}{apart fresh handsOn again:Bool}{W W':World}{args:Array Value}{v:Value}{g i:List (DataW H)}{before pa pv:List MemPlace}
 (n:DataW.Whole enc P f.params.toList s.vars apart W args.toList g i before) (u:Below W.heap.size W W')
 (e:∀(b:Nat) (sp:Nat->Bool) (hd:Bool),DataW.TrodAll enc P W' b sp hd f.resultTypes.toList (v.resultList f.resultTypes.size) (s.fn H (g++i)).results [])
 (hargs:∀ sp:Nat->Bool,(∀ p∈before,sp p.block=true)->DataW.TrodAll enc P W' 0 sp true f.params.toList args.toList (s.fn H (g++i)).args pa)
 (hvars:∀ sp:Nat->Bool,(∀ p∈before,sp p.block=true)->DataW.TrodVars enc P W' sp s.vars (s.fn H (g++i)).vars pv) (d:before=pa++pv)
 (q:∀(j:Nat) (t:TypeId) (r:Value),f.resultTypes[j]?=some t->(v.resultList f.resultTypes.size)[j]?=some r->Value.okWide P W' .any 0 t r) :
 s.post enc P f apart fresh handsOn again W args v W':=by
 have l:=λp a=>n.lt p a;have k:∀ p∈before,decide (p.block<W.heap.size)=true:=λp a=>by simpa using l p a
 refine⟨g,i,before,[],pa,pv,n,e _ _ _,hargs _ k,hvars _ k,World.keptBut_mono (λp a=>⟨a,.inr ?_⟩) (u.frame (·∈before)),λ_=>⟨q,_,_,([]++pa)++pv,⟨[]++pa,pv,trodAll_append (hargs _ λ_ _=>rfl) (e _ _ _),hvars _ λ_ _=>rfl,rfl,?_,?_⟩,?_⟩⟩;rw[d,yw] at a;exact a;intro b off a;have m:MemPlace.cell b off∈before:=by rw[d];simpa using a
 obtain⟨_,_,_,_,_,y,_⟩:=n;rw[u.frozen (l _ m)];exact y b off m;intro w;obtain⟨_,_,_,_,_,_,x⟩:=n;have:=x w;rw[d] at this;simpa using this;intro p a _;rw[d];simpa using a
end Go.Proofs.YtgmknbfonlbjfaaGreatDoor
