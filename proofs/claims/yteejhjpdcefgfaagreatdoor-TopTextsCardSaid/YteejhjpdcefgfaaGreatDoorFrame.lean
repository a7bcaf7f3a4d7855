import Derived.ChangeArms
import Derived.Carry
import Derived.OpenShut
import Derived.ProofKit
import Derived.Test.YteejhjpdcefgfaaGreatDoorSB
namespace Go.Proofs.YteejhjpdcefgfaaGreatDoor
open Go Go.RowKit Go.ChangeShapes Go.WideShapes Go.ChangeAt
def S0n:Nat->Prop:=λ_=>False
def g0n:Nm:=λ_=>none
def Opn{α:Type}(P:Program)(T:Nat)(L:α->Ly)(B:α->Prop):Prop:=
 ∀(H:Type) (enc:TypeId×Value->H) (w:World) (fuel:Nat) (cs:List Value) (x:DataW H×List MemPlace),
  DataW.trod enc P w 0 (λ_=>true) true fuel T cs=some x->∃ y:α,(L y).hold w S0n g0n cs/\B y
theorem Jf2{P T}(d:P.underlying T=some (.int .i64)):Opn P T i64 (λx=>-9223372036854775808<=x/\x<=9223372036854775807):=by intro H enc w fuel cs x h;obtain⟨n,rfl,_,e⟩:=DataW.trod_int d h;have a:=bounds_i64 e;exact⟨n,⟨_,rfl,rfl,a.1,a.2⟩,a⟩
theorem Jie{P T k N}(f:UK k N)(g:P.underlying T=some (.int k)):Opn P T (uk k) (λx=>x<N):=by
 intro H enc w fuel cs x h;obtain⟨n,rfl,_,i⟩:=DataW.trod_int g h;have a:k.min<=n/\n<=k.max:=by simpa [Lit.wf] using i
 have d:=a;rw[f.min,f.max] at d;have e:((n.toNat:Nat):Int)=n:=om
 exact⟨n.toNat,⟨_,rfl,by rw[e],by rw[e];exact a.1,by rw[e];exact a.2⟩,om⟩
theorem Jif{P T}(a:P.underlying T=some .bool):Opn P T bl (λ_=>True):=by
 intro H enc w fuel cs x h;cases fuel with
 | zero=>simp[DataW.trod] at h
 | succ n=>
   unfold DataW.trod at h;rw[a] at h;split at h
   case h_1=>exact⟨_,⟨_,rfl,rfl⟩,trivial⟩
   all_goals simp_all
theorem Jf3{P T}(a:P.underlying T=some .string):Opn P T str (λs=>s.length<=maxLen):=by intro H enc w fuel cs x h;obtain⟨s,rfl,_,d⟩:=DataW.trod_string a h;refine⟨s.data.toList,⟨_,rfl,oc,?_⟩,?_⟩<;>simpa using d
theorem cells?_all{w:World}{b:Nat}{a:Addr}{n:Nat}{cs:List Value}(h:w.cells? b a n=some cs):cs.length=n/\∀ i u,cs[i]?=some u->w.cell? (a.add i)=some u:=by
 unfold World.cells? at h;split at h
 case isFalse=>cases h
 have e:=mapM_some_length h;simp only[List.length_range] at e;refine⟨e,λi u f=>?_⟩;have hi:i<n:=by
  rcases xh i cs.length with d | d
  . omega
  . simp[xe d] at f
 rw[mapM_some_get h i i (by simp[hi]),f]
theorem Qmo{P T E k}{α:Type}{f:α->Ly}{B:α->Prop}(Z:P.underlying T=some (.slice E))(hc:P.cellsOf E=k)(hk:Nat.blt 0 k=true)(V:∀ x,(f x).sz=k)(Y:Opn P E f B):
 Opn P T (λxs:List α=>sli k (xs.map f)) (λxs=>xs.length<=maxLen/\∀ x∈xs,B x):=by
 intro H enc w fuel cs x h;have hk':0<k:=by simpa using hk
 rcases DataW.trod_slice Z h with ⟨rfl,_⟩ | ⟨a,len,cap,elems,rest,n,_,rfl,_,_,hlc,N,t,s,S,_⟩;exact⟨[],⟨_,rfl,.inl ⟨rfl,rfl⟩⟩,xl _,λ_ h=>by cases h⟩;subst hc;by_cases r:cap=0;subst r;obtain rfl:len=0:=om
 exact⟨[],⟨_,rfl,.inr (.inr ⟨rfl,a,rfl⟩)⟩,xl _,λ_ h=>by cases h⟩;obtain⟨hrl,hr⟩:=S rfl;have first:∃ c0,w.cells? 0 (a.add 0) (P.cellsOf E)=some c0:=by
  by_cases h0:0<len;have:=s 0 h0;rw[Nat.zero_mul] at this;obtain⟨e,p⟩:∃ e,elems[0]?=some e:=⟨elems[0],by simp[t,h0]⟩
  rw[p,Option.bind_eq_some_iff] at this;obtain⟨c0,i,_⟩:=this;exact⟨c0,i⟩;have:=hr 0 om;obtain rfl:len=0:=om
  rw[xp,Nat.zero_mul] at this;obtain⟨e,p⟩:∃ e,rest[0]?=some e:=⟨rest[0]' om,oc⟩
  rw[p,Option.bind_eq_some_iff] at this;obtain⟨c0,i,_⟩:=this;exact⟨c0,i⟩
 obtain⟨c0,L⟩:=first
 obtain⟨hl0,J⟩:=cells?_all L;have hcell:∃ u,w.cell? a=some u:=by have:=J 0 (c0[0]' om) oc;simp only[Addr.add,uf] at this;exact⟨_,this⟩
 obtain⟨u0,g⟩:=hcell;obtain⟨A,o,sp⟩:=a;have v:sp=none:=by unfold World.cell? at g;split at g;split at g;cases g;rename_i h;simpa using h;cases g
 subst v;have K:A<w.heap.size:=by rcases xh A w.heap.size with h | h;exact h;simp[World.cell?,ye h] at g
 have key:∀ m,m<=len->∃(ys:List α) (d:List Value),ys.length=m/\Ly.holds w S0n g0n (ys.map f) d/\(∀ j u,d[j]?=some u->w.cell? ⟨A,o+j,none⟩=some u)/\∀ y∈ys,B y:=by
  intro m
  induction m with
  | zero=>intro _;exact⟨[],[],rfl,rfl,λj u q=>by simp at q,λ_ h=>by cases h⟩
  | succ m ih=>
    intro hm;obtain⟨ys,d,i,C,G,I⟩:=ih om;have p:=s m om;obtain⟨e,O⟩:∃ e,elems[m]?=some e:=⟨elems[m]' om,oc⟩
    rw[O,Option.bind_eq_some_iff] at p;obtain⟨c1,g1,W⟩:=p;obtain⟨gl,F⟩:=cells?_all g1;obtain⟨y,hy,X⟩:=Y H enc w n c1 e W;have M:d.length=m*P.cellsOf E:=by rw[Ly.holds_sz _ _ C,Qq1 (k:=P.cellsOf E) (λly l=>by obtain⟨x,_,rfl⟩:=xy.1 l;exact V x)];simp[i]
    refine⟨ys++[y],d++c1,by simp[i],?_,?_,?_⟩;rw[xu];exact Qhg C ⟨c1,[],oc,hy,rfl⟩;intro j u q;rcases xh j d.length with R | Q;rw[yb R] at q;exact G j u q;rw[yy Q] at q;have:=F _ u q;rw[add0,add0,M] at this;rw[show o+m*P.cellsOf E+(j - m*P.cellsOf E)=o+j by omega] at this;exact this;intro z U;rcases xk.1 U with h | h;exact I z h;rw[xq.1 h];exact X
 obtain⟨ys,d,i,C,G,I⟩:=key len (ou _);refine⟨ys,⟨_,rfl,.inr (.inl ⟨A,o,cap,d,by simp[i],by simp[i];omega,N,K,λh=>h,G,C,λly l=>?_⟩)⟩,om,I⟩;obtain⟨x,_,rfl⟩:=xy.1 l;exact V x
def Opns{α:Type}(P:Program)(fl:List (Nat×Nat×Nat))(off total:Nat)(L:α->List Ly)(B:α->Prop):Prop:=
 ∀(H:Type) (enc:TypeId×Value->H) (w:World) (fuel:Nat) (cs:List Value),cs.length=total ->
  (∀ f∈fl,∃ x,DataW.trod enc P w 0 (λ_=>true) true fuel f.1 ((cs.drop f.2.1).take f.2.2)=some x)->∃ y:α,Ly.holds w S0n g0n (L y) (cs.drop off)/\B y
theorem Qd0{P total}:Opns P [] total total (λ_:Unit=>[]) (λ_=>True):=by intro H enc w fuel cs a _;exact⟨(),by rw[yd om];rfl,trivial⟩
theorem Jq{P T off k fl total}{α β:Type}{g:α->Ly}{d:α->Prop}{i:β->List Ly}{e:β->Prop}(j:Opn P T g d)(l:Opns P fl (off+k) total i e):
 Opns P ((T,off,k)::fl) off total (λy:α×β=>g y.1::i y.2) (λy=>d y.1/\e y.2):=by
 intro H enc w fuel cs p hf;obtain⟨x,q⟩:=hf _ yj;obtain⟨y,r,m⟩:=j H enc w fuel _ x q;obtain⟨z,s,n⟩:=l H enc w fuel cs p (λf a=>hf f (yg _ a));refine⟨(y,z),⟨(cs.drop off).take k,cs.drop (off+k),?_,r,s⟩,m,n⟩;rw[<-vt];exact(uw k _).symm
theorem Qay{P T total}{fs:Array Field}{fl:List (Nat×Nat×Nat)}{α β:Type}{L:α->List Ly}{B:α->Prop}(g:α->β){Lg:β->List Ly}{Bg:β->Prop}(p:P.underlying T=some (.struct fs))(r:P.cellsOf T=total)
 (d:fs.toList.map (λF=>(F.type,F.offset,P.cellsOf F.type))=fl) (h:Opns P fl 0 total L B) (m:∀ y,L y=Lg (g y)) (k:∀ y,B y->Bg (g y)):Opn P T (λy=>.agg (Lg y)) Bg:=by
 intro H enc w fuel cs x t;obtain⟨xs,n,rfl,_,s,j,a⟩:=DataW.trod_struct p t
 obtain⟨y,u,q⟩:=h H enc w n cs (by rw[s,r]) (λf hf=>by
  rw[<-d] at hf;obtain⟨F,l,rfl⟩:=xy.1 hf;obtain⟨i,hi⟩:=ud l;have:=a i F (by simpa using hi);have e:i<xs.length:=by rw[j];rcases xh i fs.size with h | h;exact h;simp[xe (show fs.toList.length<=i by simpa using h)] at hi
  exact⟨xs[i],by rw[this];simp[e]⟩)
 exact⟨g y,by simp only[Ly.hold];rw[<-m];simpa using u,k y q⟩
theorem Q4n{P T}{α:Type}{L:α->List Ly}{B:α->Prop}{r:Reach}{base:Nat}{w:World}{v:Value}{H:Type}{enc:TypeId×Value->H}{d:DataW H}{j:List MemPlace}(h:Opn P T (λy=>.agg (L y)) B)
 (f:(∃ fs,P.underlying T=some (.struct fs))\/∃ n e,P.underlying T=some (.array n e)) (a:Value.okWide P w r base T v) (hd:DataW.Trod enc P w 0 (λ_=>true) true T v d j):∃ y,Ly.val w S0n g0n (.agg (L y)) v/\B y:=by
 obtain⟨fuel,hf⟩:=hd;obtain⟨y,i,g⟩:=h H enc w fuel _ _ hf;obtain⟨cs,rfl⟩:∃ cs,v=.agg cs:=by unfold Value.okWide at a;rcases f with ⟨fs,f⟩ | ⟨n,e,f⟩<;>rw[f] at a<;>(obtain⟨cs,h,_⟩:=a;exact⟨cs,h⟩)
 exact⟨y,⟨cs,rfl,by simpa [Ly.hold,Value.cells] using i⟩,g⟩
theorem Q0c{H:Type}{enc:TypeId×Value->H}{P:Program}{f:Func}{s:ChangeSpec}{apart fresh handsOn again:Bool}{W W':World}{args:Array Value}{v:Value}{g i:List (DataW H)}{before pa pv:List MemPlace}
 (n:DataW.Whole enc P f.params.toList s.vars apart W args.toList g i before) (u:Below W.heap.size W W')
 (e:∀(b:Nat) (sp:Nat->Bool) (hd:Bool),DataW.TrodAll enc P W' b sp hd f.resultTypes.toList (v.resultList f.resultTypes.size) (s.fn H (g++i)).results [])
 (hargs:∀ sp:Nat->Bool,(∀ p∈before,sp p.block=true)->DataW.TrodAll enc P W' 0 sp true f.params.toList args.toList (s.fn H (g++i)).args pa)
 (hvars:∀ sp:Nat->Bool,(∀ p∈before,sp p.block=true)->DataW.TrodVars enc P W' sp s.vars (s.fn H (g++i)).vars pv) (d:before=pa++pv)
 (q:∀(j:Nat) (t:TypeId) (r:Value),f.resultTypes[j]?=some t->(v.resultList f.resultTypes.size)[j]?=some r->Value.okWide P W' .any 0 t r) :
 s.post enc P f apart fresh handsOn again W args v W':=by
 have l:=λp a=>n.lt p a;have k:∀ p∈before,decide (p.block<W.heap.size)=true:=λp a=>by simpa using l p a
 refine⟨g,i,before,[],pa,pv,n,e _ _ _,hargs _ k,hvars _ k,World.keptBut_mono (λp a=>⟨a,.inr ?_⟩) (u.frame (·∈before)),λ_=>⟨q,_,_,([]++pa)++pv,⟨[]++pa,pv,trodAll_append (hargs _ λ_ _=>rfl) (e _ _ _),hvars _ λ_ _=>rfl,rfl,?_,?_⟩,?_⟩⟩;rw[d,xk] at a;exact a;intro b off a;have m:MemPlace.cell b off∈before:=by rw[d];simpa using a
 obtain⟨_,_,_,_,_,y,_⟩:=n;rw[u.frozen (l _ m)];exact y b off m;intro w;obtain⟨_,_,_,_,_,_,x⟩:=n;have:=x w;rw[d] at this;simpa using this;intro p a _;rw[d];simpa using a
end Go.Proofs.YteejhjpdcefgfaaGreatDoor
