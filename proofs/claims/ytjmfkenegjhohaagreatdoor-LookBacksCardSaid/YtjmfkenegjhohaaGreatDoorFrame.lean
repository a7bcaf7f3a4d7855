import Derived.ChangeArms
import Derived.Carry
import Derived.OpenShut
import Derived.ProofKit
import Derived.Test.YtjmfkenegjhohaaGreatDoorSB
namespace Go.Proofs.YtjmfkenegjhohaaGreatDoor
open Go Go.RowKit Go.ChangeShapes Go.WideShapes Go.ChangeAt
def S0n:Nat->Prop:=λ_=>False
def g0n:Nm:=λ_=>none
def Opn{α:Type}(P:Program)(T:Nat)(L:α->Ly)(B:α->Prop):Prop:=
 ∀(H:Type) (enc:TypeId×Value->H) (w:World) (fuel:Nat) (cs:List Value) (x:DataW H×List MemPlace),
  DataW.trod enc P w 0 (λ_=>true) true fuel T cs=some x->∃ y:α,(L y).hold w S0n g0n cs/\B y
theorem Q5w{P T}(a:P.underlying T=some (.int .i64)):Opn P T i64 (λx=>-9223372036854775808<=x/\x<=9223372036854775807):=by intro H enc w fuel cs x h;obtain⟨n,rfl,_,d⟩:=DataW.trod_int a h;have hb:=bounds_i64 d;exact⟨n,⟨_,rfl,rfl,hb.1,hb.2⟩,hb⟩
theorem Q91{P T k N}(d:UK k N)(f:P.underlying T=some (.int k)):Opn P T (uk k) (λx=>x<N):=by
 intro H enc w fuel cs x h;obtain⟨n,rfl,_,g⟩:=DataW.trod_int f h;have hb:k.min<=n/\n<=k.max:=by simpa [Lit.wf] using g
 have a:=hb;rw[d.min,d.max] at a;have e:((n.toNat:Nat):Int)=n:=om
 exact⟨n.toNat,⟨_,rfl,by rw[e],by rw[e];exact hb.1,by rw[e];exact hb.2⟩,om⟩
theorem Q92{P T}(a:P.underlying T=some .bool):Opn P T bl (λ_=>True):=by
 intro H enc w fuel cs x h;cases fuel with
 | zero=>simp[DataW.trod] at h
 | succ n=>
   unfold DataW.trod at h;rw[a] at h;split at h
   case h_1=>exact⟨_,⟨_,rfl,rfl⟩,trivial⟩
   all_goals simp_all
theorem Q5x{P T}(a:P.underlying T=some .string):Opn P T str (λs=>s.length<=maxLen):=by intro H enc w fuel cs x h;obtain⟨s,rfl,_,d⟩:=DataW.trod_string a h;refine⟨s.data.toList,⟨_,rfl,oc,?_⟩,?_⟩<;>simpa using d
theorem cells?_all{w:World}{b:Nat}{a:Addr}{n:Nat}{cs:List Value}(h:w.cells? b a n=some cs):cs.length=n/\∀ i u,cs[i]?=some u->w.cell? (a.add i)=some u:=by
 unfold World.cells? at h;split at h
 case isFalse=>cases h
 have e:=mapM_some_length h;simp only[List.length_range] at e;refine⟨e,λi u f=>?_⟩;have hi:i<n:=by
  rcases xt i cs.length with d | d
  . omega
  . simp[xz d] at f
 rw[mapM_some_get h i i (by simp[hi]),f]
theorem Qcy{P T E k}{α:Type}{f:α->Ly}{B:α->Prop}(Y:P.underlying T=some (.slice E))(Z:P.cellsOf E=k)(hk:Nat.blt 0 k=true)(U:∀ x,(f x).sz=k)(X:Opn P E f B):
 Opn P T (λxs:List α=>sli k (xs.map f)) (λxs=>xs.length<=maxLen/\∀ x∈xs,B x):=by
 intro H enc w fuel cs x h;have hk':0<k:=by simpa using hk
 rcases DataW.trod_slice Y h with ⟨rfl,_⟩ | ⟨a,len,cap,elems,rest,n,_,rfl,_,_,hlc,M,t,s,R,_⟩;exact⟨[],⟨_,rfl,.inl ⟨rfl,rfl⟩⟩,yb _,λ_ h=>by cases h⟩;subst Z;by_cases r:cap=0;subst r;obtain rfl:len=0:=om
 exact⟨[],⟨_,rfl,.inr (.inr ⟨rfl,a,rfl⟩)⟩,yb _,λ_ h=>by cases h⟩;obtain⟨hrl,hr⟩:=R rfl;have first:∃ c0,w.cells? 0 (a.add 0) (P.cellsOf E)=some c0:=by
  by_cases h0:0<len;have:=s 0 h0;rw[Nat.zero_mul] at this;obtain⟨e,p⟩:∃ e,elems[0]?=some e:=⟨elems[0],by simp[t,h0]⟩
  rw[p,Option.bind_eq_some_iff] at this;obtain⟨c0,i,_⟩:=this;exact⟨c0,i⟩;have:=hr 0 om;obtain rfl:len=0:=om
  rw[xp,Nat.zero_mul] at this;obtain⟨e,p⟩:∃ e,rest[0]?=some e:=⟨rest[0]' om,oc⟩
  rw[p,Option.bind_eq_some_iff] at this;obtain⟨c0,i,_⟩:=this;exact⟨c0,i⟩
 obtain⟨c0,K⟩:=first
 obtain⟨hl0,I⟩:=cells?_all K;have hcell:∃ u,w.cell? a=some u:=by have:=I 0 (c0[0]' om) oc;simp only[Addr.add,ya] at this;exact⟨_,this⟩
 obtain⟨u0,g⟩:=hcell;obtain⟨bb,o,sp⟩:=a;have v:sp=none:=by unfold World.cell? at g;split at g;split at g;cases g;rename_i h;simpa using h;cases g
 subst v;have J:bb<w.heap.size:=by rcases xt bb w.heap.size with h | h;exact h;simp[World.cell?,uy h] at g
 have key:∀ m,m<=len->∃(ys:List α) (d:List Value),ys.length=m/\Ly.holds w S0n g0n (ys.map f) d/\(∀ j u,d[j]?=some u->w.cell? ⟨bb,o+j,none⟩=some u)/\∀ y∈ys,B y:=by
  intro m
  induction m with
  | zero=>intro _;exact⟨[],[],rfl,rfl,λj u q=>by simp at q,λ_ h=>by cases h⟩
  | succ m ih=>
    intro hm;obtain⟨ys,d,i,A,F,G⟩:=ih om;have p:=s m om;obtain⟨e,N⟩:∃ e,elems[m]?=some e:=⟨elems[m]' om,oc⟩
    rw[N,Option.bind_eq_some_iff] at p;obtain⟨c1,g1,V⟩:=p;obtain⟨gl,C⟩:=cells?_all g1;obtain⟨y,hy,W⟩:=X H enc w n c1 e V;have L:d.length=m*P.cellsOf E:=by rw[Ly.holds_sz _ _ A,Q05 (k:=P.cellsOf E) (λly l=>by obtain⟨x,_,rfl⟩:=xy.1 l;exact U x)];simp[i]
    refine⟨ys++[y],d++c1,by simp[i],?_,?_,?_⟩;rw[yx];exact Qk7 A ⟨c1,[],oc,hy,rfl⟩;intro j u q;rcases xt j d.length with Q | O;rw[yp Q] at q;exact F j u q;rw[yg O] at q;have:=C _ u q;rw[add0,add0,L] at this;rw[show o+m*P.cellsOf E+(j - m*P.cellsOf E)=o+j by omega] at this;exact this;intro z S;rcases yr.1 S with h | h;exact G z h;rw[xj.1 h];exact W
 obtain⟨ys,d,i,A,F,G⟩:=key len (xm _);refine⟨ys,⟨_,rfl,.inr (.inl ⟨bb,o,cap,d,by simp[i],by simp[i];omega,M,J,λh=>h,F,A,λly l=>?_⟩)⟩,om,G⟩;obtain⟨x,_,rfl⟩:=xy.1 l;exact U x
def Opns{α:Type}(P:Program)(fl:List (Nat×Nat×Nat))(off total:Nat)(L:α->List Ly)(B:α->Prop):Prop:=
 ∀(H:Type) (enc:TypeId×Value->H) (w:World) (fuel:Nat) (cs:List Value),cs.length=total ->
  (∀ f∈fl,∃ x,DataW.trod enc P w 0 (λ_=>true) true fuel f.1 ((cs.drop f.2.1).take f.2.2)=some x)->∃ y:α,Ly.holds w S0n g0n (L y) (cs.drop off)/\B y
theorem X6{P total}:Opns P [] total total (λ_:Unit=>[]) (λ_=>True):=by intro H enc w fuel cs a _;exact⟨(),by rw[xl om];rfl,trivial⟩
theorem Q4{P T off k fl total}{α β:Type}{g:α->Ly}{d:α->Prop}{i:β->List Ly}{e:β->Prop}(l:Opn P T g d)(m:Opns P fl (off+k) total i e):
 Opns P ((T,off,k)::fl) off total (λy:α×β=>g y.1::i y.2) (λy=>d y.1/\e y.2):=by
 intro H enc w fuel cs q j;obtain⟨x,r⟩:=j _ vf;obtain⟨y,s,n⟩:=l H enc w fuel _ x r;obtain⟨z,t,p⟩:=m H enc w fuel cs q (λf a=>j f (vz _ a));refine⟨(y,z),⟨(cs.drop off).take k,cs.drop (off+k),?_,s,t⟩,n,p⟩;rw[<-List.drop_drop];exact(uc k _).symm
theorem Wm{P T total}{fs:Array Field}{fl:List (Nat×Nat×Nat)}{α β:Type}{L:α->List Ly}{B:α->Prop}(g:α->β){Lg:β->List Ly}{Bg:β->Prop}(q:P.underlying T=some (.struct fs))(r:P.cellsOf T=total)
 (d:fs.toList.map (λF=>(F.type,F.offset,P.cellsOf F.type))=fl) (h:Opns P fl 0 total L B) (p:∀ y,L y=Lg (g y)) (l:∀ y,B y->Bg (g y)):Opn P T (λy=>.agg (Lg y)) Bg:=by
 intro H enc w fuel cs x t;obtain⟨xs,n,rfl,_,s,j,a⟩:=DataW.trod_struct q t
 obtain⟨y,u,hb⟩:=h H enc w n cs (by rw[s,r]) (λf k=>by
  rw[<-d] at k;obtain⟨F,m,rfl⟩:=xy.1 k;obtain⟨i,hi⟩:=vc m;have:=a i F (by simpa using hi);have e:i<xs.length:=by rw[j];rcases xt i fs.size with h | h;exact h;simp[xz (show fs.toList.length<=i by simpa using h)] at hi
  exact⟨xs[i],by rw[this];simp[e]⟩)
 exact⟨g y,by simp only[Ly.hold];rw[<-p];simpa using u,l y hb⟩
theorem Q2m{P T}{α:Type}{L:α->Ly}{B:α->Prop}{r:Reach}{base:Nat}{w:World}{v:Value}{H:Type}{enc:TypeId×Value->H}{d:DataW H}{m:List MemPlace}(h:Opn P T L B)(hn:∀ y,(L y).isN=false)
 (g:∀ fs n e,P.underlying T≠some (.struct fs)/\P.underlying T≠some (.array n e)) (a:Value.okWide P w r base T v) (hd:DataW.Trod enc P w 0 (λ_=>true) true T v d m):∃ y,(L y).val w S0n g0n v/\B y:=by
 obtain⟨fuel,k⟩:=hd;obtain⟨y,i,j⟩:=h H enc w fuel _ _ k;have l:v.cells=#[v]:=by
  cases v with
  | agg cs=>
    exfalso;unfold Value.okWide at a;split at a
    . rename_i fs f;exact(g fs 0 0).1 f
    . rename_i n e f;exact(g #[] n e).2 f
    . unfold Cell.okWide at a
      split at a<;>(try (simp_all;done));unfold Cell.ok at a;split at a<;>simp_all
  | _=>rfl
 rw[l] at i;exact⟨y,Ly.val_of_hold1 (hn y) i,j⟩
theorem Qn0{P T}{α:Type}{L:α->List Ly}{B:α->Prop}{r:Reach}{base:Nat}{w:World}{v:Value}{H:Type}{enc:TypeId×Value->H}{d:DataW H}{k:List MemPlace}(h:Opn P T (λy=>.agg (L y)) B)
 (f:(∃ fs,P.underlying T=some (.struct fs))\/∃ n e,P.underlying T=some (.array n e)) (a:Value.okWide P w r base T v) (hd:DataW.Trod enc P w 0 (λ_=>true) true T v d k):∃ y,Ly.val w S0n g0n (.agg (L y)) v/\B y:=by
 obtain⟨fuel,i⟩:=hd;obtain⟨y,j,g⟩:=h H enc w fuel _ _ i;obtain⟨cs,rfl⟩:∃ cs,v=.agg cs:=by unfold Value.okWide at a;rcases f with ⟨fs,f⟩ | ⟨n,e,f⟩<;>rw[f] at a<;>(obtain⟨cs,h,_⟩:=a;exact⟨cs,h⟩)
 exact⟨y,⟨cs,rfl,by simpa [Ly.hold,Value.cells] using j⟩,g⟩
theorem Qp3{H:Type}{enc:TypeId×Value->H}{P:Program}{f:Func}{s:ChangeSpec}{apart fresh handsOn again:Bool}{W W':World}{args:Array Value}{v:Value}{ds e:List (DataW H)}{before pa pv:List MemPlace}
 (l:DataW.Whole enc P f.params.toList s.vars apart W args.toList ds e before) (hb:Below W.heap.size W W')
 (d:∀(b:Nat) (sp:Nat->Bool) (hd:Bool),DataW.TrodAll enc P W' b sp hd f.resultTypes.toList (v.resultList f.resultTypes.size) (s.fn H (ds++e)).results [])
 (hargs:∀ sp:Nat->Bool,(∀ p∈before,sp p.block=true)->DataW.TrodAll enc P W' 0 sp true f.params.toList args.toList (s.fn H (ds++e)).args pa)
 (hvars:∀ sp:Nat->Bool,(∀ p∈before,sp p.block=true)->DataW.TrodVars enc P W' sp s.vars (s.fn H (ds++e)).vars pv) (a:before=pa++pv)
 (m:∀(j:Nat) (t:TypeId) (r:Value),f.resultTypes[j]?=some t->(v.resultList f.resultTypes.size)[j]?=some r->Value.okWide P W' .any 0 t r) :
 s.post enc P f apart fresh handsOn again W args v W':=by
 have i:=λp hp=>l.lt p hp;have g:∀ p∈before,decide (p.block<W.heap.size)=true:=λp hp=>by simpa using i p hp
 refine⟨ds,e,before,[],pa,pv,l,d _ _ _,hargs _ g,hvars _ g,World.keptBut_mono (λp hp=>⟨hp,.inr ?_⟩) (hb.frame (·∈before)),λ_=>⟨m,_,_,([]++pa)++pv,⟨[]++pa,pv,trodAll_append (hargs _ λ_ _=>rfl) (d _ _ _),hvars _ λ_ _=>rfl,rfl,?_,?_⟩,?_⟩⟩;rw[a,yr] at hp;exact hp;intro b off hp;have k:MemPlace.cell b off∈before:=by rw[a];simpa using hp
 obtain⟨_,_,_,_,_,q,_⟩:=l;rw[hb.frozen (i _ k)];exact q b off k;intro n;obtain⟨_,_,_,_,_,_,hn⟩:=l;have:=hn n;rw[a] at this;simpa using this;intro p hp _;rw[a];simpa using hp
end Go.Proofs.YtjmfkenegjhohaaGreatDoor
