import GoSem.ClaimJoined
import Derived.Test.YtmnlcblemgjeeaaGreatDoorFrame
namespace Go.Proofs.YtmnlcblemgjeeaaGreatDoor
open Go Go.RowKit Go.ChangeShapes Go.WideShapes Go.ChangeAt
theorem Qlw{H:Type}{P:Program}{E:TypeId}{p:Nat->Bool}{d:DataW H}:∀ {l:List (DataW H)},d∈l->(DataW.weightsAll P E l).all p=true->(d.weights P E).all p=true
 | x::l,h,hw=>by simp only[DataW.weightsAll,List.all_append,xw] at hw;rcases ud.1 h with rfl | h;exact hw.1;exact Qlw h hw.2
theorem Zw{H:Type}{P:Program}{p:Nat->Bool}:∀ {ts:List TypeId}{l:List (DataW H)}{i:Nat}{t:TypeId}{d:DataW H},ts[i]?=some t->l[i]?=some d->(DataW.weightsEach P ts l).all p=true->(d.weights P t).all p=true
 | [],_,i,_,_,h,_,_=>by simp at h
 | _::_,[],i,_,_,_,h,_=>by simp at h
 | t0::ts,x::l,i,t,d,h1,h2,hw=>by
   simp only[DataW.weightsEach,List.all_append,xw] at hw;cases i with
   | zero=>simp at h1 h2;subst h1;subst h2;exact hw.1
   | succ i=>exact Zw (i:=i) (by simpa using h1) (by simpa using h2) hw.2
def OpnW{α:Type}(P:Program)(T:Nat)(L:α->Ly)(B:α->Prop):Prop:=
 ∀(H:Type) (enc:TypeId×Value->H) (w:World) (fuel:Nat) (cs:List Value) (x:DataW H×List MemPlace),
  DataW.trod enc P w 0 (λ_=>true) true fuel T cs=some x->(x.1.weights P T).all (·<=reachBytes)=true->∃ y:α,(L y).hold w S0n g0n cs/\B y
theorem OpnW.of{α:Type}{P:Program}{T:Nat}{L:α->Ly}{B:α->Prop}(h:Opn P T L B):OpnW P T L (λy=>B y/\True):=λH enc w fuel cs x hx _=>by obtain⟨y,h1,h2⟩:=h H enc w fuel cs x hx;exact⟨y,h1,h2,trivial⟩
theorem OpnW.mono{α:Type}{P:Program}{T:Nat}{L:α->Ly}{B B':α->Prop}(h:OpnW P T L B)(hB:∀ y,B y->B' y):OpnW P T L B':=λH enc w fuel cs x hx hw=>by obtain⟨y,h1,h2⟩:=h H enc w fuel cs x hx hw;exact⟨y,h1,hB y h2⟩
theorem Qr8{P T E k}{α:Type}{f:α->Ly}{B:α->Prop}(hT:P.underlying T=some (.slice E))(hc:P.cellsOf E=k)(hk:Nat.blt 0 k=true)(hz:∀ x,(f x).sz=k)(hE:OpnW P E f B){q:Nat}(hq:P.bytesOf E=q):
 OpnW P T (λxs:List α=>sli k (xs.map f)) (λxs=>(xs.length<=maxLen/\xs.length*q<=reachBytes)/\∀ x∈xs,B x):=by
 intro H enc w fuel cs x h hw8;have hk':0<k:=by simpa using hk
 rcases DataW.trod_slice hT h with ⟨rfl,_⟩ | ⟨a,len,cap,elems,rest,n,_,rfl,hx8,_,hlc,hcm,hlen,hel,hsp,_⟩;exact⟨[],⟨_,rfl,.inl ⟨rfl,rfl⟩⟩,⟨xg _,oc⟩,λ_ h=>by cases h⟩;rw[hx8] at hw8;have hw9:=hw8;simp only[DataW.weights,hT,List.all_cons,List.all_append,xw,vk,xy,hq] at hw9;have hwt:elems.length*q<=reachBytes:=xn (ow _ (Nat.le_add_right _ _)) hw9.1;have hwe:∀ e∈elems,(e.1.weights P E).all (·<=reachBytes)=true:=λe he=>Qlw (gi he) hw9.2.1;subst hc;by_cases hcap:cap=0;subst hcap;obtain rfl:len=0:=om
 exact⟨[],⟨_,rfl,.inr (.inr ⟨rfl,a,rfl⟩)⟩,⟨xg _,oc⟩,λ_ h=>by cases h⟩;obtain⟨hrl,hr⟩:=hsp rfl;have first:∃ c0,w.cells? 0 (a.add 0) (P.cellsOf E)=some c0:=by
  by_cases h0:0<len;have:=hel 0 h0;rw[Nat.zero_mul] at this;obtain⟨e,he⟩:∃ e,elems[0]?=some e:=⟨elems[0],by simp[hlen,h0]⟩
  rw[he,Option.bind_eq_some_iff] at this;obtain⟨c0,h1,_⟩:=this;exact⟨c0,h1⟩;have:=hr 0 om;obtain rfl:len=0:=om
  rw[xk,Nat.zero_mul] at this;obtain⟨e,he⟩:∃ e,rest[0]?=some e:=⟨rest[0]' om,oc⟩
  rw[he,Option.bind_eq_some_iff] at this;obtain⟨c0,h1,_⟩:=this;exact⟨c0,h1⟩
 obtain⟨c0,hc0⟩:=first
 obtain⟨hl0,hat⟩:=cells?_all hc0;have hcell:∃ u,w.cell? a=some u:=by have:=hat 0 (c0[0]' om) oc;simp only[Addr.add,uv] at this;exact⟨_,this⟩
 obtain⟨u0,hu0⟩:=hcell;obtain⟨bb,o,sp⟩:=a;have hsp0:sp=none:=by unfold World.cell? at hu0;split at hu0;split at hu0;cases hu0;rename_i h;simpa using h;cases hu0
 subst hsp0;have hbb:bb<w.heap.size:=by rcases xx bb w.heap.size with h | h;exact h;simp[World.cell?,yd h] at hu0
 have key:∀ m,m<=len->∃(ys:List α) (css:List Value),ys.length=m/\Ly.holds w S0n g0n (ys.map f) css/\(∀ j u,css[j]?=some u->w.cell? ⟨bb,o+j,none⟩=some u)/\∀ y∈ys,B y:=by
  intro m
  induction m with
  | zero=>intro _;exact⟨[],[],rfl,rfl,λj u hj=>by simp at hj,λ_ h=>by cases h⟩
  | succ m ih=>
    intro hm;obtain⟨ys,css,h1,h2,h3,h4⟩:=ih om;have he:=hel m om;obtain⟨e,hee⟩:∃ e,elems[m]?=some e:=⟨elems[m]' om,oc⟩
    rw[hee,Option.bind_eq_some_iff] at he;obtain⟨c1,g1,g2⟩:=he;obtain⟨gl,gat⟩:=cells?_all g1;obtain⟨y,hy,hB⟩:=hE H enc w n c1 e g2 (hwe e (List.mem_of_getElem? hee));have hcl:css.length=m*P.cellsOf E:=by rw[Ly.holds_sz _ _ h2,Qpa (k:=P.cellsOf E) (λly hly=>by obtain⟨x,_,rfl⟩:=xj.1 hly;exact hz x)];simp[h1]
    refine⟨ys++[y],css++c1,by simp[h1],?_,?_,?_⟩;rw[yx];exact Qdf h2 ⟨c1,[],oc,hy,rfl⟩;intro j u hj;rcases xx j css.length with hlt | hge;rw[yy hlt] at hj;exact h3 j u hj;rw[xv hge] at hj;have:=gat _ u hj;rw[add0,add0,hcl] at this;rw[show o+m*P.cellsOf E+(j - m*P.cellsOf E)=o+j by omega] at this;exact this;intro z hz';rcases wn.1 hz' with h | h;exact h4 z h;rw[gq.1 h];exact hB
 obtain⟨ys,css,h1,h2,h3,h4⟩:=key len (ol _);refine⟨ys,⟨_,rfl,.inr (.inl ⟨bb,o,cap,css,by simp[h1],by simp[h1];omega,hcm,hbb,λh=>h,h3,h2,λly hly=>?_⟩)⟩,⟨om,by rw[h1,<-hlen];exact hwt⟩,h4⟩;obtain⟨x,_,rfl⟩:=xj.1 hly;exact hz x
def OpnsW{α:Type}(P:Program)(fl:List (Nat×Nat×Nat))(off total:Nat)(L:α->List Ly)(B:α->Prop):Prop:=
 ∀(H:Type) (enc:TypeId×Value->H) (w:World) (fuel:Nat) (cs:List Value),cs.length=total ->
  (∀ f∈fl,∃ x,DataW.trod enc P w 0 (λ_=>true) true fuel f.1 ((cs.drop f.2.1).take f.2.2)=some x/\(x.1.weights P f.1).all (·<=reachBytes)=true)->∃ y:α,Ly.holds w S0n g0n (L y) (cs.drop off)/\B y
theorem Qoc{P total}:OpnsW P [] total total (λ_:Unit=>[]) (λ_=>True):=by intro H enc w fuel cs hl _;exact⟨(),by rw[xe om];rfl,trivial⟩
theorem Z5{P T off k fl total}{α β:Type}{L1:α->Ly}{B1:α->Prop}{L2:β->List Ly}{B2:β->Prop}(h1:OpnW P T L1 B1)(h2:OpnsW P fl (off+k) total L2 B2):
 OpnsW P ((T,off,k)::fl) off total (λy:α×β=>L1 y.1::L2 y.2) (λy=>B1 y.1/\B2 y.2):=by
 intro H enc w fuel cs hl hf;obtain⟨x,hx,hxw⟩:=hf _ yq;obtain⟨y,hy,hB⟩:=h1 H enc w fuel _ x hx hxw;obtain⟨z,hz,hC⟩:=h2 H enc w fuel cs hl (λf hf'=>hf f (yo _ hf'));refine⟨(y,z),⟨(cs.drop off).take k,cs.drop (off+k),?_,hy,hz⟩,hB,hC⟩;rw[<-List.drop_drop];exact(yv k _).symm
theorem Qk5{P T total}{fs:Array Field}{fl:List (Nat×Nat×Nat)}{α β:Type}{L:α->List Ly}{B:α->Prop}(g:α->β){Lg:β->List Ly}{Bg:β->Prop}(hT:P.underlying T=some (.struct fs))(hc:P.cellsOf T=total)
 (hfl:fs.toList.map (λF=>(F.type,F.offset,P.cellsOf F.type))=fl) (h:OpnsW P fl 0 total L B) (hL:∀ y,L y=Lg (g y)) (hB:∀ y,B y->Bg (g y)):OpnW P T (λy=>.agg (Lg y)) Bg:=by
 intro H enc w fuel cs x hx hw8;obtain⟨xs,n,rfl,hx8,hl,hxl,hat⟩:=DataW.trod_struct hT hx
 obtain⟨y,hy,hb⟩:=h H enc w n cs (by rw[hl,hc]) (λf hf=>by
  rw[<-hfl] at hf;obtain⟨F,hF,rfl⟩:=xj.1 hf;obtain⟨i,hi⟩:=List.getElem?_of_mem hF;have:=hat i F (by simpa using hi);have hlt:i<xs.length:=by rw[hxl];rcases xx i fs.size with h | h;exact h;simp[ou (show fs.toList.length<=i by simpa using h)] at hi
  refine⟨xs[i],by rw[this];simp[hlt],?_⟩;rw[hx8] at hw8;simp only[DataW.weights,hT] at hw8
  exact Zw (i:=i) (by rw[xi,show fs.toList[i]?=some F by simpa using hi];rfl) (by simp[hlt]) hw8)
 exact⟨g y,by simp only[Ly.hold];rw[<-hL];simpa using hy,hB y hb⟩
theorem Qto{P T}{α:Type}{L:α->Ly}{B:α->Prop}{r:Reach}{base:Nat}{w:World}{v:Value}{H:Type}{enc:TypeId×Value->H}{d:DataW H}{ps:List MemPlace}(h:OpnW P T L B)(hn:∀ y,(L y).isN=false)
 (hT:∀ fs n e,P.underlying T≠some (.struct fs)/\P.underlying T≠some (.array n e)) (hval:Value.okWide P w r base T v) (hd:DataW.Trod enc P w 0 (λ_=>true) true T v d ps) (hw8:(d.weights P T).all (·<=reachBytes)=true):∃ y,(L y).val w S0n g0n v/\B y:=by
 obtain⟨fuel,hf⟩:=hd;obtain⟨y,hy,hB⟩:=h H enc w fuel _ _ hf hw8;have hv:v.cells=#[v]:=by
  cases v with
  | agg cs=>
    exfalso;unfold Value.okWide at hval;split at hval
    . rename_i fs he;exact(hT fs 0 0).1 he
    . rename_i n e he;exact(hT #[] n e).2 he
    . unfold Cell.okWide at hval
      split at hval<;>(try (simp_all;done));unfold Cell.ok at hval;split at hval<;>simp_all
  | _=>rfl
 rw[hv] at hy;exact⟨y,Ly.val_of_hold1 (hn y) hy,hB⟩
theorem Qtp{P T}{α:Type}{L:α->List Ly}{B:α->Prop}{r:Reach}{base:Nat}{w:World}{v:Value}{H:Type}{enc:TypeId×Value->H}{d:DataW H}{ps:List MemPlace}(h:OpnW P T (λy=>.agg (L y)) B)
 (hT:(∃ fs,P.underlying T=some (.struct fs))\/∃ n e,P.underlying T=some (.array n e)) (hval:Value.okWide P w r base T v) (hd:DataW.Trod enc P w 0 (λ_=>true) true T v d ps) (hw8:(d.weights P T).all (·<=reachBytes)=true):∃ y,Ly.val w S0n g0n (.agg (L y)) v/\B y:=by
 obtain⟨fuel,hf⟩:=hd;obtain⟨y,hy,hB⟩:=h H enc w fuel _ _ hf hw8;obtain⟨cs,rfl⟩:∃ cs,v=.agg cs:=by unfold Value.okWide at hval;rcases hT with ⟨fs,hT⟩ | ⟨n,e,hT⟩<;>rw[hT] at hval<;>(obtain⟨cs,h,_⟩:=hval;exact⟨cs,h⟩)
 exact⟨y,⟨cs,rfl,by simpa [Ly.hold,Value.cells] using hy⟩,hB⟩
end Go.Proofs.YtmnlcblemgjeeaaGreatDoor
