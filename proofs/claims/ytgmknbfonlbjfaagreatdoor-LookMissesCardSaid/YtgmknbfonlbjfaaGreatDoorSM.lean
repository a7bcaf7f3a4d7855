import Derived.Maps.RangeRun
import Derived.Sort.OwnSorted
import Derived.Test.YtgmknbfonlbjfaaGreatDoorSC
import Derived.Test.YtgmknbfonlbjfaaGreatDoorSH
namespace Go.Proofs.YtgmknbfonlbjfaaGreatDoor
open Go Go.RowKit
def MpF(g:Nat)(es:Array MapEntry)(clk:Nat):CP where
 p:=λw S v=>v=.map (some g)/\g<w.heap.size/\¬ S g/\w.heap[g]?=some (.map es clk)
 one:=by rintro w S v ⟨rfl,_⟩;rfl
 mono:=by rintro w S v w' S' ⟨rfl,h1,h2,h3⟩ hk hs;exact⟨rfl,xx h1 hk.1,λh=>(hs g h).elim h2 (λh'=>by omega),by rw[hk.2 g h1 h2];exact h3⟩
section
variable {R:Type}{X:Cx}{l:List (Nat×Ly)}{m:List (Nat×Ct)}{md:Option R}{G:R->Act->World->Prop}{Q:R->Exit->Act->World->Prop}
theorem mpFrz{α:Type}{f:α->Ly}{d id:Nat}{kv:List (Int×α)}(hd:lk l d=some (.own id))(hm:lk m id=some (mpC f kv))
 (K:∀ g es clk,es.toList.map (·.key)=kv.map (λe=>Value.int .i64 e.1)->MpB es clk->Sq X ((d,.cell (MpF g es clk))::l) ((id,.gone)::m) md G):Sq X l m md G:=by
 intro r a w γ hr hi;obtain⟨g,es,clk,h1,h2,h3,_,h5⟩:=mpI hi hm;refine K g es clk h3 h5 r a w γ hr ?_;have hdr:=hi.drop id;have hmine:=hi.mine g ⟨id,_,_,hm,rfl,h1,rfl⟩;have e1:lk ((d,Ly.cell (MpF g es clk))::l)=up (lk l) [(d,.cell (MpF g es clk))]:=(up_lk l [(d,.cell (MpF g es clk))]).symm;have e2:lk ((id,Ct.gone)::m)=up (lk m) [(id,.gone)]:=(up_lk m [(id,.gone)]).symm;rw[e1,e2];refine { hdr with sts:=?_ };intro i ly h;rw[Jz] at h;by_cases e:d=i;subst e;simp at h;subst h;obtain⟨u,g1,g2,_⟩:=hi.sts d _ hd;rw[h1] at g2;simp at g2;subst g2;refine⟨_,g1,rfl,hmine.2.1,?_,h2⟩;rintro(h | ⟨i,c',u,k1,k2,k3,k4⟩);exact hmine.2.2 h;rw[Jz] at k1;by_cases e:id=i;simp[e] at k1;subst k1;simp[Ct.alive] at k2;simp[e] at k1;exact e (hi.apart id i _ c' _ u g hm rfl k1 k2 h1 k3 rfl k4);simp[e] at h;exact hdr.sts i ly h
theorem rngM{st:Nat->Option Ly}{mm:Nat->Option Ct}{d x T K E ty pos af y g es clk}(hT:X.P.underlying T=some (.map K E))(hy:mm y=none)(hd:Nat.blt d X.N=true)(hx:OpdF st x (.cell (MpF g es clk))):
 OpOk X st mm ⟨some d,.range T x,ty,pos,af,none⟩ [(d,.own y)] [(y,.ob (.mapIter (some g) clk #[] clk))]:=
 Qhp hd hy rfl λa w γ hi=>by
  obtain⟨hv,_,_,hb⟩:=hx.val hi
  refine⟨.pointer (some ⟨w.heap.size,0,none⟩),w.alloc (.mapIter (some g) clk #[] clk),?_,rfl,rfl,rfl,Qam _ _ _,rfl,
   λS γ' hS hg hy'=>⟨w.heap.size,hy',Qcp _ _⟩,λb hb=>by simp[blkOf] at hb;subst hb;simp⟩
  simp only[execOp,hv,Sem.run_bind,run_range_map w T K E g es clk hT hb,Result.andThen];rfl
theorem soNext{d x ty pos after y g es clk seen c t6}{ops:Array Oper}{rest:List Oper}(hd:Nat.blt d X.N=true)(hx:OpdF (lk l) x (.own y))(hit:lk m y=some (.ob (.mapIter (some g) clk seen c)))(hc:clk<=c)
 (hmap:lk l t6=some (.cell (MpF g es clk))) (hB:MpB es clk)
 (h1:(leftOf es seen).size=0->Sq X ((d,.tup [bl false])::l) m md (λr=>wpList X.P ops (Q r) rest))
 (h2:∀ e∈(leftOf es seen).toList,Sq X ((d,.tup [bl true,.any,.any])::l) ((y,.ob (.mapIter (some g) clk (seen.push e.born) clk))::m) md (λr=>wpList X.P ops (Q r) rest)) :
 Sq X l m md (λr=>wpList X.P ops (Q r) (⟨some d,.next x false,ty,pos,after,none⟩::rest)):=by
 intro r a w γ hr hi;obtain⟨g1,e1,e2⟩:=hi.cts y _ hit;obtain⟨hv,_⟩:=hx.val hi;rw[e1] at hv;have hv:a.eval x=.pointer (some ⟨g1,0,none⟩):=by simpa using hv.symm
 obtain⟨vm,_,rfl,_,_,hb⟩:=hi.sts t6 _ hmap;refine wpList_plain rfl λK hK=>?_;unfold Oper.wp;rcases run_next_at (P:=X.P) w ty g1 g clk c seen es clk e2 hb hB.2.1 hc with ⟨q1,q2⟩ | ⟨e,he,w1,hw1,q2⟩
 . have hrun:(execOp a.eval ⟨some d,.next x false,ty,pos,after,none⟩).run X.P w=.ok (.value (.tuple #[.bool false])) w:=by
    simp only[execOp,hv,Sem.run_bind,q2,Result.andThen];rfl
   rw[hrun];refine hK _ w (h1 q1 r _ w γ hr ?_);have:=hi.put (d:=d) (v:=.tuple #[.bool false]) (ly:=.tup [bl false]) (by simpa using hd) ⟨#[.bool false],rfl,_,_,rfl,rfl,rfl⟩;rw[up_lk] at this;exact this
 . have hrun:(execOp a.eval ⟨some d,.next x false,ty,pos,after,none⟩).run X.P w=.ok (.value (.tuple #[.bool true,e.key,e.val])) (ChangeMaps.setBlock w1 g1 (.mapIter (some g) clk (seen.push e.born) clk)):=by
    simp only[execOp,hv,Sem.run_bind,q2,Result.andThen];rfl
   rw[hrun];refine hK _ _ (h2 e he r _ _ γ hr ?_);have hheap:w1.heap=w.heap:=by rcases hw1 with rfl | rfl<;>rfl
   have hos:w1.os=w.os/\w1.tape=w.tape/\w1.output=w.output:=by rcases hw1 with rfl | rfl<;>exact⟨rfl,rfl,rfl⟩
   have hg:g1<w.heap.size:=(vo.1 e2).1
   have hI':=hi.setc (w':=ChangeMaps.setBlock w1 g1 (.mapIter (some g) clk (seen.push e.born) clk)) (ct:=.ob (.mapIter (some g) clk (seen.push e.born) clk)) hos.1 hos.2.1 hos.2.2 hit rfl e1 rfl
    ⟨by simp[ChangeMaps.setBlock,hheap],λb hb hn=>by simp[ChangeMaps.setBlock,hheap,uh (Ne.symm hn)]⟩ rfl ⟨g1,e1,by simp[ChangeMaps.setBlock,hheap,hg]⟩
   have:=hI'.put (d:=d) (v:=.tuple #[.bool true,e.key,e.val]) (ly:=.tup [bl true,.any,.any]) (by simpa using hd) ⟨#[.bool true,e.key,e.val],rfl,_,_,rfl,rfl,_,_,rfl,trivial,_,_,rfl,trivial,rfl⟩;rw[up_lk,up_lk] at this;exact this
theorem entM{st:Nat->Option Ly}{mm:Nat->Option Ct}{d x ty pos af y g es clk t6}{seen:Array Nat}{e:MapEntry}{k:Int}(hd:Nat.blt d X.N=true)(hx:OpdF st x (.own y))(hit:mm y=some (.ob (.mapIter (some g) clk (seen.push e.born) clk)))
 (hmap:st t6=some (.cell (MpF g es clk))) (hB:MpB es clk) (he:e∈es.toList) (hk:e.key=.int .i64 k) :
 OpOk X st mm ⟨some d,.entry x,ty,pos,af,none⟩ [(d,.tup [i64 k,.any])] []:=
 Kl hd λa w γ hI=>by
  obtain⟨g1,e1,e2⟩:=hI.cts y _ hit;obtain⟨hv,_⟩:=hx.val hI;rw[e1] at hv;have hv:a.eval x=.pointer (some ⟨g1,0,none⟩):=by simpa using hv.symm
  obtain⟨vm,_,rfl,_,_,hb⟩:=hI.sts t6 _ hmap;refine⟨.tuple #[e.key,e.val],?_,#[e.key,e.val],rfl,_,_,rfl,?_,_,_,rfl,trivial,rfl⟩;simp only[execOp,hv,Sem.run_bind,run_entry_at w g1 g clk seen es clk e e2 hb he hB.1,Result.andThen];rfl;exact⟨hk,by have:=hB.2.2 e he;rw[hk] at this;exact this⟩
def LpP{σ:Type}(X:Cx)(L:σ->List (Nat×Ly))(M:σ->List (Nat×Ct))(I:σ->Prop)(μ:σ->Nat)(n:Nat)(Q:R->Exit->Act->World->Prop):R->Exit->Act->World->Prop:=λr=>
 Exit.then (λa w=>∃ s γ,I s/\μ s<n/\Inv X (lk (L s)) (lk (M s)) a w γ) (Q r)
theorem sloopP{σ:Type}{body:Code}(I:σ->Prop)(μ:σ->Nat)(L:σ->List (Nat×Ly))(M:σ->List (Nat×Ct))(s0:σ)(hI:I s0)(h0:Ent X l m (L s0) (M s0))
 (hb:∀ s,I s->Sq X (L s) (M s) md (λr=>body.wp X.P (LpP X L M I μ (μ s) Q r))):Sq X l m md (λr=>(Code.loop body).wp X.P (Q r)):=by
 intro r a w γ hr hi;obtain⟨γ0,hi0⟩:=h0 a w γ hi;refine Qni (λn a w=>∃ s γ,I s/\μ s=n/\Inv X (lk (L s)) (lk (M s)) a w γ) ?_ (μ s0) a w ⟨s0,γ0,hI,rfl,hi0⟩;rintro n a w ⟨s,γ,hs,rfl,hi⟩;refine Code.wp_mono (λe a' w' hq=>?_) (hb s hs r a w γ hr hi);cases e with
 | normal=>obtain⟨s',γ',h1,h2,h3⟩:=hq;exact⟨μ s',h2,s',γ',h1,rfl,h3⟩
 | _=>exact hq
theorem sgoP{σ:Type}{I:σ->Prop}{μ:σ->Nat}{L:σ->List (Nat×Ly)}{M:σ->List (Nat×Ct)}{n:Nat}(s:σ)(hs:I s)(hn:μ s<n)(h:Ent X l m (L s) (M s)):
 Sq X l m md (λr=>LpP X L M I μ n Q r .normal):=by
 intro r a w γ _ hi;obtain⟨γ',hi'⟩:=h a w γ hi;exact⟨s,γ',hs,hn,hi'⟩
theorem suP{σ:Type}{I:σ->Prop}{μ:σ->Nat}{L:σ->List (Nat×Ly)}{M:σ->List (Nat×Ct)}{n i:Nat}(h:Sq X l m md (λr=>Q r (.exit i))):
 Sq X l m md (λr=>LpP X L M I μ n Q r (.exit i)):=h
theorem cT{c:Operand}{x y:Code}(hc:OpdF (lk l) c (bl true))(h:Sq X l m md (λr=>x.wp X.P (Q r))):Sq X l m md (λr=>(Code.cond c x y).wp X.P (Q r)):=by intro r a w γ hr hi;have hv:a.eval c=.bool true:=hc.val hi;exact wp_cond_true hv (h r a w γ hr hi)
theorem cF{c:Operand}{x y:Code}(hc:OpdF (lk l) c (bl false))(h:Sq X l m md (λr=>y.wp X.P (Q r))):Sq X l m md (λr=>(Code.cond c x y).wp X.P (Q r)):=by intro r a w γ hr hi;have hv:a.eval c=.bool false:=hc.val hi;exact wp_cond_false hv (h r a w γ hr hi)
end
instance{g es clk}:CIF (.cell (MpF g es clk)):=⟨Z6 _⟩
theorem Qs4:∀ {l l':List Nat},l.Nodup->(∀ x∈l,x∈l')->l.length<=l'.length
 | [],_,_,_=>xo _
 | x::l,l',h,hs=>by rw[List.nodup_cons] at h;have:=Qs4 (l:=l) (l':=l'.erase x) h.2 λy hy=>(List.mem_erase_of_ne (λe=>h.1 (by rw[<-e];exact hy))).2 (hs y (.tail _ hy));rw[List.length_erase_of_mem (hs x (.head _))] at this;have:=List.length_pos_of_mem (hs x (.head _));simp;omega
structure Vis(es:Array MapEntry)(s:List Int×Array Nat×Nat):Prop where
 h:∃ vs:List MapEntry,s.2.1.toList=vs.map (·.born)/\vs.map (·.key)=s.1.map (Value.int .i64)/\(vs.map (·.born)).Nodup/\∀ e∈vs,e∈es.toList
def mu(es:Array MapEntry)(s:List Int×Array Nat×Nat):Nat:=(leftOf es s.2.1).size
theorem Qid{es:Array MapEntry}{seen:Array Nat}{e:MapEntry}(h:e∈(leftOf es seen).toList):e∈es.toList/\e.born ∉ seen.toList:=by unfold leftOf at h;simp at h;exact⟨by simpa using h.1,by simpa using h.2⟩
theorem Vis.start{es:Array MapEntry}{c:Nat}:Vis es ([],#[],c):=⟨[],rfl,rfl,List.nodup_nil,λ_ h=>by cases h⟩
theorem Vis.step{es:Array MapEntry}{s:List Int×Array Nat×Nat}(h:Vis es s){e:MapEntry}{k:Int}(he:e∈(leftOf es s.2.1).toList)(hk:e.key=.int .i64 k){c:Nat}:Vis es (s.1++[k],s.2.1.push e.born,c):=by obtain⟨vs,h1,h2,h3,h4⟩:=h.h;obtain⟨g1,g2⟩:=Qid he;refine⟨vs++[e],by simp[h1],by simp[h2,hk],?_,λx hx=>?_⟩;rw[xw,List.nodup_append];refine⟨h3,oc,λa ha b hb e1=>?_⟩;simp at hb;subst hb;subst e1;rw[h1] at g2;exact g2 ha;rcases yw.1 hx with hx | hx;exact h4 x hx;rw[yt.1 hx];exact g1
theorem Vis.room{es:Array MapEntry}{s:List Int×Array Nat×Nat}(h:Vis es s){e:MapEntry}(he:e∈(leftOf es s.2.1).toList):s.1.length+1<=es.toList.length:=by
 obtain⟨vs,h1,h2,h3,h4⟩:=h.h;obtain⟨g1,g2⟩:=Qid he
 have:=Qs4 (l:=(vs++[e]).map (·.born)) (l':=es.toList.map (·.born)) (by
  rw[xw,List.nodup_append];refine⟨h3,oc,λa ha b hb e1=>?_⟩;simp at hb;subst hb;subst e1;rw[h1] at g2;exact g2 ha) (λx hx=>by
  obtain⟨y,hy,rfl⟩:=xy.1 hx;rcases yw.1 hy with hy | hy;exact yx (h4 y hy)
  rw[yt.1 hy];exact yx g1)
 have e2:=ud List.length h2;simp at this e2;rw[uf];omega
theorem Q1k{es:Array MapEntry}{s:List Int×Array Nat×Nat}{e:MapEntry}{ks:List Int}{c:Nat}(he:e∈(leftOf es s.2.1).toList):mu es (ks,s.2.1.push e.born,c)<mu es s:=by
 unfold mu;have e1:(leftOf es (s.2.1.push e.born)).toList=(leftOf es s.2.1).toList.filter λx=>!(x.born == e.born):=by unfold leftOf;simp only[Array.toList_filter,List.filter_filter];refine List.filter_congr λx _=>?_;rw[Bool.eq_iff_iff];simp[not_or,and_comm]
 rw[<-uf,<-uf,e1];exact List.length_filter_lt_length_iff_exists.2 ⟨e,he,oc⟩
theorem Vis.fin{es:Array MapEntry}{clk:Nat}(hB:MpB es clk){s:List Int×Array Nat×Nat}(h:Vis es s){ks:List Int}(hk:es.toList.map (·.key)=ks.map (Value.int .i64))(h0:(leftOf es s.2.1).size=0):s.1.Perm ks:=by
 obtain⟨vs,h1,h2,h3,h4⟩:=h.h;have nv:vs.Nodup:=List.Pairwise.imp (fun {a b} h e=>h (by rw[e])) (List.pairwise_map.1 h3);have ne:es.toList.Nodup:=List.Pairwise.imp (fun {a b} h e=>h (by rw[e])) (List.pairwise_map.1 hB.1);have hp:vs.Perm es.toList:=by
  refine(List.perm_ext_iff_of_nodup nv ne).2 λx=>⟨h4 x,λhx=>?_⟩
  have hb:x.born∈s.2.1.toList:=by
   apply Classical.byContradiction;intro hn;have:x∈(leftOf es s.2.1).toList:=by unfold leftOf;simp;exact⟨by simpa using hx,by simpa using hn⟩
   rw[Array.eq_empty_of_size_eq_zero h0] at this;cases this
  rw[h1] at hb;obtain⟨y,hy,hyb⟩:=xy.1 hb;have hinj:∀(l:List MapEntry),(l.map (·.born)).Nodup->∀ a∈l,∀ b∈l,a.born=b.born->a=b:=by
   intro l
   induction l with
   | nil=>intro _ a ha;cases ha
   | cons z l ih=>
     intro hn a ha b hb e;rw[xu,List.nodup_cons] at hn;rcases xl.1 ha with ha1 | ha1<;>rcases xl.1 hb with hb1 | hb1;rw[ha1,hb1];exact absurd (by rw[<-ha1,e];exact yx hb1) hn.1;exact absurd (by rw[<-hb1,<-e];exact yx ha1) hn.1;exact ih hn.2 a ha1 b hb1 e
  rw[<-hinj _ hB.1 y (h4 y hy) x hx hyb];exact hy
 have hq:(s.1.map (Value.int .i64)).Perm (ks.map (Value.int .i64)):=by rw[<-h2,<-hk];exact hp.map _
 have:=hq.map λv=>match v with | .int _ x=>x | _=>0
 simpa [yy,Function.comp_def] using this
theorem Qxs{l l':List Int}(h:l.Perm l'):sortI l=sortI l':=by
 have tr:∀ a b c:Int,decide (a<=b)=true->decide (b<=c)=true->decide (a<=c)=true:=λa b c h1 h2=>by simp only[ur] at *;omega
 have to:∀ a b:Int,(decide (a<=b) || decide (b<=a))=true:=λa b=>by simp only[Bool.or_eq_true,ur];omega
 unfold sortI;refine List.Perm.eq_of_pairwise (le:=λa b=>decide (a<=b)=true) (λa b _ _ h1 h2=>?_) (List.pairwise_mergeSort tr to l) (List.pairwise_mergeSort tr to l') (((List.mergeSort_perm l _).trans h).trans (List.mergeSort_perm l' _).symm);simp only[ur] at h1 h2;omega
section
open Go.Sort
abbrev eI64(x:Int):Value:=.int .i64 x
theorem Qs5{w S γ}:∀ {l:List Int}{cs:List Value},Ly.holds w S γ (l.map i64) cs->cs=l.map eI64/\∀ x∈l,IntKind.i64.min<=x/\x<=IntKind.i64.max
 | [],cs,h=>⟨h,λ_ h=>by cases h⟩
 | x::l,cs,h=>by obtain⟨c1,c2,rfl,⟨v,rfl,rfl,hb⟩,h2⟩:=h;obtain⟨rfl,g⟩:=Qs5 h2;exact⟨rfl,λy hy=>by rcases xl.1 hy with rfl | hy;exact hb;exact g y hy⟩
theorem Qs6{w S γ}:∀ {l:List Int},(∀ x∈l,IntKind.i64.min<=x/\x<=IntKind.i64.max)->Ly.holds w S γ (l.map i64) (l.map eI64)
 | [],_=>rfl
 | x::l,h=>⟨[_],_,rfl,⟨_,rfl,rfl,h x (.head _)⟩,Qs6 λy hy=>h y (.tail _ hy)⟩
theorem Qnw(l:List Int):(sortI l).length=l.length:=List.length_mergeSort _
theorem Qxt{w:World}{g n:Nat}{os:Array Obj}{cur:Array Value}{e:TypeId}{fr:Nat×Nat}(d:Array Int)(hb:w.heap[g]?=some (.cells cur e fr)):
 (grow (putRow eI64 (Sort.ahead w n) g 0 d) os).heap[g]?=some (.cells (putCells eI64 0 d cur) e fr):=by
 have hg:g<w.heap.size:=(vo.1 hb).1;rw[heap_grow_old _ _ (by simpa using hg)];simp[putRow,mapBlock,Sort.ahead,wg,hb,onCells]
theorem Qy0(cur:Array Value)(ts:List Int)(h:ts.length<=cur.size):(putCells eI64 0 ts.toArray cur).toList.take ts.length=ts.map eI64:=by apply List.ext_getElem?;intro j;by_cases hj:j<ts.length;rw[List.getElem?_take_of_lt hj,xi];simp[putCells,hj,show j<cur.size by omega];rw[List.getElem?_take_eq_none om,ou oh]
def Qbx(x0:List Int):Option (List Int):=if x0.length<4611686018427387904 then some (sortI x0) else none
theorem fnSort{P:Program}{f E:Nat}{x0:List Int}(hf:∃ fn,P.funcs[f]?=some fn∧(fn.name == "runtime.NumGoroutine")=false∧fn.body.isSome=true)
 (h1:∀(blk off cap:Nat) (zs:List Int) (w:World),Holds eI64 w blk off zs.toArray->blk<w.heap.size->zs.length<4611686018427387904 ->
  Calls P f #[.slice (some ⟨blk,off,none⟩) zs.length cap] w λe w'=>e=.returned (.tuple #[])/\∃ n os,w'=grow (putRow eI64 (Sort.ahead w n) blk off (zs.mergeSort λx y=>decide (x<=y)).toArray) os)
 (h2:∀(p:Option Addr) (cap:Nat) (w:World),Calls P f #[.slice p 0 cap] w λe w'=>e=.returned (.tuple #[])/\w'=w) :
 ∀ r,Qbx x0=some r->FnOk P f [.own 0] [(0,.sl E 1 (x0.map i64))] (.tup []) [(0,.sl E 1 (r.map i64))]:=by
 intro r hr;unfold Qbx at hr;split at hr
 case isFalse=>cases hr
 rename_i hlen;cases hr;refine⟨hf,λw S0 γ vs k1 k2 k3 k4 k5 k6 _=>?_⟩;obtain⟨v,cs,e1,⟨e2,e3⟩,e4,e5⟩:=k3 0 _ rfl;obtain⟨u,r,hvs,⟨g1,g2⟩,hr⟩:=k6;rw[e1] at g1;cases g1;simp only[Ly.vals] at hr;subst hr;have hvs:vs=#[v]:=by apply vk;simpa using hvs
 subst hvs;obtain⟨rfl,hbd⟩:=Qs5 e4;simp only[ov] at e2 e3;rcases e3 with ⟨rfl,hn⟩ | ⟨g,cap,cur,rfl,_,f2,f3,f4,f5,f6⟩
 . have hx:x0=[]:=xc hn
   subst hx;rw[show sortI []=[] by simp[sortI]];refine(h2 none 0 w).mono ?_;rintro e w' ⟨rfl,rfl⟩;refine⟨_,γ,rfl,rfl,rfl,rfl,xn _,λ_ _ _=>rfl,Ng.refl _,λid h=>k2 id h,λid c h=>?_,k4,λb hb=>⟨.inr hb,k5 b hb⟩,#[],rfl,rfl⟩;exact k3 id c h
 . have hB:Holds eI64 w g 0 x0.toArray:=by
    intro j hj;have hj':j<x0.length:=by simpa using hj
    refine⟨?_,by simp[World.frozen?,f2]⟩;have h1:(cur.toList.take x0.length)[j]?=(x0.map eI64)[j]?:=by rw[<-f6,wk]
    rw[List.getElem?_take_of_lt hj'] at h1;simp only[World.cell?,f2,xr];simp only[Option.isSome_none,gm,if_false];rw[<-xi,h1];simp[hj']
   have hg:g<w.heap.size:=(vo.1 f2).1;have hOg:Ow γ (lk [(0,Ct.sl E 1 (x0.map i64))]) g:=⟨0,_,_,rfl,rfl,e1,rfl⟩
   refine(h1 g 0 cap x0 w hB hg hlen).mono ?_;rintro e w' ⟨rfl,n,os,rfl⟩;have hsz:w.heap.size<=(grow (putRow eI64 (Sort.ahead w n) g 0 (x0.mergeSort λx y=>decide (x<=y)).toArray) os).heap.size:=oc
   have how:∀ b,Ow γ (lk [(0,Ct.sl E 1 ((sortI x0).map i64))]) b->Ow γ (lk [(0,Ct.sl E 1 (x0.map i64))]) b:=by
    rintro b ⟨id,c,v,q1,q2,q3,q4⟩;have:id=0:=by
     simp only[lk] at q1;cases hb:Nat.beq 0 id
     . rw[hb] at q1;cases q1
     . exact(ot hb).symm
    subst this;exact⟨0,_,v,rfl,rfl,q3,q4⟩
   refine⟨_,γ,rfl,rfl,rfl,rfl,hsz,λb hb hn=>?_,Ng.refl _,λid h=>k2 id ?_,λid c h=>?_,λid id' c c' v v' b q1 q2 q3 q4 _ _ _ _=>?_,λb hb=>?_,#[],rfl,rfl⟩
   . rw[heap_grow_old _ _ (by simpa using hb)]
     have:g≠b:=λe=>hn (e ▸ hOg);simp[putRow,mapBlock,Sort.ahead,wg,this]
   . simp only[lk] at h |-
     cases hb:Nat.beq 0 id
     . rfl
     . rw[hb] at h;cases h
   . simp only[lk] at h
     cases hb:Nat.beq 0 id
     . rw[hb] at h;cases h
     . rw[hb] at h;cases h
       have:=ot hb;subst this;refine⟨_,(sortI x0).map eI64,e1,⟨oc,.inr ⟨g,cap,_,by simp[Qnw],xo _,Qxt _ f2,by simpa [Qnw] using f3,f4,by simpa [putCells] using f5,?_⟩⟩,Qs6 λx hx=>hbd x ((List.mergeSort_perm x0 _).mem_iff.1 hx),λly hly=>by obtain⟨x,_,rfl⟩:=xy.1 hly;rfl⟩;have:=Qy0 cur (sortI x0) (by rw[Qnw];simp at f5;omega);simp only[ov,wk];exact this
   . have z:∀ id c,lk [(0,Ct.sl E 1 ((sortI x0).map i64))] id=some c->id=0:=λid c q=>by
      simp only[lk] at q;cases hb:Nat.beq 0 id
      . rw[hb] at q;cases q
      . exact(ot hb).symm
     rw[z id c q1,z id' c' q3]
   . have h0:=how b hb
     exact⟨.inr h0,xx (k5 b h0).1 hsz,(k5 b h0).2⟩
end
theorem Qus{α:Type}{kv:List (Int×α)}{r:List Int}(h:Qj5 kv=some r):kv.length<=1000000/\r=sortI (kv.map (·.1)):=by unfold Qj5 at h;split at h;cases h;exact⟨oe,rfl⟩;cases h
theorem Q0d{α:Type}{es:Array MapEntry}{kv:List (Int×α)}(hk:es.toList.map (·.key)=kv.map λe=>Value.int .i64 e.1){e:MapEntry}(he:e∈es.toList):∃ k,e.key=.int .i64 k:=by have:e.key∈kv.map λe=>Value.int .i64 e.1:=hk ▸ yx he;obtain⟨x,_,hx⟩:=xy.1 this;exact⟨x.1,hx.symm⟩
end Go.Proofs.YtgmknbfonlbjfaaGreatDoor
