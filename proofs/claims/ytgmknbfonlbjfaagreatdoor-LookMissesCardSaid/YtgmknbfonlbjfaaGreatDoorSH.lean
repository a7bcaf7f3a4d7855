import Derived.MapKept
import Derived.Test.YtgmknbfonlbjfaaGreatDoorSB
namespace Go.Proofs.YtgmknbfonlbjfaaGreatDoor
open Go Go.RowKit
def mpC{α:Type}(f:α->Ly)(kv:List (Int×α)):Ct:=.mp (kv.map λe=>Value.int .i64 e.1) (kv.map λe=>f e.2)
theorem Qfv{w S γ}{ly:Ly}{l:List Ly}{v:Value}{vs:List Value}:Ly.vals w S γ (ly::l) (v::vs)↔Ly.val w S γ ly v/\Ly.vals w S γ l vs:=by constructor;intro h;simp only[Ly.vals] at h;obtain⟨_,_,e,h1,h2⟩:=h;cases e;exact⟨h1,h2⟩;rintro⟨h1,h2⟩;simp only[Ly.vals];exact⟨_,_,rfl,h1,h2⟩
theorem Qnv{α:Type}{f:α->Ly}{w S γ}(i:Int):∀(kv:List (Int×α)) (es:List MapEntry) (j:Nat),es.map (·.key)=kv.map (λe=>Value.int .i64 e.1) ->
 Ly.vals w S γ (kv.map λe=>f e.2) (es.map (·.val)) ->
 (mget kv i=none/\Instr.findNow (.int .i64) (.int .i64 i) es j=some none) \/
 ∃ x k v,mget kv i=some x/\k<es.length/\Instr.findNow (.int .i64) (.int .i64 i) es j=some (some (j+k,v))/\Ly.val w S γ (f x) v /\
   (∀ y u,Ly.val w S γ (f y) u->Ly.vals w S γ ((mset kv i y).map λe=>f e.2) ((es.modify k λe=>{ e with key:=.int .i64 i,val:=u }).map (·.val)) /\
    (es.modify k λe=>{ e with key:=.int .i64 i,val:=u }).map (·.key)=(mset kv i y).map (λe=>Value.int .i64 e.1))/\(es[k]?.map (·.key))=some (.int .i64 i)
 | [],[],j,_,_=>.inl ⟨rfl,rfl⟩
 | [],e::es,j,h,_=>by simp at h
 | (k,x)::kv,[],j,h,_=>by simp at h
 | (k,x)::kv,e::es,j,h,hv=>by
   simp only[xu,List.cons.injEq] at h;obtain⟨hk,h⟩:=h;simp only[xu] at hv;obtain⟨hv1,hv2⟩:=Qfv.1 hv;by_cases hki:k=i;subst hki;refine .inr ⟨x,0,e.val,by simp[mget],oc,?_,hv1,λy u hu=>⟨?_,?_⟩,by simp[hk]⟩;simp[Instr.findNow,Instr.sameNow,hk];simp only[mset,decide_true,cond_true,List.modify_zero_cons,xu];exact Qfv.2 ⟨hu,hv2⟩;simp[mset,h];have hs:Instr.findNow (.int .i64) (.int .i64 i) (e::es) j=Instr.findNow (.int .i64) (.int .i64 i) es (j+1):=by
    have hne:¬ i=k:=λe=>hki e.symm;have hb:(i == k)=false:=by simpa using hne
    simp[Instr.findNow,Instr.sameNow,hk,hb]
   have hg:mget ((k,x)::kv) i=mget kv i:=by simp[mget,hki]
   rcases Qnv i kv es (j+1) h hv2 with ⟨g1,g2⟩ | ⟨x',k',v',g1,g2,g3,g4,g5,g6⟩;exact .inl ⟨hg.trans g1,hs.trans g2⟩;refine .inr ⟨x',k'+1,v',hg.trans g1,oh,by rw[hs,g3];congr 3;omega,g4,λy u hu=>?_,by simpa using g6⟩;obtain⟨q1,q2⟩:=g5 y u hu;simp only[mset,hki,decide_false,wx,List.modify_succ_cons,xu];exact⟨Qfv.2 ⟨hv1,q1⟩,by rw[q2,hk]⟩
theorem Qpp{α:Type}{i:Int}{y:α}:∀ {kv:List (Int×α)},mget kv i=none->mset kv i y=kv++[(i,y)]
 | [],_=>rfl
 | (k,x)::kv,h=>by by_cases hki:k=i;simp[mget,hki] at h;simp only[mget,hki,decide_false,wx] at h;simp only[mset,hki,decide_false,wx,Qpp h,yr]
theorem Qqi{w S γ}{ly:Ly}{v:Value}:∀ {l:List Ly}{vs:List Value},Ly.vals w S γ l vs->Ly.val w S γ ly v->Ly.vals w S γ (l++[ly]) (vs++[v])
 | [],vs,h,hv=>by simp only[Ly.vals] at h;subst h;exact Qfv.2 ⟨hv,by simp[Ly.vals]⟩
 | l0::l,vs,h,hv=>by simp only[Ly.vals] at h;obtain⟨v0,r,rfl,h1,h2⟩:=h;exact Qfv.2 ⟨h1,Qqi h2 hv⟩
theorem Qyz{k:Nat}:∀ w S γ,Ly.val w S γ (sli k []) (.slice none 0 0):=λ_ _ _=>.inl ⟨rfl,rfl⟩
section ops
variable {X:Cx}{st:Nat->Option Ly}{mm:Nat->Option Ct}
theorem mkMp{α:Type}(f:α->Ly){d T ty pos af y}(hy:mm y=none)(hd:Nat.blt d X.N=true):
 OpOk X st mm ⟨some d,.makeMap T none,ty,pos,af,none⟩ [(d,.own y)] [(y,mpC f [])]:=
 Qhp hd hy rfl λa w γ hi=>by
  refine⟨.map (some w.heap.size),w.alloc (.map #[] 0),?_,rfl,rfl,rfl,Qam _ _ _,rfl,
   λS γ' hS hg hy'=>⟨w.heap.size,#[],0,hy',Qcp _ _,rfl,by simp[mpC,Ly.vals,MpB]⟩,λb hb=>by simp[blkOf] at hb;subst hb;simp⟩
  simp[execOp,Instr.makeMap,newObj,Sem.run]
theorem mpI{α:Type}{f:α->Ly}{id kv}{a w γ}(hI:Inv X st mm a w γ)(hm:mm id=some (mpC f kv)):∃ g es clk,γ id=some (.map (some g))/\w.heap[g]?=some (.map es clk)/\es.toList.map (·.key)=kv.map (λe=>Value.int .i64 e.1)/\Ly.vals w (X.S γ mm) γ (kv.map λe=>f e.2) (es.toList.map (·.val))/\MpB es clk:=hI.cts id _ hm
theorem lkM{α:Type}{f:α->Ly}(z0:α){d T K E id kv x i ty pos af p k b z}(hm:mm id=some (mpC f kv))(hT:X.P.underlying T=some (.map K E))(hK:X.P.underlying K=some (.int .i64))(hE:TyI X.P E k b z)(hz:∀ w S γ,Ly.val w S γ (f z0) z)
 (hd:Nat.blt d X.N=true) (hx:OpdF st x (.own id)) (hi:OpdF st i (i64 p)) :
 OpOk X st mm ⟨some d,.lookup T x i true,ty,pos,af,none⟩ [(d,.tup [f ((mget kv p).getD z0),bl (mget kv p).isSome])] []:=
 Kl hd λa w γ hI=>by
  obtain⟨g,es,clk,h1,h2,h3,h4,_⟩:=mpI hI hm;obtain⟨hv,_⟩:=hx.val hI;rw[h1] at hv;have hv:a.eval x=.map (some g):=by simpa using hv.symm
  obtain⟨hp,_⟩:=hi.val hI;have hkey:MapKept.IsKey (.int .i64) (.int .i64 p):=rfl;rcases Qnv (f:=f) p kv es.toList 0 h3 h4 with ⟨q1,q2⟩ | ⟨y,n,v,q1,q2,q3,q4,_,_⟩;refine⟨.tuple #[z,.bool false],?_,#[z,.bool false],rfl,_,_,rfl,?_,_,_,rfl,?_,rfl⟩;simp only[execOp,hv,hp];simp[Instr.lookup,run_underlying hT,MapKept.run_getObj_map h2,MapKept.run_checkKey hK hkey,MapKept.run_findKey hK q2,Yn hE,Result.andThen];rw[q1];exact hz _ _ _;rw[q1];exact rfl;refine⟨.tuple #[v,.bool true],?_,#[v,.bool true],rfl,_,_,rfl,?_,_,_,rfl,?_,rfl⟩;simp only[execOp,hv,hp];simp[Instr.lookup,run_underlying hT,MapKept.run_getObj_map h2,MapKept.run_checkKey hK hkey,MapKept.run_findKey hK q3,Result.andThen];rw[q1];exact q4;rw[q1];exact rfl
theorem upM{α:Type}{f:α->Ly}{T K E id kv x i v ty pos af p}{y:α}(hm:mm id=some (mpC f kv))(hT:X.P.underlying T=some (.map K E))(hK:X.P.underlying K=some (.int .i64))
 (hx:OpdF st x (.own id)) (hi:OpdF st i (i64 p)) (hv:OpdF st v (f y)) :
 OpOk X st mm ⟨none,.mapUpdate T x i v,ty,pos,af,none⟩ [] [(id,mpC f (mset kv p y))]:=by
 intro a w γ K' Q hI hK';obtain⟨g,es,clk,h1,h2,h3,h4,h5⟩:=mpI hI hm;obtain⟨hxv,_⟩:=hx.val hI;rw[h1] at hxv;have hxv:a.eval x=.map (some g):=by simpa using hxv.symm
 obtain⟨hp,hpb⟩:=hi.val hI;have hvv:=hv.val hI;have hkey:MapKept.IsKey (.int .i64) (.int .i64 p):=rfl;have hg:g<w.heap.size:=(vo.1 h2).1
 have fin:∀ es' clk',(Instr.mapUpdate T (.map (some g)) (.int .i64 p) (a.eval v)).run X.P w=.ok () { w with heap:=w.heap.setIfInBounds g (.map es' clk') } ->
  es'.toList.map (·.key)=(mset kv p y).map (λe=>Value.int .i64 e.1)->Ly.vals w (X.S γ mm) γ ((mset kv p y).map λe=>f e.2) (es'.toList.map (·.val))->MpB es' clk' ->
  (⟨none,.mapUpdate T x i v,ty,pos,af,none⟩:Oper).wp X.P a w K' Q:=by
  intro es' clk' r1 r2 r3 r4;let w':World:={ w with heap:=w.heap.setIfInBounds g (.map es' clk') }
  have hkp:Kp (λb=>b=g) w w':=⟨by simp[w'],λb hb hn=>by simp[w',uh (Ne.symm hn)]⟩
  have hnew:w'.heap[g]?=some (.map es' clk'):=by simp[w',hg]
  have hrun:(execOp a.eval ⟨none,.mapUpdate T x i v,ty,pos,af,none⟩).run X.P w=.ok .skip w':=by simp only[execOp,hxv,hp];simp[r1,w']
  have hown:Ow γ mm g:=⟨id,_,_,hm,rfl,h1,rfl⟩
  have hI':=hI.setc (w':=w') (ct:=mpC f (mset kv p y)) rfl rfl rfl hm rfl h1 rfl hkp rfl ⟨g,es',clk',h1,hnew,r2,?_,r4⟩
  . unfold Oper.wp
    rw[hrun];exact hK' _ _ _ hI'
  . exact Ly.vals_mono (S:=X.S γ mm) ⟨hkp.1,λb hb hn=>hkp.2 b hb λe=>hn (e ▸ .inr hown)⟩ (λb h=>.inl h) (λ_ _ h=>h) _ _ r3
 rcases Qnv (f:=f) p kv es.toList 0 h3 h4 with ⟨q1,q2⟩ | ⟨x0,n,v0,q1,q2,q3,q4,q5,q6⟩
 . refine fin (es.push ⟨.int .i64 p,a.eval v,clk⟩) (clk+1) ?_ ?_ ?_ ?_
   . simp[Instr.mapUpdate,run_underlying hT,MapKept.run_getObj_map h2,MapKept.run_checkKey hK hkey,MapKept.run_findKey hK q2,MapKept.run_setObj_map _ h2,Result.andThen]
   . rw[Qpp q1];simp[h3]
   . rw[Qpp q1,xw,Array.toList_push,xw];exact Qqi h4 hvv
   . refine⟨?_,λe he=>?_,λe he=>?_⟩
     . rw[Array.toList_push,xw,List.nodup_append]
       refine⟨h5.1,oc,λa ha b hb e=>?_⟩;obtain⟨x,hx,rfl⟩:=xy.1 ha;have:=h5.2.1 x hx;simp at hb;subst hb;omega
     . rw[Array.toList_push,yw] at he
       rcases he with he | he
       . exact Nat.lt_succ_of_lt (h5.2.1 e he)
       . simp at he;subst he;exact Nat.lt_succ_self clk
     . rw[Array.toList_push,yw] at he
       rcases he with he | he
       . exact h5.2.2 e he
       . simp at he;subst he;exact hpb
 . obtain⟨e1,e2⟩:=q5 y (a.eval v) hvv
   have hn:es[n]?.map (·.key)=some (.int .i64 p):=by simpa using q6
   refine fin (es.modify n λe=>{ e with key:=.int .i64 p,val:=a.eval v }) clk ?_ ?_ ?_ ?_
   . have hk0:((es[n]?).map (·.key)).getD (.int .i64 p)=.int .i64 p:=by rw[hn];rfl
     simp[Instr.mapUpdate,run_underlying hT,MapKept.run_getObj_map h2,MapKept.run_checkKey hK hkey,MapKept.run_findKey hK q3,hn,MapKept.run_keyThatStays hkey,MapKept.run_setObj_map _ h2,Result.andThen]
   . rw[Array.toList_modify];exact e2
   . rw[Array.toList_modify];exact e1
   . have hbn:∀(l:List MapEntry) (k:Nat),(l.modify k λe=>{ e with key:=.int .i64 p,val:=a.eval v }).map (·.born)=l.map (·.born):=by
      intro l
      induction l with
      | nil=>intro k;cases k<;>rfl
      | cons x l ih=>intro k;cases k with
        | zero=>rfl
        | succ k=>simp only[List.modify_succ_cons,xu,ih]
     have hbm:(es.modify n λe=>{ e with key:=.int .i64 p,val:=a.eval v }).toList.map (·.born)=es.toList.map (·.born):=by rw[Array.toList_modify];exact hbn _ _
     refine⟨by rw[hbm];exact h5.1,λe he=>?_,λe he=>?_⟩
     rotate_left
     . have hmm:∀(l:List MapEntry) (k:Nat),∀ e∈l.modify k (λe=>{ e with key:=.int .i64 p,val:=a.eval v }),e∈l\/e.key=.int .i64 p:=by
        intro l
        induction l with
        | nil=>intro k e he;cases k<;>cases he
        | cons x l ih=>intro k e he;cases k with
          | zero=>rcases xl.1 he with rfl | he;exact .inr rfl;exact .inl (.tail _ he)
          | succ k=>
            rw[List.modify_succ_cons] at he;rcases xl.1 he with rfl | he
            . exact .inl (.head _)
            . exact(ih k e he).imp (λh=>.tail _ h) (λh=>h)
       rw[Array.toList_modify] at he;rcases hmm _ _ e he with h | h
       . exact h5.2.2 e h
       . rw[h];exact hpb
     have:e.born∈es.toList.map (·.born):=hbm ▸ yx he;obtain⟨x,hx,hx2⟩:=xy.1 this;rw[<-hx2];exact h5.2.1 x hx
end ops
end Go.Proofs.YtgmknbfonlbjfaaGreatDoor
