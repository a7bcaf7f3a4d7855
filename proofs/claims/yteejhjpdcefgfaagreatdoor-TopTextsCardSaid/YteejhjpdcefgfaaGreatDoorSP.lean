import Derived.Recover
import Derived.Test.YteejhjpdcefgfaaGreatDoorSC
namespace Go.Proofs.YteejhjpdcefgfaaGreatDoor
open Go Go.RowKit
structure PanB(w:World)(γ:Nm)(mi:List (Nat×Ct))(w':World):Prop where
 os:w'.os=w.os
 tape:w'.tape=w.tape
 output:w'.output=w.output
 grow:w.heap.size<=w'.heap.size
 old:∀ b,b<w.heap.size->¬ Ow γ (lk mi) b->w'.heap[b]?=w.heap[b]?
def pan(T:Nat)(u:Value):List PanicEntry:=[{ v:=.iface T u,recovered:=false }]
def Qi4(ly:Ly)(u:Value):Prop:=∀ w S γ,ly.val w S γ u
def PanP(w:World)(γ:Nm)(mi:List (Nat×Ct))(T:Nat)(ly:Ly):Ending->World->Prop:=λe w'=>∃ u,e=.panicked (pan T u)/\Qi4 ly u/\PanB w γ mi w'
def FnPk(P:Program)(f:Nat)(args:List Ly)(mi:List (Nat×Ct))(T:Nat)(ly:Ly):Prop:=
 (∃ fn,P.funcs[f]?=some fn∧(fn.name == "runtime.NumGoroutine")=false∧fn.body.isSome=true) ∧
 ∀(w:World) (S0:Nat->Prop) (γ:Nm) (vs:Array Value),(∀ b,S0 b->b<w.heap.size)->(∀ id,lk mi id=none->γ id=none) ->
  (∀ id c,lk mi id=some c->V4 w (Sx S0 γ mi) γ id c)->Apart γ (lk mi)->(∀ b,Ow γ (lk mi) b->b<w.heap.size/\¬ S0 b)->Ly.vals w (Sx S0 γ mi) γ args vs.toList->GwOk w (Sx S0 γ mi) ->
  Calls P f vs w (PanP w γ mi T ly)
def FnR{ε α:Type}(P:Program)(f:Nat)(args:List Ly)(mi:List (Nat×Ct))(T:Nat)(le:ε->Ly)(res:α->Ly)(mo:α->List (Nat×Ct)):Except ε α->Prop
 | .ok x=>FnOk P f args mi (res x) (mo x)
 | .error e=>FnPk P f args mi T (le e)
def RetR{ε α:Type}(w:World)(S0:Nat->Prop)(γ:Nm)(mi:List (Nat×Ct))(T:Nat)(le:ε->Ly)(res:α->Ly)(mo:α->List (Nat×Ct)):Except ε α->Ending->World->Prop
 | .ok x=>RetP w S0 γ mi (res x) (mo x)
 | .error e=>PanP w γ mi T (le e)
theorem inv0{P:Program}{N:Nat}{fn:Func}{args:List Ly}{mi:List (Nat×Ct)}{w:World}{S0:Nat->Prop}{γ:Nm}{vs:Array Value}(hN:fn.ntmps=N)(hl:Nat.ble args.length N=true)
 (h1:∀ b,S0 b->b<w.heap.size) (h2:∀ id,lk mi id=none->γ id=none) (h3:∀ id c,lk mi id=some c->V4 w (Sx S0 γ mi) γ id c) (h4:Apart γ (lk mi))
 (h5:∀ b,Ow γ (lk mi) b->b<w.heap.size/\¬ S0 b) (h6:Ly.vals w (Sx S0 γ mi) γ args vs.toList) (h7:GwOk w (Sx S0 γ mi)) :
 Inv ⟨P,N,w,S0,Ow γ (lk mi),γ,[]⟩ (lk (argl 0 args)) (lk mi) { tmps:=vs++Array.replicate (fn.ntmps - vs.size) undef,defers:=[] } w γ:=by
 have hvl:vs.size=args.length:=by
  have:∀(l:List Ly) (vs:List Value),Ly.vals w (Sx S0 γ mi) γ l vs->vs.length=l.length:=by
   intro l
   induction l with
   | nil=>intro vs h;simp only[Ly.vals] at h;simp[h]
   | cons x l ih=>intro vs h;simp only[Ly.vals] at h;obtain⟨v,r,rfl,_,h⟩:=h;simp[ih r h]
  simpa using this args vs.toList h6
 have hle:=yq hl
 exact { size:=by simp[hN,hvl];omega,defs:=rfl,s0:=h1,gx:=h7,keep:=Ng.refl _,os:=rfl,tape:=rfl,output:=rfl,grow:=ou _,old:=λ_ _ _=>rfl,fresh:=h2,cts:=h3,apart:=h4,
         mine:=λb hb=>⟨.inr hb,(h5 b hb).1,(h5 b hb).2⟩,
         sts:=λd ly hd=>by
          obtain⟨_,v,g1,g2⟩:=Qr3 0 h6 d ly hd;refine⟨v,?_,g2⟩;simp only[Nat.sub_zero,yr] at g1;show(vs++_)[d]?=_
          rw[Array.getElem?_append_left (by
           rcases xh d vs.size with h | h;exact h
           simp[ye h] at g1)]
          exact g1 }
theorem fsP{ε α:Type}{P:Program}{f N:Nat}{fn:Func}{c:Code}{args:List Ly}{mi:List (Nat×Ct)}{T:Nat}{le:ε->Ly}{res:α->Ly}{mo:α->List (Nat×Ct)}{md:Option (Except ε α)}
 (hf:P.funcs[f]?=some fn) (h:∀ w S0 γ,(∀ id,lk mi id=none->γ id=none)->Sq ⟨P,N,w,S0,Ow γ (lk mi),γ,[]⟩ (argl 0 args) mi md (λr=>c.wp P (bodyPost P fn (RetR w S0 γ mi T le res mo r))))
 (hb:fn.body=some c:=by exact rfl) (hN:fn.ntmps=N:=by exact rfl) (hname:(fn.name == "runtime.NumGoroutine")=false:=by kernel_rfl) (hl:Nat.ble args.length N=true:=by exact rfl) :
 ∀ r,md=some r->FnR P f args mi T le res mo r:=by
 intro r hr
 have hc:∀(w:World) (S0:Nat->Prop) (γ:Nm) (vs:Array Value),(∀ b,S0 b->b<w.heap.size)->(∀ id,lk mi id=none->γ id=none) ->
  (∀ id c,lk mi id=some c->V4 w (Sx S0 γ mi) γ id c)->Apart γ (lk mi)->(∀ b,Ow γ (lk mi) b->b<w.heap.size/\¬ S0 b)->Ly.vals w (Sx S0 γ mi) γ args vs.toList->GwOk w (Sx S0 γ mi) ->
  Calls P f vs w (RetR w S0 γ mi T le res mo r):=λw S0 γ vs h1 h2 h3 h4 h5 h6 h7=>calls_of_wp hf hb (h w S0 γ h2 r _ w γ hr (inv0 hN hl h1 h2 h3 h4 h5 h6 h7))
 have he:∃ fn,P.funcs[f]?=some fn∧(fn.name == "runtime.NumGoroutine")=false∧fn.body.isSome=true:=⟨fn,hf,hname,by rw[hb];rfl⟩
 cases r with
 | ok x=>exact⟨he,hc⟩
 | error e=>exact⟨he,λw S0 γ vs h1 h2 h3 h4 h5 h6 h7=>hc w S0 γ vs h1 h2 h3 h4 h5 h6 h7⟩
def PanW(X:Cx)(w:World):Prop:=w.os=X.w0.os/\w.tape=X.w0.tape/\w.output=X.w0.output/\X.w0.heap.size<=w.heap.size/\∀ b,b<X.w0.heap.size->¬ X.M b->w.heap[b]?=X.w0.heap[b]?
theorem panW{X:Cx}{st mm a w γ}(hi:Inv X st mm a w γ):PanW X w:=⟨hi.os,hi.tape,hi.output,hi.grow,hi.old⟩
structure Pq{R:Type}(X:Cx)(T:Nat)(ly:Ly)(md:Option R)(Q:R->Exit->Act->World->Prop):Prop where
 h:∀ u r a w,Qi4 ly u->md=some r->a.defers=X.df->PanW X w->Q r (.panic (pan T u)) a w
def PqI{R:Type}(X:Cx)(T:Nat)(ly:Ly)(l:List (Nat×Ly))(m:List (Nat×Ct))(md:Option R)(Q:R->Exit->Act->World->Prop):Prop:=∀ u,Qi4 ly u->Sq X l m md (λr=>Q r (.panic (pan T u)))
def goneM(ρ:List (Nat×Nat)):List (Nat×Ct):=ρ.map λe=>(e.2,.gone)
theorem Jbw(ρ:List (Nat×Nat)):AllIn (goneM ρ) (ρ.map (·.2)):=by
 have key:∀(l:List (Nat×Nat)),(∀ e∈l,∃ c,lk (goneM ρ) e.2=some c)->AllIn (goneM ρ) (l.map (·.2)):=by
  intro l
  induction l with
  | nil=>intro _;trivial
  | cons e l ih=>intro h;exact⟨h e oc,ih λx hx=>h x (by simp[hx])⟩
 refine key ρ λe he=>?_;clear key
 induction ρ with
 | nil=>cases he
 | cons x ρ ih=>
   show ∃ c,lk ((x.2,.gone)::goneM ρ) e.2=some c;simp only[lk];cases hb:Nat.beq x.2 e.2;rcases xc.1 he with rfl | h;simp at hb;exact ih h;exact⟨_,rfl⟩
theorem Jae(ρ:List (Nat×Nat))(mo:List (Nat×Ct)):BackM [] ρ mo (goneM ρ):=by
 have key:∀(l:List (Nat×Nat)),(∀ e∈l,e∈ρ)->BackM [] ρ mo (goneM l):=by
  intro l
  induction l with
  | nil=>intro _;trivial
  | cons e l ih=>intro h;exact⟨.inr ⟨rfl,e.1,h e oc⟩,ih λx hx=>h x (by simp[hx])⟩
 exact key ρ λ_ h=>h
def goneL(mi:List (Nat×Ct)):List (Nat×Ct):=mi.map λe=>(e.1,.gone)
theorem Jaf{mi:List (Nat×Ct)}{id:Nat}(h:lk (goneL mi) id=none):lk mi id=none:=by
 induction mi with
 | nil=>rfl
 | cons e mi ih=>
   obtain⟨i,c⟩:=e;simp only[goneL,xw,lk] at h |-;cases hb:Nat.beq i id;rw[hb] at h;exact ih h;rw[hb] at h;cases h
theorem Qr8{mi:List (Nat×Ct)}{id:Nat}{c:Ct}(h:lk (goneL mi) id=some c):c=.gone:=by
 induction mi with
 | nil=>cases h
 | cons e mi ih=>
   obtain⟨i,c0⟩:=e;simp only[goneL,xw,lk] at h;cases hb:Nat.beq i id;rw[hb] at h;exact ih h;rw[hb] at h;cases h;rfl
theorem PanB.back{w:World}{S0:Nat->Prop}{γ:Nm}{mi:List (Nat×Ct)}{w':World}(h:PanB w γ mi w')(hγ:∀ id,lk mi id=none->γ id=none)(v:Value):Back w S0 γ mi .any (goneL mi) v γ w' where
 os:=h.os
 tape:=h.tape
 output:=h.output
 grow:=h.grow
 old:=h.old
 keep:=Ng.refl _
 fresh:=λid hid=>hγ id (Jaf hid)
 cts:=λid c hc=>by rw[Qr8 hc];trivial
 apart:=λid id' c c' v v' b h1 h2=>by rw[Qr8 h1] at h2;cases h2
 mine:=λb ⟨id,c,v,h1,h2,_⟩=>by rw[Qr8 h1] at h2;cases h2
 res:=by simp[Ly.val]
section
variable {X:Cx}{st:Nat->Option Ly}{mm:Nat->Option Ct}
def Runs(X:Cx)(st:Nat->Option Ly)(mm:Nat->Option Ct)(o:Oper)(f:Nat)(ρ:List (Nat×Nat))(largs:List Ly):Prop:=
 ∀ fn,X.P.funcs[f]?=some fn->(fn.name == "runtime.NumGoroutine")=false->fn.body.isSome=true->∀ a w γ,Inv X st mm a w γ->∃ vs:Array Value,(execOp a.eval o).run X.P w=.ok (.enter f vs) w ∧
     ∀(γc:Nm) (S:Nat->Prop),(∀ y x,lk ρ y=some x->γc y=γ x)->(∀ b,S b->X.S γ mm b)->Ly.vals w S γc largs vs.toList
theorem Q0g{d f args argTypes ty pos af largs}{ρ:List (Nat×Nat)}{gd}(ha:ArgF st ρ args largs):Runs X st mm ⟨d,.call { callee:=.value (.func f),args:=⟨args⟩,argTypes:=argTypes },ty,pos,af,gd⟩ f ρ largs:=by
 intro fn hfn hname hbody a w γ hi;refine⟨(args.map a.eval).toArray,?_,fun γc S hgc hSc=>by simpa using Qhf hi hgc hSc ha⟩;have e1:fn.body.isNone=false:=by cases h:fn.body<;>simp[h] at hbody |-
 have e2:¬ fn.name= "runtime.NumGoroutine":=by simpa using hname
 simp only[execOp,resolve,Act.eval];simp[Deferred.ofValue,invoke,callFunc,hfn,e2];intro e3;rw[e3] at e1;cases e1
theorem Jel{d x f bs lb args argTypes ty pos af la largs}{ρ:List (Nat×Nat)}{gd}(hx:OpdF st x (.bnd f bs))(hl:largs=lb++la)(hc:Rns ρ bs lb)(ha:ArgF st ρ args la):
 Runs X st mm ⟨d,.call { callee:=.value x,args:=⟨args⟩,argTypes:=argTypes },ty,pos,af,gd⟩ f ρ largs:=by
 intro fn hfn hname hbody a w γ hi;have hv:=hx.val hi;simp only[Ly.val] at hv;obtain⟨us,hu,hu2⟩:=hv;refine⟨us.toArray++(args.map a.eval).toArray,?_,fun γc S hgc hSc=>?_⟩;have e1:fn.body.isNone=false:=by cases h:fn.body<;>simp[h] at hbody |-
 have e2:¬ fn.name= "runtime.NumGoroutine":=by simpa using hname
 simp only[execOp,resolve,hu];simp[Deferred.ofValue,invoke,callFunc,hfn,e2];intro e3;rw[e3] at e1;cases e1;rw[hl];simp only[Array.toList_append];exact Qr7 (Ly.vals_mono (Kp.refl _ _) (λb hb=>.inl (hSc b hb)) (Ng.refl _) _ _ ((hc w _ γ γc hgc).2 _ hu2)) (Qhf hi hgc hSc ha)
theorem panCall{o f largs mi T ly}{ρ:List (Nat×Nat)}(hp:FnPk X.P f largs mi T ly)(hrun:Runs X st mm o f ρ largs)(hmi:MiF ρ mm mi)(hρm:NmM mi ρ)(hρn:nodupB (ρ.map (·.2))=true)
 {a:Act}{w:World}{γ:Nm}(hi:Inv X st mm a w γ) {K:Act->World->Prop}{Q:Exit->Act->World->Prop}(hQ:∀ u w' γ',Qi4 ly u->Inv X st (up mm (goneM ρ)) a w' γ'->Q (.panic (pan T u)) a w'):o.wp X.P a w K Q:=by
 obtain⟨⟨fn,hfn,hname,hbody⟩,hc⟩:=hp;obtain⟨vs,hr,hvals⟩:=hrun fn hfn hname hbody a w γ hi;obtain⟨g1,g2,g3,g4,g5,g6,g7,g8⟩:=callX (res:=.any) (res':=.any) (mo:=goneL mi) (em:=goneM ρ) ρ [] [] (MiF.get hmi) hρm hρn trivial trivial rfl (Jae ρ _) (Jbw ρ) trivial (rn_id Q4c) hi;unfold Oper.wp;rw[hr,Oper.upon_enter];refine(hc w _ _ vs g3 g4 g5 g6 g7 (hvals _ _ g1 g2) (hi.gw g2)).mono ?_;rintro e w' ⟨u,rfl,hu,hb⟩;obtain⟨γ'',hinv,_,_⟩:=g8 undef _ w' (hb.back g4 undef);exact hQ u w' γ'' hu hinv
end
section
variable {R:Type}{X:Cx}{l:List (Nat×Ly)}{m:List (Nat×Ct)}{md:Option R}{Q:R->Exit->Act->World->Prop}{G:R->Act->World->Prop}{T:Nat}{ly:Ly}
theorem pq_th{N:R->Act->World->Prop}(h:Pq X T ly md Q):Pq X T ly md (λr=>Exit.then (N r) (Q r)):=⟨h.h⟩
theorem pq_bl{id:Nat}(h:Pq X T ly md Q):Pq X T ly md (λr=>Exit.inBlock id (Q r)):=⟨h.h⟩
theorem pq_sc(h:Pq X T ly md Q):Pq X T ly md (λr=>Exit.noGoto (Q r)):=⟨h.h⟩
theorem pq_lp{σ τ:Type}{L:σ->List (Nat×Ly)}{M:σ->List (Nat×Ct)}{k:τ->Option R}{t:τ}(h:Pq X T ly (k t) Q):Pq X T ly (some (Lp.out t)) (λ(o:Lp σ τ)=>LpQ X L M k Q o):=by refine⟨λu o a w hu ho hd hw=>?_⟩;cases ho;exact⟨(λh=>by cases h),λr hr=>h.h u r a w hu hr hd hw⟩
theorem Jio{ε α:Type}{P:Program}{N:Nat}{w0:World}{S0 γ0}{mi:List (Nat×Ct)}{le:ε->Ly}{res:α->Ly}{mo:α->List (Nat×Ct)}{fn:Func}{e:ε}(hle:ly=le e:=by exact rfl):
 Pq ⟨P,N,w0,S0,Ow γ0 (lk mi),γ0,[]⟩ T ly (some (.error e)) (λr=>bodyPost P fn (RetR w0 S0 γ0 mi T le res mo r)):=by
 refine⟨λu r a w hu hr hd hw=>?_⟩;cases hr;subst hle;exact⟨hd,u,rfl,hu,hw.1,hw.2.1,hw.2.2.1,hw.2.2.2.1,hw.2.2.2.2⟩
theorem tP_{p:Prop}(h:p:=by (repeat (first | exact Jio | apply pq_th | apply pq_bl | apply pq_sc | apply pq_lp))):p:=h
theorem pqI(h:Pq X T ly md Q):PqI X T ly l m md Q:=λu hu r a w _ hr hi=>h.h u r a w hu hr hi.defs (panW hi)
theorem rtR{ε α:Type}{P:Program}{w0:World}{S0:Nat->Prop}{γ0:Nm}{mi:List (Nat×Ct)}{le:ε->Ly}{res:α->Ly}{mo:α->List (Nat×Ct)}{fn:Func}{x:α}{e:Exit}
 (h:Sq X l m (some x) (λr=>bodyPost P fn (RetP w0 S0 γ0 mi (res r) (mo r)) e)):Sq X l m (some (Except.ok x)) (λr=>bodyPost P fn (RetR w0 S0 γ0 mi T le res mo r) e):=by
 intro r a w γ hr hi;cases hr;exact h x a w γ rfl hi
theorem bPX{ε α:Type}{md1:Option (Except ε α)}{fe:ε->Option R}{k:α->Option R}{f largs mi}{res:α->Ly}{mo:α->List (Nat×Ct)}{le:ε->Ly}{d op ty pos after}{ops:Array Oper}{rest:List Oper}{ρ:List (Nat×Nat)}
 (c:∀ r,md1=some r->FnR X.P f largs mi T le res mo r) (hrun:Runs X (lk l) (lk m) ⟨d,op,ty,pos,after,none⟩ f ρ largs) (hmi:MiF ρ (lk m) mi) (hρm:NmM mi ρ) (hρn:nodupB (ρ.map (·.2))=true)
 (hq:∀ e,PqI X T (le e) l (goneM ρ++m) (fe e) Q)
 (hok:∀ x,FnOk X.P f largs mi (res x) (mo x)->Sq X l m (k x) (λr=>wpList X.P ops (Q r) (⟨d,op,ty,pos,after,none⟩::rest))) :
 Sq X l m (md1.bind (exK fe k)) (λr=>wpList X.P ops (Q r) (⟨d,op,ty,pos,after,none⟩::rest)):=by
 refine bd λy hy=>?_;have hc:=c y hy;cases y with
 | ok x=>exact hok x hc
 | error e=>
   intro r a w γ hr hi;refine wpList_plain rfl λK hK=>?_;refine panCall hc hrun hmi hρm hρn hi λu w' γ' hu hi'=>?_;rw[up_lk] at hi';exact hq e u hu r a w' γ' hr hi'
theorem tQ_{ρ:List (Nat×Nat)}{mm:Nat->Option Ct}{mi}(h:MiF ρ mm mi:=by (repeat (first | exact trivial | refine Q4w rfl (by first | exact rfl | exact(Ag.get (by assumption) rfl).trans rfl) (by first | exact rc_sl CIFs.h | exact rc_bx (by (repeat' first | exact rn_id CIF.h | exact J7 rfl | exact J9 | refine Qx ?_ ?_ | refine Wy ?_ | exact Qnx rfl | exact Qdi rfl | exact Qn1 rfl | refine Qf2 ?_ | exact Qn2 rfl | refine Qq4 ?_)) | exact rc_ob | exact rc_ch | exact rc_mp CIFs.h) ?_))):MiF ρ mm mi:=h
theorem bP{ε α:Type}{P:Program}{md1:Option (Except ε α)}{fe:ε->Option R}{k:α->Option R}{f largs mi}{res:α->Ly}{mo:α->List (Nat×Ct)}{le:ε->Ly}{d args argTypes ty pos after}{ops:Array Oper}{rest:List Oper}
 (bs:List Nat) (c:∀ r,md1=some r->FnR P f largs mi T le res mo r)
 (hok:∀ x,FnOk P f largs mi (res x) (mo x)->Sq X l m (k x) (λr=>wpList X.P ops (Q r) (⟨d,.call { callee:=.value (.func f),args:=⟨args⟩,argTypes:=argTypes },ty,pos,after,none⟩::rest)))
 (hP:P=X.P:=by exact rfl) (ha:autoParam (ArgF (lk l) (zpK mi bs) args largs) tG_._auto_1) (hmi:autoParam (MiF (zpK mi bs) (lk m) mi) tQ_._auto_1) (hρm:autoParam (NmM mi (zpK mi bs)) tE_._auto_1) (hρn:nodupB ((zpK mi bs).map (·.2))=true:=by exact rfl)
 (hq:∀ e,Pq X T (le e) (fe e) Q:=by intro e;exact tP_) :
 Sq X l m (md1.bind (exK fe k)) (λr=>wpList X.P ops (Q r) (⟨d,.call { callee:=.value (.func f),args:=⟨args⟩,argTypes:=argTypes },ty,pos,after,none⟩::rest)):=by
 subst hP;exact bPX c (Q0g ha) hmi hρm hρn (λe=>pqI (hq e)) hok
theorem bPD{ε α:Type}{P:Program}{md1:Option (Except ε α)}{fe:ε->Option R}{k:α->Option R}{f largs mi}{res:α->Ly}{mo:α->List (Nat×Ct)}{le:ε->Ly}{d args argTypes ty pos after}{ops:Array Oper}{rest:List Oper}
 (bs:List Nat) (c:∀ r,md1=some r->FnR P f largs mi T le res mo r)
 (hq:∀ e,PqI X T (le e) l (goneM (zpK mi bs)++m) (fe e) Q)
 (hok:∀ x,FnOk P f largs mi (res x) (mo x)->Sq X l m (k x) (λr=>wpList X.P ops (Q r) (⟨d,.call { callee:=.value (.func f),args:=⟨args⟩,argTypes:=argTypes },ty,pos,after,none⟩::rest)))
 (hP:P=X.P:=by exact rfl) (ha:autoParam (ArgF (lk l) (zpK mi bs) args largs) tG_._auto_1) (hmi:autoParam (MiF (zpK mi bs) (lk m) mi) tQ_._auto_1) (hρm:autoParam (NmM mi (zpK mi bs)) tE_._auto_1) (hρn:nodupB ((zpK mi bs).map (·.2))=true:=by exact rfl) :
 Sq X l m (md1.bind (exK fe k)) (λr=>wpList X.P ops (Q r) (⟨d,.call { callee:=.value (.func f),args:=⟨args⟩,argTypes:=argTypes },ty,pos,after,none⟩::rest)):=by
 subst hP;exact bPX c (Q0g ha) hmi hρm hρn hq hok
theorem bPB{ε α:Type}{P:Program}{md1:Option (Except ε α)}{fe:ε->Option R}{k:α->Option R}{f largs lb la bl_ mi}{res:α->Ly}{mo:α->List (Nat×Ct)}{le:ε->Ly}{d x args argTypes ty pos after}{ops:Array Oper}{rest:List Oper}
 (bs:List Nat) (c:∀ r,md1=some r->FnR P f largs mi T le res mo r) (hx:OpdF (lk l) x (.bnd f bl_)) (hl:largs=lb++la) (hc:Rns (zpK mi bs) bl_ lb)
 (hok:∀ x_,FnOk P f largs mi (res x_) (mo x_)->Sq X l m (k x_) (λr=>wpList X.P ops (Q r) (⟨d,.call { callee:=.value x,args:=⟨args⟩,argTypes:=argTypes },ty,pos,after,none⟩::rest)))
 (hP:P=X.P:=by exact rfl) (ha:autoParam (ArgF (lk l) (zpK mi bs) args la) tG_._auto_1) (hmi:autoParam (MiF (zpK mi bs) (lk m) mi) tQ_._auto_1) (hρm:autoParam (NmM mi (zpK mi bs)) tE_._auto_1) (hρn:nodupB ((zpK mi bs).map (·.2))=true:=by exact rfl)
 (hq:∀ e,Pq X T (le e) (fe e) Q:=by intro e;exact tP_) :
 Sq X l m (md1.bind (exK fe k)) (λr=>wpList X.P ops (Q r) (⟨d,.call { callee:=.value x,args:=⟨args⟩,argTypes:=argTypes },ty,pos,after,none⟩::rest)):=by
 subst hP;exact bPX c (Jel hx hl hc ha) hmi hρm hρn (λe=>pqI (hq e)) hok
theorem opPan{x d ty pos af}{ops:Array Oper}{rest:List Oper}(hx:OpdF (lk l) x (.ifc T ly))(hpl:∀ w S γ u,ly.val w S γ u->Qi4 ly u)(hq:autoParam (Pq X T ly md Q) tP_._auto_1):
 Sq X l m md (λr=>wpList X.P ops (Q r) (⟨d,.panic x,ty,pos,af,none⟩::rest)):=by
 intro r a w γ hr hi;refine wpList_plain rfl λK hK=>?_;have hv:=hx.val hi;simp only[Ly.val] at hv;obtain⟨u,hu,hv⟩:=hv;have hrun:(execOp a.eval ⟨d,.panic x,ty,pos,af,none⟩).run X.P w=.halt (.panic (.iface T u)) w:=by simp only[execOp,hu];simp[Instr.panic,goPanic]
 unfold Oper.wp;rw[hrun];exact hq.h u r a w (hpl _ _ _ u hv) hr hi.defs (panW hi)
end
theorem noN{X:Cx}{st mm a w γ}(h:st X.N=some .any):¬ Inv X st mm a w γ:=λhi=>by obtain⟨v,hv,_⟩:=hi.sts _ _ h;rw[ye (by rw[hi.size];exact ou _)] at hv;cases hv
theorem Q4z{α:Type}(es:List (List (Nat×α)))(l:List (Nat×α)):cur (lk l) es 0 (λ_=>true)=lk (fin es l):=Qvv es l 0 _ λ_ _=>rfl
theorem dPX{R:Type}{X:Cx}{id:Nat}{ls0 l0 m0 ds l m}{md:Option R}{Q:R->Exit->Act->World->Prop}{o:Oper}{os:List Oper}(rs ri:List Nat)
 (h:∀ st mm,Ag st (lk l) rs->Ag mm (lk m) ri->∀ r a w γ K,md=some r->Inv X st mm a w γ->if Region.wanted o (yielded ⟨ls0⟩ a.tmps) then o.wp X.P a w K (Q r) else K (a.put o.dst undef) w)
 (hf:X.P.follows .mixedOrders=true) (hD:drawOk ls0 (ds++⟨rs,ri,[(X.N,.any)],[]⟩::os.map λ_=>⟨[X.N],[],[],[]⟩) 0 [] []=true) :
 SqD X (λr=>(Code.region id ⟨ls0⟩ true).wp X.P (Q r)) ls0 l0 m0 md Q ds l m (o::os):=by
 intro pre e hs hl hm r a w γ hr hi;refine wp_region_any hf ?_;have hi':Inv X (lk l0) (lk m0) a { w with drawn:=w.drawn+1 } γ:=hi.ext (w':={ w with drawn:=w.drawn+1 }) rfl rfl rfl ⟨ou _,λ_ _ _=>rfl⟩;generalize hds:(ds++⟨rs,ri,[(X.N,.any)],[]⟩::os.map λ_=>⟨[X.N],[],[],[]⟩:List D)=ds' at hD;obtain⟨h1,h2,h3⟩:=Qny (ls:=ls0) ls0 ds' 0 [] [] rfl rfl (λk o h=>by rw[xr];exact h) (λk l h=>by simp at h) hD;have hDF:Qt8 ls0 ds':=⟨h1,λi o ho p hp=>by have:=h2 i o ho p hp;omega,λi j o di dj ho hdi hdj hlt=>by have:=h3 i j o di dj ho hdi (by simpa using hdj) om;rw[xr] at this;exact this⟩
 have hlen:pre.length=ds.length:=by
  have:∀(os:List Oper) (ds:List D) (l m),Qkr X ⟨ls0⟩ l m os ds->os.length=ds.length:=by
   intro os
   induction os with
   | nil=>intro ds l m h;cases ds with | nil=>rfl | cons _ _=>exact h.elim
   | cons _ _ ih=>intro ds l m h;cases ds with | nil=>exact h.elim | cons _ _=>simp[ih _ _ _ h.2]
  exact this _ _ _ _ hs
 refine Qx7 hDF (Q:=Q r) (l:=l0) (m:=m0) (λj o' d hj hd st mm h3 h4 a w γ K hi hK=>?_) (λa w γ hi=>?_) _ _ a _ γ oc oc (λi o ho hl=>?_) ?_;rcases Nat.lt_trichotomy j ds.length with hlt | rfl | hgt;have e1:ds'[j]?=ds[j]?:=by rw[<-hds];exact yb hlt
 have e2:ls0[j]?=pre[j]?:=by rw[e];exact yb om
 have e3:(ds'.map (·.el)).take j=(ds.map (·.el)).take j:=by rw[<-hds,xu,vp oh]
 have e4:(ds'.map (·.em)).take j=(ds.map (·.em)).take j:=by rw[<-hds,xu,vp oh]
 rw[e3] at h3;rw[e4] at h4;exact Qt9 hs j o' d (by rw[<-e2];exact hj) (by rw[<-e1];exact hd) st mm h3 h4 a w γ K (Q r) hi hK;have e1:d=⟨rs,ri,[(X.N,.any)],[]⟩:=by rw[<-hds] at hd;simpa using hd.symm
 have e2:o'=o:=by rw[e,<-hlen] at hj;simpa using hj.symm
 have e3:(ds'.map (·.el)).take ds.length=ds.map (·.el):=by rw[<-hds,xu,vp oc];exact xb oc
 have e4:(ds'.map (·.em)).take ds.length=ds.map (·.em):=by rw[<-hds,xu,vp oc];exact xb oc
 subst e1 e2;rw[e3,Q4z,hl] at h3;rw[e4,Q4z,hm] at h4;exact h st mm h3 h4 r a w γ K hr hi;have e1:d.rs=[X.N]:=by
  rw[<-hds,yy om] at hd;obtain⟨n,hn⟩:∃ n,j - ds.length=n+1:=⟨j - ds.length - 1,om⟩
  rw[hn] at hd;simp only[vw,uo,Option.map_eq_some_iff] at hd;obtain⟨_,_,rfl⟩:=hd;rfl
 rw[e1] at h3;refine(noN (X:=X) ?_ hi).elim;rw[h3.1];have key:∀(es:List (List (Nat×Ly))) (b:Nat->Option Ly) (i:Nat),b X.N=some .any->(∀ e∈es,lk e X.N=none\/lk e X.N=some .any)->cur b es i (λ_=>true) X.N=some .any:=by
  intro es
  induction es with
  | nil=>intro b i hb _;exact hb
  | cons x es ih=>
    intro b i hb he;simp only[cur,uf];refine ih _ _ ?_ λy hy=>he y (by simp[hy]);simp only[up];rcases he x oc with h | h<;>rw[h];exact hb
 have split:∀(es fs:List (List (Nat×Ly))) (b:Nat->Option Ly) (i:Nat),cur b (es++fs) i (λ_=>true)=cur (cur b es i (λ_=>true)) fs (i+es.length) (λ_=>true):=by
  intro es
  induction es with
  | nil=>intro fs b i;rfl
  | cons x es ih=>intro fs b i;simp only[xd,cur,uf,ih,oo];rw[show i+1+es.length=i+(es.length+1) by omega]
 obtain⟨n,hn⟩:∃ n,j=(ds.map (·.el)).length+(n+1):=⟨j - ds.length - 1,oh⟩
 rw[<-hds,xu,hn,List.take_length_add_append,split];simp only[xw,ui,cur,uf];refine key _ _ _ ?_ λx hx=>?_;simp[up,lk];have:=xt hx;obtain⟨_,h5,rfl⟩:=xy.1 this;obtain⟨_,_,rfl⟩:=xy.1 h5;exact .inl rfl;refine(noN (X:=X) ?_ hi).elim;have key:∀(es:List (List (Nat×Ly))) (l:List (Nat×Ly)),lk l X.N=some .any->(∀ e∈es,e=[])->lk (fin es l) X.N=some .any:=by
  intro es
  induction es with
  | nil=>intro l hl _;exact hl
  | cons x es ih=>intro l hl he;rw[he x oc];exact ih _ hl λy hy=>he y (by simp[hy])
 have split:∀(es fs:List (List (Nat×Ly))) (l:List (Nat×Ly)),fin (es++fs) l=fin fs (fin es l):=by
  intro es
  induction es with
  | nil=>intro fs l;rfl
  | cons x es ih=>intro fs l;exact ih _ _
 rw[<-hds,xu,split];simp only[xw,fin]
 exact key _ _ (by simp[lk]) λx hx=>by obtain⟨_,h5,rfl⟩:=xy.1 hx;obtain⟨_,_,rfl⟩:=xy.1 h5;rfl
 have hlt:i<ls0.length:=by rcases xh i ls0.length with h | h;exact h;simp[xe h] at ho
 simp[hlt] at hl;have e1:(λi=>(Array.replicate ls0.length false).getD i false)=λ_=>false:=by funext i;by_cases h:i<ls0.length<;>simp[h]
 have e2:∀ {α:Type}(es:List (List (Nat×α))) (b:Nat->Option α) (i:Nat),cur b es i (λ_=>false)=b:=by
  intro α es
  induction es with
  | nil=>intro b i;rfl
  | cons e es ih=>intro b i;simp[cur,ih]
 show Inv X (cur _ _ 0 (λi=>(Array.replicate ls0.length false).getD i false)) (cur _ _ 0 (λi=>(Array.replicate ls0.length false).getD i false)) _ _ _;rw[e1,e2,e2];exact hi'
theorem dPn{R:Type}{X:Cx}{P:Program}{id:Nat}{ls0 l0 m0 ds l m}{md:Option R}{Q:R->Exit->Act->World->Prop}{T:Nat}{ly:Ly}{d f args argTypes ty pos after}{os:List Oper}{largs mi}(hp:FnPk P f largs mi T ly)(bs ri:List Nat)
 (hP:P=X.P:=by exact rfl) (ha:autoParam (∀(st:Nat->Option Ly) (mm:Nat->Option Ct),Ag st (lk l) (opRs ⟨ls0⟩ ⟨d,.call { callee:=.value (.func f),args:=⟨args⟩,argTypes:=argTypes },ty,pos,after,none⟩)->Ag mm (lk m) ri->ArgF st (zpK mi bs) args largs) tM_._auto_1)
 (hmi:∀(st:Nat->Option Ly) (mm:Nat->Option Ct),Ag st (lk l) (opRs ⟨ls0⟩ ⟨d,.call { callee:=.value (.func f),args:=⟨args⟩,argTypes:=argTypes },ty,pos,after,none⟩)->Ag mm (lk m) ri->MiF (zpK mi bs) mm mi:=by intro _ _ _ _;exact tQ_)
 (hρm:autoParam (NmM mi (zpK mi bs)) tE_._auto_1) (hρn:nodupB ((zpK mi bs).map (·.2))=true:=by exact rfl) (hq:autoParam (Pq X T ly md Q) tP_._auto_1)
 (hf:X.P.follows .mixedOrders=true:=by exact CFo.h) (hD:drawOk ls0 (ds++⟨opRs ⟨ls0⟩ ⟨d,.call { callee:=.value (.func f),args:=⟨args⟩,argTypes:=argTypes },ty,pos,after,none⟩,ri,[(X.N,.any)],[]⟩::os.map λ_=>⟨[X.N],[],[],[]⟩) 0 [] []=true:=by kernel_rfl) :
 SqD X (λr=>(Code.region id ⟨ls0⟩ true).wp X.P (Q r)) ls0 l0 m0 md Q ds l m (⟨d,.call { callee:=.value (.func f),args:=⟨args⟩,argTypes:=argTypes },ty,pos,after,none⟩::os):=by
 subst hP;refine dPX _ ri (λst mm h1 h2 r a w γ K hr hi=>?_) hf hD;rw[oj (by simp[Region.wanted])];exact panCall hp (Q0g (ha st mm h1 h2)) (hmi st mm h1 h2) hρm hρn hi λu w' γ' hu hi'=>hq.h u r a w' hu hr hi'.defs (panW hi')
theorem bPd{R:Type}{X:Cx}{l m}{G:R->Act->World->Prop}{ε α:Type}{P:Program}{T:Nat}{md1:Option (Except ε α)}{fe:ε->Option R}{k:α->Option R}{f largs mi}{res:α->Ly}{mo:α->List (Nat×Ct)}{le:ε->Ly}
 (c:∀ r,md1=some r->FnR P f largs mi T le res mo r) (he:∀ e,FnPk P f largs mi T (le e)->Sq X l m (fe e) G) (hok:∀ x,FnOk P f largs mi (res x) (mo x)->Sq X l m (k x) G):Sq X l m (md1.bind (exK fe k)) G:=
 bd λy hy=>match y,c y hy with
  | .ok x,h=>hok x h
  | .error e,h=>he e h
def FnD(P:Program)(f:Nat)(args:List Ly)(mi:List (Nat×Ct))(u0 u1:FrameMode)(mo:List (Nat×Ct)):Prop:=
 (∃ fn,P.funcs[f]?=some fn∧(fn.name == "runtime.NumGoroutine")=false∧fn.body.isSome=true) ∧
 ∀(w:World) (S0:Nat->Prop) (γ:Nm) (vs:Array Value),(∀ b,S0 b->b<w.heap.size)->(∀ id,lk mi id=none->γ id=none) ->
  (∀ id c,lk mi id=some c->V4 w (Sx S0 γ mi) γ id c)->Apart γ (lk mi)->(∀ b,Ow γ (lk mi) b->b<w.heap.size/\¬ S0 b)->Ly.vals w (Sx S0 γ mi) γ args vs.toList->GwOk w (Sx S0 γ mi) ->
  CallsD P f vs u0 w λe u w'=>u=u1/\RetP w S0 γ mi (.tup []) mo e w'
theorem fsD{P:Program}{f N:Nat}{fn:Func}{c:Code}{args:List Ly}{mi:List (Nat×Ct)}{R:Type}{res:R->Ly}{mo:R->List (Nat×Ct)}{md:Option R}
 (hf:P.funcs[f]?=some fn) (h:∀ w S0 γ,(∀ id,lk mi id=none->γ id=none)->Sq ⟨P,N,w,S0,Ow γ (lk mi),γ,[]⟩ (argl 0 args) mi md (λr=>c.wp P (bodyPostD P fn (RetP w S0 γ mi (res r) (mo r)))))
 (hb:fn.body=some c:=by exact rfl) (hN:fn.ntmps=N:=by exact rfl) (hname:(fn.name == "runtime.NumGoroutine")=false:=by kernel_rfl) (hl:Nat.ble args.length N=true:=by exact rfl) :
 ∀ r,md=some r->FnOk P f args mi (res r) (mo r):=
 λr hr=>⟨⟨fn,hf,hname,by rw[hb];rfl⟩,λw S0 γ vs h1 h2 h3 h4 h5 h6 h7=>calls_of_wp_defers hf hb (h w S0 γ h2 r _ w γ hr (inv0 hN hl h1 h2 h3 h4 h5 h6 h7))⟩
section
variable {R:Type}{l:List (Nat×Ly)}{m:List (Nat×Ct)}{md:Option R}
theorem rtD{X:Cx}{P:Program}{fn:Func}{Po:R->Ending->World->Prop}(h:Sq X l m md (λr=>bodyPost P fn (Po r) .ret)):Sq X l m md (λr=>bodyPostD P fn (Po r) .ret):=by intro r a w γ hr hi;obtain⟨h1,h2⟩:=h r a w γ hr hi;show Leaves P fn a.tmps (Po r) a.defers .returning w;rw[h1];exact h2
theorem sdf{P:Program}{N:Nat}{w0:World}{S0 M:Nat->Prop}{g0:Nm}{x:Operand}{g caps ty pos af argTypes}{ops:Array Oper}{rest:List Oper}{Q:R->Exit->Act->World->Prop}
 (hx:OpdF (lk l) x (.clo g caps):=by exact rfl)
 (k:∀ γd us,Ng g0 γd->CapV γd caps us->Sq ⟨P,N,w0,S0,M,γd,[⟨.fn (.func g) us.toArray,#[]⟩]⟩ l m md (λr=>wpList P ops (Q r) rest)) :
 Sq ⟨P,N,w0,S0,M,g0,[]⟩ l m md (λr=>wpList P ops (Q r) (⟨none,.defer { callee:=.value x,args:=#[],argTypes:=argTypes },ty,pos,af,none⟩::rest)):=by
 intro r a w γ hr hi;refine wpList_plain rfl λK hK=>?_;have hv:=hx.val hi;simp only[Ly.val] at hv;obtain⟨us,hu,hu2⟩:=hv;have hrun:(execOp a.eval ⟨none,.defer { callee:=.value x,args:=#[],argTypes:=argTypes },ty,pos,af,none⟩).run P w=.ok (.defer ⟨.fn (.func g) us.toArray,#[]⟩) w:=by simp only[execOp,resolve,hu];simp[Deferred.ofValue]
 unfold Oper.wp;rw[hrun];refine hK _ _ (k γ us hi.keep hu2 r _ w γ hr { hi with size:=hi.size,defs:=?_,keep:=Ng.refl _,sts:=hi.sts });show(_::a.defers)=_;rw[hi.defs]
theorem lvD{P:Program}{N:Nat}{w0:World}{S0 M:Nat->Prop}{g0 γd:Nm}{us:List Value}{Po:R->Ending->World->Prop}{fn:Func}{g:Nat}{caps lc bs:List Nat}{mi mo em:List (Nat×Ct)}{u0 u1:FrameMode}
 (hg:Ng g0 γd) (hcap:CapV γd caps us) (hc:FnD P g (lc.map .own) mi u0 u1 mo) (hu:u0≠.run) (hset:settle u1=.returning)
 (k:Sq ⟨P,N,w0,S0,M,g0,[]⟩ l (em++m) md (λr=>bodyPost P fn (Po r) .ret))
 (hcl:caps.map some=lc.map (lk (zpK mi bs)):=by exact rfl) (hmi:autoParam (MiF (zpK mi bs) (lk m) mi) tQ_._auto_1) (hρm:autoParam (NmM mi (zpK mi bs)) tE_._auto_1) (hρn:nodupB ((zpK mi bs).map (·.2))=true:=by exact rfl)
 (hσ:SigT [] (zpK mi bs) (swp (zpK mi bs)):=by (repeat (first | exact trivial | refine⟨.inl rfl,?_⟩ | refine⟨.inr rfl,?_⟩)))
 (hσn:nodupB ((swp (zpK mi bs)).map (·.2))=true:=by exact rfl)
 (hem:EmR (swp (zpK mi bs)) (zpK mi bs) (zpK mi bs) mo bs em:=by (repeat (first | exact Jbu | (apply Q9b;exact rfl;exact rfl;exact rfl) | (apply em_sl;exact rfl;exact rfl;exact CIFs.h) | (apply em_bx;exact rfl;exact rfl;exact by (repeat' first | exact rj_id CIF.h | exact Q4p rfl rfl | exact Q4v | apply Q0e | apply Q4t | apply Q4u | exact Q4q rfl rfl | exact Q4r rfl rfl | exact Q4s rfl rfl)) | (apply em_ob;exact rfl;exact rfl) | (apply em_ch;exact rfl;exact rfl) | (apply em_mp;exact rfl;exact rfl;exact CIFs.h))))
 (hall:autoParam (AllIn em ((zpK mi bs).map (·.2))) tE_._auto_1) :
 Sq ⟨P,N,w0,S0,M,γd,[⟨.fn (.func g) us.toArray,#[]⟩]⟩ l m md (λr a w=>Leaves P fn a.tmps (Po r) a.defers u0 w):=by
 intro r a w γ hr hi;obtain⟨⟨fng,hfn,hname,hbody⟩,hc⟩:=hc;obtain⟨g1,g2,g3,g4,g5,g6,g7,g8⟩:=callX (res:=.any) (res':=.any) (mo:=mo) (em:=em) (zpK mi bs) [] (swp (zpK mi bs)) (MiF.get hmi) hρm hρn trivial hσ hσn hem.h hall trivial (rn_id Q4c) hi;have hd:a.defers=[⟨.fn (.func g) us.toArray,#[]⟩]:=hi.defs;show Leaves P fn a.tmps (Po r) a.defers u0 w;rw[hd];have hinv:(invoke (.fn (.func g) us.toArray) #[]).run P w=.ok (.enter g us.toArray) w:=by
  have e1:fng.body.isNone=false:=by cases h:fng.body<;>simp[h] at hbody |-
  have e2:¬ fng.name= "runtime.NumGoroutine":=by simpa using hname
  simp[invoke,callFunc,hfn,e2];intro e3;rw[e3] at e1;cases e1
 refine leaves_cons hu hinv ?_;have hcv:CapV γ caps us:=CapV.mono hi.keep hcap;have hvals:Ly.vals w (Sx (calS ⟨P,N,w0,S0,M,γd,[⟨.fn (.func g) us.toArray,#[]⟩]⟩ (lk m) (zpK mi bs) γ) (calG (zpK mi bs) γ) mi) (calG (zpK mi bs) γ) (lc.map .own) us.toArray.toList:=by
  simpa using Qw6 (Quc g1 hcl hcv)
 refine(hc w _ _ us.toArray g3 g4 g5 g6 g7 hvals (hi.gw g2)).mono ?_;rintro e u w' ⟨rfl,v,γ',rfl,hb⟩;show Leaves P fn a.tmps (Po r) [] (settle u) w';rw[hset];obtain⟨γ'',hinv2,_,_⟩:=g8 v γ' w' { hb with res:=by simp[Ly.val] };rw[up_lk] at hinv2;have:=k r { a with defers:=[] } w' γ'' hr { hinv2 with size:=hinv2.size,defs:=rfl,keep:=λid v h=>hinv2.keep id v (hg id v h),sts:=hinv2.sts };exact this.2
theorem fsC{β:Type}{P:Program}{f N t id:Nat}{fn:Func}{c2:Code}{args:List Ly}{mi:List (Nat×Ct)}{md1:Option β}{k:β->Option R}{mo:R->List (Nat×Ct)}{o1:Oper}{argTypes ty pos af}{el:β->List (Nat×Ly)}{em:β->List (Nat×Ct)}
 {lyv:Ly}{u0 u1:FrameMode}{v0:Value}(hf:P.funcs[f]?=some fn) (hb:fn.body=some (.seq (.region id ⟨[⟨some t,.call { callee:=.builtin .recover,args:=#[],argTypes:=argTypes },ty,pos,af,none⟩,o1]⟩ false) c2)) (hN:fn.ntmps=N) (hrec:∀(c0:Frame) cs,c0.mode=u0->recoverD (c0::cs)=some (v0,{ c0 with mode:=u1 }::cs)\/(recoverD (c0::cs)=none/\v0=.nilIface/\u1=u0)) (hv:Qi4 lyv v0)
 (hop:∀ y,md1=some y->∀ w S0 γ,OpS ⟨P,N,w,S0,Ow γ (lk mi),γ,[]⟩ (lk ((t,lyv)::argl 0 args)) (lk mi) o1 (el y) (em y))
 (h:∀ y w S0 γ,(∀ id,lk mi id=none->γ id=none)->Sq ⟨P,N,w,S0,Ow γ (lk mi),γ,[]⟩ (el y++(t,lyv)::argl 0 args) (em y++mi) (k y) (λr=>c2.wp P (bodyPost P fn (RetP w S0 γ mi (.tup []) (mo r)))))
 (hname:(fn.name == "runtime.NumGoroutine")=false:=by kernel_rfl) (hl:Nat.ble args.length N=true:=by exact rfl)
 (ht:Nat.blt t N=true:=by exact rfl) (hg1:o1.guard=none:=by exact rfl):∀ r,md1.bind k=some r->FnD P f args mi u0 u1 (mo r):=by
 intro r hr;refine⟨⟨fn,hf,hname,by rw[hb];rfl⟩,λw S0 γ vs h1 h2 h3 h4 h5 h6 h7=>?_⟩;have hi:=inv0 (P:=P) hN hl h1 h2 h3 h4 h5 h6 h7;cases hy:md1 with
 | none=>rw[hy] at hr;cases hr
 | some y=>
 rw[hy] at hr;refine callsD_of_wpS hf hb λc0 cs hu=>?_;refine wpS_seq (wpS_region ?_);have hrec':∃ cs',recoverD (c0::cs)=some (v0,cs')/\cs'={ c0 with mode:=u1 }::cs\/(recoverD (c0::cs)=none/\v0=.nilIface/\cs'=c0::cs/\u1=u0):=by rcases hrec c0 cs hu with h | ⟨h,e1,e2⟩;exact⟨_,.inl ⟨h,rfl⟩⟩;exact⟨_,.inr ⟨h,e1,rfl,e2⟩⟩
 obtain⟨cs',hcs⟩:=hrec';have hcs1:cs'={ c0 with mode:=u1 }::cs:=by rcases hcs with ⟨_,e⟩ | ⟨_,_,e,e2⟩;exact e;rw[e,e2];subst hu;rfl
 have hi2:=hi.put (d:=t) (v:=v0) (ly:=lyv) (by simpa using ht) (hv _ _ _);rw[up_lk] at hi2
 have hgo:wpOpsS P #[⟨some t,.call { callee:=.builtin .recover,args:=#[],argTypes:=argTypes },ty,pos,af,none⟩,o1] (Exit.thenS (c2.wpS P (bodyPostS P fn c0 cs λe u w'=>u=u1/\RetP w S0 γ mi (.tup []) (mo r) e w')) (bodyPostS P fn c0 cs λe u w'=>u=u1/\RetP w S0 γ mi (.tup []) (mo r) e w')) [1]
  (({ tmps:=vs++Array.replicate (fn.ntmps - vs.size) undef,defers:=[] }:Act).put (some t) v0) cs' w:=by
  have hop1:=(hop y hy w S0 γ).h _ _ _ (λa' w'=>wpOpsS P #[⟨some t,.call { callee:=.builtin .recover,args:=#[],argTypes:=argTypes },ty,pos,af,none⟩,o1] (Exit.thenS (c2.wpS P (bodyPostS P fn c0 cs λe u w'=>u=u1/\RetP w S0 γ mi (.tup []) (mo r) e w')) (bodyPostS P fn c0 cs λe u w'=>u=u1/\RetP w S0 γ mi (.tup []) (mo r) e w')) [] a' cs' w')
   (λe a' w'=>Exit.thenS (c2.wpS P (bodyPostS P fn c0 cs λe u w'=>u=u1/\RetP w S0 γ mi (.tup []) (mo r) e w')) (bodyPostS P fn c0 cs λe u w'=>u=u1/\RetP w S0 γ mi (.tup []) (mo r) e w') e a' cs' w') hi2 (λa' w' γ' hi'=>by
    rw[up_lk,up_lk] at hi';show c2.wpS P _ a' cs' w';refine wpS_of_wp (Code.wp_mono (λe a2 w2 hq=>?_) (h y w S0 γ h2 r a' w' γ' hr hi'));subst hcs1;cases e with
    | normal=>exact⟨hq.1,u1,rfl,hq.2.choose,hq.2.choose_spec.1,rfl,hq.2.choose_spec.2⟩
    | ret=>exact⟨hq.1,u1,rfl,hq.2.choose,hq.2.choose_spec.1,rfl,hq.2.choose_spec.2⟩
    | panic ch=>exact⟨hq.1,u1,rfl,rfl,hq.2⟩
    | outgrown=>exact⟨u1,rfl,hq⟩
    | exit _=>exact hq
    | goto _=>exact hq)
  unfold wpOpsS;simp only[List.getElem?_toArray,vw,List.getElem?_cons_zero];rw[oj (by simp[Region.wanted,hg1])];unfold Oper.wp at hop1;split;rename_i hr';rw[hr'] at hop1;exact hop1.elim;exact hop1
 show wpOpsS P _ _ [0,1] _ _ _;unfold wpOpsS;simp only[List.getElem?_toArray,List.getElem?_cons_zero];rw[oj (by simp[Region.wanted])];have hx:(execOp ({ tmps:=vs++Array.replicate (fn.ntmps - vs.size) undef,defers:=[] }:Act).eval ⟨some t,.call { callee:=.builtin .recover,args:=#[],argTypes:=argTypes },ty,pos,af,none⟩).run P w=.ok .recover w:=by simp[execOp,resolve,invoke,builtin]
 rw[hx];rcases hcs with ⟨e,_⟩ | ⟨e,e1,e2,_⟩;simp only[e];exact hgo;simp only[e];rw[e1,e2] at hgo;exact hgo
end
theorem Jgb(c0:Frame)(cs:List Frame)(h:c0.mode=.returning):recoverD (c0::cs)=some (.nilIface,{ c0 with mode:=.returning }::cs)\/(recoverD (c0::cs)=none/\(Value.nilIface)=.nilIface/\FrameMode.returning=.returning):=.inr ⟨by simp[recoverD,h],rfl,rfl⟩
def panR(T:Nat)(u:Value):List PanicEntry:=[{ v:=.iface T u,recovered:=true }]
theorem Jgc{T:Nat}{u:Value}(c0:Frame)(cs:List Frame)(h:c0.mode=.panicking (pan T u)):recoverD (c0::cs)=some (.iface T u,{ c0 with mode:=.panicking (panR T u) }::cs)\/(recoverD (c0::cs)=none/\(Value.iface T u)=.nilIface/\FrameMode.panicking (panR T u)=.panicking (pan T u)):=.inl (by simp[recoverD,h,pan,panR])
theorem Jgd:settle .returning=.returning:=rfl
theorem Q9c{T u}:settle (.panicking (panR T u))=.returning:=rfl
theorem Jip:Qi4 nilI .nilIface:=λ_ _ _=>by simp[nilI,Ly.val,cpX]
theorem Jiq{T ly u}(h:Qi4 ly u):Qi4 (.ifc T ly) (.iface T u):=λw S γ=>by simp only[Ly.val];exact⟨u,rfl,h w S γ⟩
section
variable {X:Cx}{st:Nat->Option Ly}{mm:Nat->Option Ct}
theorem Jir{T ly}(h:IF ly):IF (.ifc T ly):=λw S γ γ'=>⟨λcs hc=>by simp[Ly.hold] at hc,λv hv=>by
 simp only[Ly.val] at hv |-;obtain⟨u,rfl,hv⟩:=hv
 exact⟨u,rfl,(h w S γ γ').2 u hv⟩⟩
instance{T ly}[h:CIF ly]:CIF (.ifc T ly):=⟨Jir h.h⟩
theorem eqN1{d x T T2 ty pos af ms}(hT:X.P.underlying T=some (.interface ms))(hd:Nat.blt d X.N=true)(hx:OpdF st x nilI):
 OpOk X st mm ⟨some d,.binOp .eql T x (.const .nilIface) T2,ty,pos,af,none⟩ [(d,bl true)] []:=
 Qf3 hd hx kNI λw S γ vx vy h1 h2=>by have h1':vx=.nilIface:=h1;have h2':vy=.nilIface:=h2;subst h1' h2';exact⟨.bool true,λw=>by simp[eqGuard],λw=>by simp only[binOp];simp[Jid hT],rfl⟩
theorem eqN2{d x T T' T2 ty pos af ms ly}(hT:X.P.underlying T=some (.interface ms))(hd:Nat.blt d X.N=true)(hx:OpdF st x (.ifc T' ly)):
 OpOk X st mm ⟨some d,.binOp .eql T x (.const .nilIface) T2,ty,pos,af,none⟩ [(d,bl false)] []:=
 Qf3 hd hx kNI λw S γ vx vy h1 h2=>by have h2':vy=.nilIface:=h2;subst h2';simp only[Ly.val] at h1;obtain⟨u,rfl,_⟩:=h1;exact⟨.bool false,λw=>by simp[eqGuard],λw=>by simp only[binOp];simp[Jf0 hT],rfl⟩
theorem taT{d x T0 T ty pos af ly fs}(hT:X.P.underlying T=some (.struct fs))(hd:Nat.blt d X.N=true)(hx:OpdF st x (.ifc T ly)):
 OpOk X st mm ⟨some d,.typeAssert x T0 T true,ty,pos,af,none⟩ [(d,.tup [ly,bl true])] []:=
 Vn hd λa w γ hi=>by have hv:=hx.val hi;simp only[Ly.val] at hv;obtain⟨u,hu,hv⟩:=hv;refine⟨.tuple #[u,.bool true],?_,?_⟩;simp only[execOp,hu];simp[Instr.typeAssert,underlying,hT];simp only[Ly.val,Ly.vals];exact⟨_,rfl,u,_,rfl,hv,_,_,rfl,rfl,rfl⟩
end
section
variable {R:Type}{X:Cx}{l:List (Nat×Ly)}{m:List (Nat×Ct)}{md:Option R}{Q:R->Exit->Act->World->Prop}
theorem spt{N:R->Act->World->Prop}{ch:List PanicEntry}(h:Sq X l m md (λr=>Q r (.panic ch))):Sq X l m md (λr=>Exit.then (N r) (Q r) (.panic ch)):=h
theorem lvR{P:Program}{fn:Func}{Po:R->Ending->World->Prop}(h:Sq X l m md (λr a w=>Leaves P fn a.tmps (Po r) a.defers .returning w)):Sq X l m md (λr=>bodyPostD P fn (Po r) .ret):=h
theorem lvP{P:Program}{fn:Func}{Po:R->Ending->World->Prop}{ch:List PanicEntry}(h:Sq X l m md (λr a w=>Leaves P fn a.tmps (Po r) a.defers (.panicking ch) w)):Sq X l m md (λr=>bodyPostD P fn (Po r) (.panic ch)):=h
end
end Go.Proofs.YteejhjpdcefgfaaGreatDoor
