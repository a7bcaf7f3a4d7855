import Derived.Recover
import Derived.Test.YthdbapalogijdaaGreatDoorSC
namespace Go.Proofs.YthdbapalogijdaaGreatDoor
open Go Go.RowKit
structure uA(w:World)(γ:Nm)(mi:List (Nat×Ct))(w':World):Prop where
 os:w'.os=w.os
 tape:w'.tape=w.tape
 output:w'.output=w.output
 grow:w.heap.size<=w'.heap.size
 old:∀ b,b<w.heap.size->¬ Ow γ (lk mi) b->w'.heap[b]?=w.heap[b]?
def rG(T:Nat)(u:Value):List PanicEntry:=[{ v:=.iface T u,recovered:=false }]
def oH(ly:Ly)(u:Value):Prop:=∀ w S γ,ly.val w S γ u
def DZ(w:World)(γ:Nm)(mi:List (Nat×Ct))(T:Nat)(ly:Ly):Ending->World->Prop:=λe w'=>∃ u,e=.panicked (rG T u)/\oH ly u/\uA w γ mi w'
def pO(P:Program)(f:Nat)(args:List Ly)(mi:List (Nat×Ct))(T:Nat)(ly:Ly):Prop:=
 (∃ fn,P.funcs[f]?=some fn∧(fn.name == "runtime.NumGoroutine")=false∧fn.body.isSome=true) ∧
 ∀(w:World) (S0:Nat->Prop) (γ:Nm) (vs:Array Value),(∀ b,S0 b->b<w.heap.size)->(∀ id,lk mi id=none->γ id=none) ->
  (∀ id c,lk mi id=some c->Xk w (Sx S0 γ mi) γ id c)->gG γ (lk mi)->(∀ b,Ow γ (lk mi) b->b<w.heap.size/\¬ S0 b)->Ly.vals w (Sx S0 γ mi) γ args vs.toList->jD w (Sx S0 γ mi) ->
  Calls P f vs w (DZ w γ mi T ly)
def gB{ε α:Type}(P:Program)(f:Nat)(args:List Ly)(mi:List (Nat×Ct))(T:Nat)(le:ε->Ly)(res:α->Ly)(mo:α->List (Nat×Ct)):Except ε α->Prop
 | .ok x=>bo P f args mi (res x) (mo x)
 | .error e=>pO P f args mi T (le e)
def pP{ε α:Type}(w:World)(S0:Nat->Prop)(γ:Nm)(mi:List (Nat×Ct))(T:Nat)(le:ε->Ly)(res:α->Ly)(mo:α->List (Nat×Ct)):Except ε α->Ending->World->Prop
 | .ok x=>fd w S0 γ mi (res x) (mo x)
 | .error e=>DZ w γ mi T (le e)
theorem uB{P:Program}{N:Nat}{fn:Func}{args:List Ly}{mi:List (Nat×Ct)}{w:World}{S0:Nat->Prop}{γ:Nm}{vs:Array Value}(hN:fn.ntmps=N)(hl:Nat.ble args.length N=true)
 (h1:∀ b,S0 b->b<w.heap.size) (h2:∀ id,lk mi id=none->γ id=none) (h3:∀ id c,lk mi id=some c->Xk w (Sx S0 γ mi) γ id c) (h4:gG γ (lk mi))
 (h5:∀ b,Ow γ (lk mi) b->b<w.heap.size/\¬ S0 b) (h6:Ly.vals w (Sx S0 γ mi) γ args vs.toList) (h7:jD w (Sx S0 γ mi)) :
 bq ⟨P,N,w,S0,Ow γ (lk mi),γ,[]⟩ (lk (iv 0 args)) (lk mi) { tmps:=vs++Array.replicate (fn.ntmps - vs.size) undef,defers:=[] } w γ:=by
 have hvl:vs.size=args.length:=by
  have:∀(l:List Ly) (vs:List Value),Ly.vals w (Sx S0 γ mi) γ l vs->vs.length=l.length:=by
   intro l
   induction l with
   | nil=>grind[Ly.vals]
   | cons x l ih=>simp_all[Ly.vals]
  grind
 have hle:=ym hl
 exact { size:=ol,defs:=rfl,s0:=h1,gx:=h7,keep:=Ng.refl _,os:=rfl,tape:=rfl,output:=rfl,grow:=xe _,old:=oh,fresh:=h2,cts:=h3,apart:=h4,
         mine:=ol,
         sts:=λd ly hd=>by
          obtain⟨_,v,g1,g2⟩:=M3 0 h6 d ly hd;refine⟨v,?_,g2⟩
          grind }
theorem kG{ε α:Type}{P:Program}{f N:Nat}{fn:Func}{c:Code}{args:List Ly}{mi:List (Nat×Ct)}{T:Nat}{le:ε->Ly}{res:α->Ly}{mo:α->List (Nat×Ct)}{md:Option (Except ε α)}
 (hf:P.funcs[f]?=some fn) (h:∀ w S0 γ,(∀ id,lk mi id=none->γ id=none)->Sq ⟨P,N,w,S0,Ow γ (lk mi),γ,[]⟩ (iv 0 args) mi md (λr=>c.wp P (bodyPost P fn (pP w S0 γ mi T le res mo r))))
 (hb:fn.body=some c:=by exact rfl) (hN:fn.ntmps=N:=by exact rfl) (hname:(fn.name == "runtime.NumGoroutine")=false:=by kernel_rfl) (hl:Nat.ble args.length N=true:=by exact rfl) :
 ∀ r,md=some r->gB P f args mi T le res mo r:=by
 intro r hr
 have hc:∀(w:World) (S0:Nat->Prop) (γ:Nm) (vs:Array Value),(∀ b,S0 b->b<w.heap.size)->(∀ id,lk mi id=none->γ id=none) ->
  (∀ id c,lk mi id=some c->Xk w (Sx S0 γ mi) γ id c)->gG γ (lk mi)->(∀ b,Ow γ (lk mi) b->b<w.heap.size/\¬ S0 b)->Ly.vals w (Sx S0 γ mi) γ args vs.toList->jD w (Sx S0 γ mi) ->
  Calls P f vs w (pP w S0 γ mi T le res mo r):=λw S0 γ vs h1 h2 h3 h4 h5 h6 h7=>calls_of_wp hf hb (h w S0 γ h2 r _ w γ hr (by grind[uB]))
 have he:∃ fn,P.funcs[f]?=some fn∧(fn.name == "runtime.NumGoroutine")=false∧fn.body.isSome=true:=⟨fn,hf,hname,ol⟩
 cases r with
 | ok x=>exact⟨he,hc⟩
 | error e=>exact⟨he,λw S0 γ vs h1 h2 h3 h4 h5 h6 h7=>hc w S0 γ vs h1 h2 h3 h4 h5 h6 h7⟩
def D0(X:Cx)(w:World):Prop:=w.os=X.w0.os/\w.tape=X.w0.tape/\w.output=X.w0.output/\X.w0.heap.size<=w.heap.size/\∀ b,b<X.w0.heap.size->¬ X.M b->w.heap[b]?=X.w0.heap[b]?
theorem uC{X:Cx}{st mm a w γ}(hi:bq X st mm a w γ):D0 X w:=⟨hi.os,hi.tape,hi.output,hi.grow,hi.old⟩
structure Pq{R:Type}(X:Cx)(T:Nat)(ly:Ly)(md:Option R)(Q:R->Exit->Act->World->Prop):Prop where
 h:∀ u r a w,oH ly u->md=some r->a.defers=X.df->D0 X w->Q r (.panic (rG T u)) a w
def Oe{R:Type}(X:Cx)(T:Nat)(ly:Ly)(l:List (Nat×Ly))(m:List (Nat×Ct))(md:Option R)(Q:R->Exit->Act->World->Prop):Prop:=∀ u,oH ly u->Sq X l m md (λr=>Q r (.panic (rG T u)))
def fJ(ρ:List (Nat×Nat)):List (Nat×Ct):=ρ.map λe=>(e.2,.gone)
theorem Jha(ρ:List (Nat×Nat)):bN (fJ ρ) (ρ.map (·.2)):=by
 have key:∀(l:List (Nat×Nat)),(∀ e∈l,∃ c,lk (fJ ρ) e.2=some c)->bN (fJ ρ) (l.map (·.2)):=by
  intro l
  induction l with
  | nil=>intro _;trivial
  | cons e l ih=>intro h;exact⟨h e oh,ol⟩
 refine key ρ λe he=>?_;clear key
 induction ρ with
 | nil=>cases he
 | cons x ρ ih=>
   show ∃ c,lk ((x.2,.gone)::fJ ρ) e.2=some c;simp only[lk];cases hb:Nat.beq x.2 e.2
   . rcases xk.1 he with rfl | h
     all_goals simp_all
   simp
theorem Jfx(ρ:List (Nat×Nat))(mo:List (Nat×Ct)):dD [] ρ mo (fJ ρ):=by
 have key:∀(l:List (Nat×Nat)),(∀ e∈l,e∈ρ)->dD [] ρ mo (fJ l):=by
  intro l
  induction l with
  | nil=>intro _;trivial
  | cons e l ih=>intro h;exact⟨ol,ih ol⟩
 grind
def iI(mi:List (Nat×Ct)):List (Nat×Ct):=mi.map λe=>(e.1,.gone)
theorem Jfy{mi:List (Nat×Ct)}{id:Nat}(h:lk (iI mi) id=none):lk mi id=none:=by
 induction mi with
 | nil=>rfl
 | cons e mi ih=>
   grind[iI,lk]
theorem Of{mi:List (Nat×Ct)}{id:Nat}{c:Ct}(h:lk (iI mi) id=some c):c=.gone:=by
 induction mi with
 | nil=>cases h
 | cons e mi ih=>
   grind[iI,lk]
theorem uA.back{w:World}{S0:Nat->Prop}{γ:Nm}{mi:List (Nat×Ct)}{w':World}(h:uA w γ mi w')(hγ:∀ id,lk mi id=none->γ id=none)(v:Value):px w S0 γ mi .any (iI mi) v γ w' where
 os:=h.os
 tape:=h.tape
 output:=h.output
 grow:=h.grow
 old:=h.old
 keep:=Ng.refl _
 fresh:=by grind[id,Jfy]
 cts:=λid c hc=>by rw[Of hc];trivial
 apart:=λid id' c c' v v' b h1 h2=>by rw[Of h1] at h2;cases h2
 mine:=λb ⟨id,c,v,h1,h2,_⟩=>by rw[Of h1] at h2;cases h2
 res:=by simp[Ly.val]
section
variable {X:Cx}{st:Nat->Option Ly}{mm:Nat->Option Ct}
def pQ(X:Cx)(st:Nat->Option Ly)(mm:Nat->Option Ct)(o:Oper)(f:Nat)(ρ:List (Nat×Nat))(largs:List Ly):Prop:=
 ∀ fn,X.P.funcs[f]?=some fn->(fn.name == "runtime.NumGoroutine")=false->fn.body.isSome=true->∀ a w γ,bq X st mm a w γ->∃ vs:Array Value,(execOp a.eval o).run X.P w=.ok (.enter f vs) w ∧
     ∀(γc:Nm) (S:Nat->Prop),(∀ y x,lk ρ y=some x->γc y=γ x)->(∀ b,S b->X.S γ mm b)->Ly.vals w S γc largs vs.toList
theorem Og{d f args argTypes ty pos af largs}{ρ:List (Nat×Nat)}{gd}(ha:dY st ρ args largs):pQ X st mm ⟨d,.call { callee:=.value (.func f),args:=⟨args⟩,argTypes:=argTypes },ty,pos,af,gd⟩ f ρ largs:=by
 intro fn hfn hname hbody a w γ hi;refine⟨(args.map a.eval).toArray,?_,by grind[tG]⟩;have e1:fn.body.isNone=false:=oo
 have e2:¬ fn.name= "runtime.NumGoroutine":=ol
 simp only[execOp,resolve,Act.eval];simp[Deferred.ofValue,invoke,callFunc,hfn,e2];grind
theorem Jjn{d x f bs lb args argTypes ty pos af la largs}{ρ:List (Nat×Nat)}{gd}(hx:ac st x (.bnd f bs))(hl:largs=lb++la)(hc:kl ρ bs lb)(ha:dY st ρ args la):
 pQ X st mm ⟨d,.call { callee:=.value x,args:=⟨args⟩,argTypes:=argTypes },ty,pos,af,gd⟩ f ρ largs:=by
 intro fn hfn hname hbody a w γ hi;have hv:=hx.val hi;simp only[Ly.val] at hv;obtain⟨us,hu,hu2⟩:=hv;refine⟨us.toArray++(args.map a.eval).toArray,?_,fun γc S hgc hSc=>?_⟩;have e1:fn.body.isNone=false:=oo
 have e2:¬ fn.name= "runtime.NumGoroutine":=ol
 simp only[execOp,resolve,hu];simp[Deferred.ofValue,invoke,callFunc,hfn,e2];grind;rw[hl];simp only[Array.toList_append];exact HZ (Ly.vals_mono (Kp.refl _ _) ol (Ng.refl _) _ _ ((hc w _ γ γc hgc).2 _ hu2)) (by grind[tG])
theorem lA{o f largs mi T ly}{ρ:List (Nat×Nat)}(hp:pO X.P f largs mi T ly)(hrun:pQ X st mm o f ρ largs)(hmi:dK ρ mm mi)(hρm:gc mi ρ)(hρn:aJ (ρ.map (·.2))=true)
 {a:Act}{w:World}{γ:Nm}(hi:bq X st mm a w γ) {K:Act->World->Prop}{Q:Exit->Act->World->Prop}(hQ:∀ u w' γ',oH ly u->bq X st (up mm (fJ ρ)) a w' γ'->Q (.panic (rG T u)) a w'):o.wp X.P a w K Q:=by
 obtain⟨⟨fn,hfn,hname,hbody⟩,hc⟩:=hp;obtain⟨vs,hr,hvals⟩:=hrun fn hfn hname hbody a w γ hi;obtain⟨g1,g2,g3,g4,g5,g6,g7,g8⟩:=nB (res:=.any) (res':=.any) (mo:=iI mi) (em:=fJ ρ) ρ [] [] (dK.get hmi) hρm hρn trivial trivial rfl (Jfx ρ _) (Jha ρ) trivial (au My) hi;unfold Oper.wp;rw[hr,Oper.upon_enter];refine(hc w _ _ vs g3 g4 g5 g6 g7 ol (hi.gw g2)).mono ?_;rintro e w' ⟨u,rfl,hu,hb⟩;obtain⟨γ'',hinv,_,_⟩:=g8 undef _ w' (hb.back g4 undef);grind
end
section
variable {R:Type}{X:Cx}{l:List (Nat×Ly)}{m:List (Nat×Ct)}{md:Option R}{Q:R->Exit->Act->World->Prop}{G:R->Act->World->Prop}{T:Nat}{ly:Ly}
theorem D1{N:R->Act->World->Prop}(h:Pq X T ly md Q):Pq X T ly md (λr=>Exit.then (N r) (Q r)):=⟨h.h⟩
theorem D2{id:Nat}(h:Pq X T ly md Q):Pq X T ly md (λr=>Exit.inBlock id (Q r)):=⟨h.h⟩
theorem D3(h:Pq X T ly md Q):Pq X T ly md (λr=>Exit.noGoto (Q r)):=⟨h.h⟩
theorem D4{σ τ:Type}{L:σ->List (Nat×Ly)}{M:σ->List (Nat×Ct)}{k:τ->Option R}{t:τ}(h:Pq X T ly (k t) Q):Pq X T ly (some (Lp.out t)) (λ(o:Lp σ τ)=>iV X L M k Q o):=by refine⟨λu o a w hu ho hd hw=>?_⟩;cases ho;exact⟨oh,λr hr=>h.h u r a w hu hr hd hw⟩
theorem Jnl{ε α:Type}{P:Program}{N:Nat}{w0:World}{S0 γ0}{mi:List (Nat×Ct)}{le:ε->Ly}{res:α->Ly}{mo:α->List (Nat×Ct)}{fn:Func}{e:ε}(hle:ly=le e:=by exact rfl):
 Pq ⟨P,N,w0,S0,Ow γ0 (lk mi),γ0,[]⟩ T ly (some (.error e)) (λr=>bodyPost P fn (pP w0 S0 γ0 mi T le res mo r)):=by
 refine⟨λu r a w hu hr hd hw=>?_⟩;cases hr;subst hle;exact⟨hd,u,rfl,hu,hw.1,hw.2.1,hw.2.2.1,hw.2.2.2.1,hw.2.2.2.2⟩
theorem H4{p:Prop}(h:p:=by (repeat (first | exact Jnl | apply D1 | apply D2 | apply D3 | apply D4))):p:=h
theorem XJ(h:Pq X T ly md Q):Oe X T ly l m md Q:=λu hu r a w _ hr hi=>h.h u r a w hu hr hi.defs (uC hi)
theorem ii{ε α:Type}{P:Program}{w0:World}{S0:Nat->Prop}{γ0:Nm}{mi:List (Nat×Ct)}{le:ε->Ly}{res:α->Ly}{mo:α->List (Nat×Ct)}{fn:Func}{x:α}{e:Exit}
 (h:Sq X l m (some x) (λr=>bodyPost P fn (fd w0 S0 γ0 mi (res r) (mo r)) e)):Sq X l m (some (Except.ok x)) (λr=>bodyPost P fn (pP w0 S0 γ0 mi T le res mo r) e):=by
 intro r a w γ hr hi;cases hr;exact h x a w γ rfl hi
theorem Oh{ε α:Type}{md1:Option (Except ε α)}{fe:ε->Option R}{k:α->Option R}{f largs mi}{res:α->Ly}{mo:α->List (Nat×Ct)}{le:ε->Ly}{d op ty pos after}{aG:Array Oper}{rest:List Oper}{ρ:List (Nat×Nat)}
 (c:∀ r,md1=some r->gB X.P f largs mi T le res mo r) (hrun:pQ X (lk l) (lk m) ⟨d,op,ty,pos,after,none⟩ f ρ largs) (hmi:dK ρ (lk m) mi) (hρm:gc mi ρ) (hρn:aJ (ρ.map (·.2))=true)
 (hq:∀ e,Oe X T (le e) l (fJ ρ++m) (fe e) Q)
 (hok:∀ x,bo X.P f largs mi (res x) (mo x)->Sq X l m (k x) (λr=>wpList X.P aG (Q r) (⟨d,op,ty,pos,after,none⟩::rest))) :
 Sq X l m (md1.bind (cI fe k)) (λr=>wpList X.P aG (Q r) (⟨d,op,ty,pos,after,none⟩::rest)):=by
 refine bd λy hy=>?_;have hc:=c y hy;cases y with
 | ok x=>exact hok x hc
 | error e=>
   intro r a w γ hr hi;refine wpList_plain rfl λK hK=>?_;refine lA hc hrun hmi hρm hρn hi λu w' γ' hu hi'=>?_;rw[co] at hi';exact hq e u hu r a w' γ' hr hi'
theorem D5{ρ:List (Nat×Nat)}{mm:Nat->Option Ct}{mi}(h:dK ρ mm mi:=by (repeat (first | exact trivial | refine WT rfl (by first | exact rfl | exact(Ag.get (by assumption) rfl).trans rfl) (by first | exact aW ff.h | exact cx (by (repeat' first | exact au cm.h | exact K1 rfl | exact Vi | refine Je ?_ ?_ | refine gY ?_ | exact tu rfl | exact jQ rfl | exact qP rfl | refine jR ?_ | exact xZ rfl | refine x6 ?_)) | exact ld | exact lf | exact k9 ff.h) ?_))):dK ρ mm mi:=h
theorem bP{ε α:Type}{P:Program}{md1:Option (Except ε α)}{fe:ε->Option R}{k:α->Option R}{f largs mi}{res:α->Ly}{mo:α->List (Nat×Ct)}{le:ε->Ly}{d args argTypes ty pos after}{aG:Array Oper}{rest:List Oper}
 (bs:Bf) (c:∀ r,md1=some r->gB P f largs mi T le res mo r)
 (hok:∀ x,bo P f largs mi (res x) (mo x)->Sq X l m (k x) (λr=>wpList X.P aG (Q r) (⟨d,.call { callee:=.value (.func f),args:=⟨args⟩,argTypes:=argTypes },ty,pos,after,none⟩::rest)))
 (hP:P=X.P:=by exact rfl) (ha:autoParam (dY (lk l) (dt mi bs) args largs) qS._auto_1) (hmi:autoParam (dK (dt mi bs) (lk m) mi) D5._auto_1) (hρm:autoParam (gc mi (dt mi bs)) jT._auto_1) (hρn:aJ ((dt mi bs).map (·.2))=true:=by exact rfl)
 (hq:∀ e,Pq X T (le e) (fe e) Q:=by intro e;exact H4) :
 Sq X l m (md1.bind (cI fe k)) (λr=>wpList X.P aG (Q r) (⟨d,.call { callee:=.value (.func f),args:=⟨args⟩,argTypes:=argTypes },ty,pos,after,none⟩::rest)):=by
 subst hP;exact Oh c (Og ha) hmi hρm hρn (by grind[XJ]) hok
theorem XK{ε α:Type}{P:Program}{md1:Option (Except ε α)}{fe:ε->Option R}{k:α->Option R}{f largs mi}{res:α->Ly}{mo:α->List (Nat×Ct)}{le:ε->Ly}{d args argTypes ty pos after}{aG:Array Oper}{rest:List Oper}
 (bs:Bf) (c:∀ r,md1=some r->gB P f largs mi T le res mo r)
 (hq:∀ e,Oe X T (le e) l (fJ (dt mi bs)++m) (fe e) Q)
 (hok:∀ x,bo P f largs mi (res x) (mo x)->Sq X l m (k x) (λr=>wpList X.P aG (Q r) (⟨d,.call { callee:=.value (.func f),args:=⟨args⟩,argTypes:=argTypes },ty,pos,after,none⟩::rest)))
 (hP:P=X.P:=by exact rfl) (ha:autoParam (dY (lk l) (dt mi bs) args largs) qS._auto_1) (hmi:autoParam (dK (dt mi bs) (lk m) mi) D5._auto_1) (hρm:autoParam (gc mi (dt mi bs)) jT._auto_1) (hρn:aJ ((dt mi bs).map (·.2))=true:=by exact rfl) :
 Sq X l m (md1.bind (cI fe k)) (λr=>wpList X.P aG (Q r) (⟨d,.call { callee:=.value (.func f),args:=⟨args⟩,argTypes:=argTypes },ty,pos,after,none⟩::rest)):=by
 subst hP;exact Oh c (Og ha) hmi hρm hρn hq hok
theorem H5{ε α:Type}{P:Program}{md1:Option (Except ε α)}{fe:ε->Option R}{k:α->Option R}{f largs lb la bl_ mi}{res:α->Ly}{mo:α->List (Nat×Ct)}{le:ε->Ly}{d x args argTypes ty pos after}{aG:Array Oper}{rest:List Oper}
 (bs:Bf) (c:∀ r,md1=some r->gB P f largs mi T le res mo r) (hx:ac (lk l) x (.bnd f bl_)) (hl:largs=lb++la) (hc:kl (dt mi bs) bl_ lb)
 (hok:∀ x_,bo P f largs mi (res x_) (mo x_)->Sq X l m (k x_) (λr=>wpList X.P aG (Q r) (⟨d,.call { callee:=.value x,args:=⟨args⟩,argTypes:=argTypes },ty,pos,after,none⟩::rest)))
 (hP:P=X.P:=by exact rfl) (ha:autoParam (dY (lk l) (dt mi bs) args la) qS._auto_1) (hmi:autoParam (dK (dt mi bs) (lk m) mi) D5._auto_1) (hρm:autoParam (gc mi (dt mi bs)) jT._auto_1) (hρn:aJ ((dt mi bs).map (·.2))=true:=by exact rfl)
 (hq:∀ e,Pq X T (le e) (fe e) Q:=by intro e;exact H4) :
 Sq X l m (md1.bind (cI fe k)) (λr=>wpList X.P aG (Q r) (⟨d,.call { callee:=.value x,args:=⟨args⟩,argTypes:=argTypes },ty,pos,after,none⟩::rest)):=by
 subst hP;exact Oh c (by grind[Jjn]) hmi hρm hρn (by grind[XJ]) hok
theorem D6{x d ty pos af}{aG:Array Oper}{rest:List Oper}(hx:ac (lk l) x (.ifc T ly))(hpl:∀ w S γ u,ly.val w S γ u->oH ly u)(hq:autoParam (Pq X T ly md Q) H4._auto_1):
 Sq X l m md (λr=>wpList X.P aG (Q r) (⟨d,.panic x,ty,pos,af,none⟩::rest)):=by
 intro r a w γ hr hi;refine wpList_plain rfl λK hK=>?_;have hv:=hx.val hi;obtain⟨u,hu,hv⟩:=hv;have hrun:(execOp a.eval ⟨d,.panic x,ty,pos,af,none⟩).run X.P w=.halt (.panic (.iface T u)) w:=by simp_all[execOp,Instr.panic]
 unfold Oper.wp;rw[hrun];exact hq.h u r a w ol hr hi.defs (uC hi)
end
theorem XL{X:Cx}{st mm a w γ}(h:st X.N=some .any):¬ bq X st mm a w γ:=λhi=>by obtain⟨v,hv,_⟩:=hi.sts _ _ h;rw[vu (by rw[hi.size];simp)] at hv;cases hv
theorem XM{α:Type}(es:List (List (Nat×α)))(l:List (Nat×α)):aH (lk l) es 0 (λ_=>true)=lk (eG es l):=HR es l 0 _ λ_ _=>rfl
theorem dPX{R:Type}{X:Cx}{id:Nat}{ls0 l0 m0 ds l m}{md:Option R}{Q:R->Exit->Act->World->Prop}{o:Oper}{os:List Oper}(rs ri:Bf)
 (h:∀ st mm,Ag st (lk l) rs->Ag mm (lk m) ri->∀ r a w γ K,md=some r->bq X st mm a w γ->if Region.wanted o (yielded ⟨ls0⟩ a.tmps) then o.wp X.P a w K (Q r) else K (a.put o.dst undef) w)
 (hf:X.P.follows .mixedOrders=true) (hD:cT ls0 (ds++⟨rs,ri,[(X.N,.any)],[]⟩::os.map λ_=>⟨[X.N],[],[],[]⟩) 0 [] []=true) :
 fI X (λr=>(Code.region id ⟨ls0⟩ true).wp X.P (Q r)) ls0 l0 m0 md Q ds l m (o::os):=by
 intro pre e hs hl hm r a w γ hr hi;refine wp_region_any hf ?_;have hi':bq X (lk l0) (lk m0) a { w with drawn:=w.drawn+1 } γ:=hi.ext (w':={ w with drawn:=w.drawn+1 }) rfl rfl rfl ⟨xe _,oh⟩;generalize hds:(ds++⟨rs,ri,[(X.N,.any)],[]⟩::os.map λ_=>⟨[X.N],[],[],[]⟩:List D)=ds' at hD;obtain⟨h1,h2,h3⟩:=HQ (ls:=ls0) ls0 ds' 0 [] [] rfl rfl oh oh hD;have hDF:HP ls0 ds':=⟨h1,ol,ol⟩
 have hlen:pre.length=ds.length:=ol
 refine Nf (Wp:=λ_ _=>True) hDF (Q:=Q r) (l:=l0) (m:=m0) (λj o' d hj hd st mm h3 h4 _ a w γ K hi hK=>?_) oh (λa w γ hi=>?_) _ _ a _ γ oh oh (λi o ho hl=>?_) ?_;rcases Nat.lt_trichotomy j ds.length with hlt | rfl | hgt;have e1:ds'[j]?=ds[j]?:=ol
 have e2:ls0[j]?=pre[j]?:=ol
 have e3:(ds'.map (·.el)).take j=(ds.map (·.el)).take j:=ol
 have e4:(ds'.map (·.em)).take j=(ds.map (·.em)).take j:=ol
 rw[e3] at h3;rw[e4] at h4;exact Nd hs j o' d ol ol st mm h3 h4 a w γ K (Q r) hi hK;have e1:d=⟨rs,ri,[(X.N,.any)],[]⟩:=ol
 have e2:o'=o:=ol
 have e3:(ds'.map (·.el)).take ds.length=ds.map (·.el):=ol
 have e4:(ds'.map (·.em)).take ds.length=ds.map (·.em):=ol
 subst e1 e2;rw[e3,XM,hl] at h3;rw[e4,XM,hm] at h4;exact h st mm h3 h4 r a w γ K hr hi;have e1:d.rs=[X.N]:=by rw[<-hds,xw om] at hd;grind
 rw[e1] at h3;refine(XL (X:=X) ?_ hi).elim;rw[h3.1];have key:∀(es:List (List (Nat×Ly))) (b:Nat->Option Ly) (i:Nat),b X.N=some .any->(∀ e∈es,lk e X.N=none\/lk e X.N=some .any)->aH b es i (λ_=>true) X.N=some .any:=by
  intro es
  induction es with
  | nil=>intro b i hb _;exact hb
  | cons x es ih=>
    intro b i hb he;simp only[aH,yt];refine ih _ _ ?_ ol;grind[up]
 have split:∀(es fs:List (List (Nat×Ly))) (b:Nat->Option Ly) (i:Nat),aH b (es++fs) i (λ_=>true)=aH (aH b es i (λ_=>true)) fs (i+es.length) (λ_=>true):=by
  intro es
  induction es with
  | nil=>intro fs b i;rfl
  | cons x es ih=>intro fs b i;simp only[yr,aH,yt,ih,xd];grind
 obtain⟨n,hn⟩:∃ n,j=(ds.map (·.el)).length+(n+1):=⟨j - ds.length - 1,ol⟩
 rw[<-hds,vi,hn,List.take_length_add_append,split];simp only[xt,yv,aH,yt];refine key _ _ _ ?_ λx hx=>?_;simp[up,lk];have:=List.mem_of_mem_take hx;obtain⟨_,h5,rfl⟩:=xv.1 this;obtain⟨_,_,rfl⟩:=xv.1 h5;exact .inl rfl;refine(XL (X:=X) ?_ hi).elim;have key:∀(es:List (List (Nat×Ly))) (l:List (Nat×Ly)),lk l X.N=some .any->(∀ e∈es,e=[])->lk (eG es l) X.N=some .any:=by
  intro es
  induction es with
  | nil=>intro l hl _;exact hl
  | cons x es ih=>intro l hl he;rw[he x oh];exact ih _ hl ol
 have split:∀(es fs:List (List (Nat×Ly))) (l:List (Nat×Ly)),eG (es++fs) l=eG fs (eG es l):=by
  intro es
  induction es with
  | nil=>intro fs l;rfl
  | cons x es ih=>intro fs l;exact ih _ _
 rw[<-hds,vi,split];simp only[xt,eG];exact key _ _ (by simp[lk]) oh;have hlt:i<ls0.length:=ol
 simp[hlt] at hl;have e1:(λi=>(Array.replicate ls0.length false).getD i false)=λ_=>false:=by funext i;by_cases h:i<ls0.length<;>simp[h]
 have e2:∀ {α:Type}(es:List (List (Nat×α))) (b:Nat->Option α) (i:Nat),aH b es i (λ_=>false)=b:=by
  intro α es
  induction es with
  | nil=>intro b i;rfl
  | cons e es ih=>intro b i;simp[aH,ih]
 show bq X (aH _ _ 0 (λi=>(Array.replicate ls0.length false).getD i false)) (aH _ _ 0 (λi=>(Array.replicate ls0.length false).getD i false)) _ _ _;grind
theorem Oi{R:Type}{X:Cx}{P:Program}{id:Nat}{ls0 l0 m0 ds l m}{md:Option R}{Q:R->Exit->Act->World->Prop}{T:Nat}{ly:Ly}{d f args argTypes ty pos after}{os:List Oper}{largs mi}(hp:pO P f largs mi T ly)(bs ri:Bf)
 (hP:P=X.P:=by exact rfl) (ha:autoParam (∀(st:Nat->Option Ly) (mm:Nat->Option Ct),Ag st (lk l) (dm ⟨ls0⟩ ⟨d,.call { callee:=.value (.func f),args:=⟨args⟩,argTypes:=argTypes },ty,pos,after,none⟩)->Ag mm (lk m) ri->dY st (dt mi bs) args largs) WY._auto_1)
 (hmi:∀(st:Nat->Option Ly) (mm:Nat->Option Ct),Ag st (lk l) (dm ⟨ls0⟩ ⟨d,.call { callee:=.value (.func f),args:=⟨args⟩,argTypes:=argTypes },ty,pos,after,none⟩)->Ag mm (lk m) ri->dK (dt mi bs) mm mi:=by intro _ _ _ _;exact D5)
 (hρm:autoParam (gc mi (dt mi bs)) jT._auto_1) (hρn:aJ ((dt mi bs).map (·.2))=true:=by exact rfl) (hq:autoParam (Pq X T ly md Q) H4._auto_1)
 (hf:X.P.follows .mixedOrders=true:=by exact x7.h) (hD:cT ls0 (ds++⟨dm ⟨ls0⟩ ⟨d,.call { callee:=.value (.func f),args:=⟨args⟩,argTypes:=argTypes },ty,pos,after,none⟩,ri,[(X.N,.any)],[]⟩::os.map λ_=>⟨[X.N],[],[],[]⟩) 0 [] []=true:=by kernel_rfl) :
 fI X (λr=>(Code.region id ⟨ls0⟩ true).wp X.P (Q r)) ls0 l0 m0 md Q ds l m (⟨d,.call { callee:=.value (.func f),args:=⟨args⟩,argTypes:=argTypes },ty,pos,after,none⟩::os):=by
 subst hP;refine dPX _ ri (λst mm h1 h2 r a w γ K hr hi=>?_) hf hD;exact lA hp (by grind[Og]) ol hρm hρn hi λu w' γ' hu hi'=>hq.h u r a w' hu hr hi'.defs (uC hi')
theorem Oj{R:Type}{X:Cx}{l m}{G:R->Act->World->Prop}{ε α:Type}{P:Program}{T:Nat}{md1:Option (Except ε α)}{fe:ε->Option R}{k:α->Option R}{f largs mi}{res:α->Ly}{mo:α->List (Nat×Ct)}{le:ε->Ly}
 (c:∀ r,md1=some r->gB P f largs mi T le res mo r) (he:∀ e,pO P f largs mi T (le e)->Sq X l m (fe e) G) (hok:∀ x,bo P f largs mi (res x) (mo x)->Sq X l m (k x) G):Sq X l m (md1.bind (cI fe k)) G:=
 bd λy hy=>match y,c y hy with
  | .ok x,h=>hok x h
  | .error e,h=>he e h
def H6(P:Program)(f:Nat)(args:List Ly)(mi:List (Nat×Ct))(u0 u1:FrameMode)(mo:List (Nat×Ct)):Prop:=
 (∃ fn,P.funcs[f]?=some fn∧(fn.name == "runtime.NumGoroutine")=false∧fn.body.isSome=true) ∧
 ∀(w:World) (S0:Nat->Prop) (γ:Nm) (vs:Array Value),(∀ b,S0 b->b<w.heap.size)->(∀ id,lk mi id=none->γ id=none) ->
  (∀ id c,lk mi id=some c->Xk w (Sx S0 γ mi) γ id c)->gG γ (lk mi)->(∀ b,Ow γ (lk mi) b->b<w.heap.size/\¬ S0 b)->Ly.vals w (Sx S0 γ mi) γ args vs.toList->jD w (Sx S0 γ mi) ->
  CallsD P f vs u0 w λe u w'=>u=u1/\fd w S0 γ mi (.tup []) mo e w'
theorem fsD{P:Program}{f N:Nat}{fn:Func}{c:Code}{args:List Ly}{mi:List (Nat×Ct)}{R:Type}{res:R->Ly}{mo:R->List (Nat×Ct)}{md:Option R}
 (hf:P.funcs[f]?=some fn) (h:∀ w S0 γ,(∀ id,lk mi id=none->γ id=none)->Sq ⟨P,N,w,S0,Ow γ (lk mi),γ,[]⟩ (iv 0 args) mi md (λr=>c.wp P (bodyPostD P fn (fd w S0 γ mi (res r) (mo r)))))
 (hb:fn.body=some c:=by exact rfl) (hN:fn.ntmps=N:=by exact rfl) (hname:(fn.name == "runtime.NumGoroutine")=false:=by kernel_rfl) (hl:Nat.ble args.length N=true:=by exact rfl) :
 ∀ r,md=some r->bo P f args mi (res r) (mo r):=
 λr hr=>⟨⟨fn,hf,hname,ol⟩,λw S0 γ vs h1 h2 h3 h4 h5 h6 h7=>calls_of_wp_defers hf hb (h w S0 γ h2 r _ w γ hr (by grind[uB]))⟩
section
variable {R:Type}{l:List (Nat×Ly)}{m:List (Nat×Ct)}{md:Option R}
theorem rtD{X:Cx}{P:Program}{fn:Func}{Po:R->Ending->World->Prop}(h:Sq X l m md (λr=>bodyPost P fn (Po r) .ret)):Sq X l m md (λr=>bodyPostD P fn (Po r) .ret):=by intro r a w γ hr hi;obtain⟨h1,h2⟩:=h r a w γ hr hi;show Leaves P fn a.tmps (Po r) a.defers .returning w;rw[h1];exact h2
theorem sdf{P:Program}{N:Nat}{w0:World}{S0 M:Nat->Prop}{g0:Nm}{x:Operand}{g caps ty pos af argTypes}{aG:Array Oper}{rest:List Oper}{Q:R->Exit->Act->World->Prop}
 (hx:ac (lk l) x (.clo g caps):=by exact rfl)
 (k:∀ γd us,Ng g0 γd->gb γd caps us->Sq ⟨P,N,w0,S0,M,γd,[⟨.fn (.func g) us.toArray,#[]⟩]⟩ l m md (λr=>wpList P aG (Q r) rest)) :
 Sq ⟨P,N,w0,S0,M,g0,[]⟩ l m md (λr=>wpList P aG (Q r) (⟨none,.defer { callee:=.value x,args:=#[],argTypes:=argTypes },ty,pos,af,none⟩::rest)):=by
 intro r a w γ hr hi;refine wpList_plain rfl λK hK=>?_;have hv:=hx.val hi;obtain⟨us,hu,hu2⟩:=hv;have hrun:(execOp a.eval ⟨none,.defer { callee:=.value x,args:=#[],argTypes:=argTypes },ty,pos,af,none⟩).run P w=.ok (.defer ⟨.fn (.func g) us.toArray,#[]⟩) w:=by simp_all[execOp,resolve,Deferred.ofValue]
 unfold Oper.wp;rw[hrun];refine hK _ _ (k γ us hi.keep hu2 r _ w γ hr { hi with size:=hi.size,defs:=?_,keep:=Ng.refl _,sts:=hi.sts });show(_::a.defers)=_;rw[hi.defs]
theorem Ol{P:Program}{N:Nat}{w0:World}{S0 M:Nat->Prop}{g0 γd:Nm}{us:List Value}{Po:R->Ending->World->Prop}{fn:Func}{g:Nat}{caps lc bs:Bf}{mi mo em:List (Nat×Ct)}{u0 u1:FrameMode}
 (hg:Ng g0 γd) (hcap:gb γd caps us) (hc:H6 P g (lc.map .own) mi u0 u1 mo) (hu:u0≠.run) (hset:settle u1=.returning)
 (k:Sq ⟨P,N,w0,S0,M,g0,[]⟩ l (em++m) md (λr=>bodyPost P fn (Po r) .ret))
 (hcl:caps.map some=lc.map (lk (dt mi bs)):=by exact rfl) (hmi:autoParam (dK (dt mi bs) (lk m) mi) D5._auto_1) (hρm:autoParam (gc mi (dt mi bs)) jT._auto_1) (hρn:aJ ((dt mi bs).map (·.2))=true:=by exact rfl)
 (hσ:gg [] (dt mi bs) (mH (dt mi bs)):=by (repeat (first | exact trivial | refine⟨.inl rfl,?_⟩ | refine⟨.inr rfl,?_⟩)))
 (hσn:aJ ((mH (dt mi bs)).map (·.2))=true:=by exact rfl)
 (hem:kE (mH (dt mi bs)) (dt mi bs) (dt mi bs) mo bs em:=by (repeat (first | exact WR | (apply WS;exact rfl;exact rfl;exact rfl) | (apply ru;exact rfl;exact rfl;exact ff.h) | (apply rq;exact rfl;exact rfl;exact by (repeat' first | exact nJ cm.h | exact N0 rfl rfl | exact N6 | apply N7 | apply N4 | apply N5 | exact N1 rfl rfl | exact N2 rfl rfl | exact N3 rfl rfl)) | (apply rx;exact rfl;exact rfl) | (apply ry;exact rfl;exact rfl) | (apply rz;exact rfl;exact rfl;exact ff.h))))
 (hall:autoParam (bN em ((dt mi bs).map (·.2))) jT._auto_1) :
 Sq ⟨P,N,w0,S0,M,γd,[⟨.fn (.func g) us.toArray,#[]⟩]⟩ l m md (λr a w=>Leaves P fn a.tmps (Po r) a.defers u0 w):=by
 intro r a w γ hr hi;obtain⟨⟨fng,hfn,hname,hbody⟩,hc⟩:=hc;obtain⟨g1,g2,g3,g4,g5,g6,g7,g8⟩:=nB (res:=.any) (res':=.any) (mo:=mo) (em:=em) (dt mi bs) [] (mH (dt mi bs)) (dK.get hmi) hρm hρn trivial hσ hσn hem.h hall trivial (au My) hi;have hd:a.defers=[⟨.fn (.func g) us.toArray,#[]⟩]:=hi.defs;show Leaves P fn a.tmps (Po r) a.defers u0 w;rw[hd];have hinv:(invoke (.fn (.func g) us.toArray) #[]).run P w=.ok (.enter g us.toArray) w:=by
  have e1:fng.body.isNone=false:=oo
  have e2:¬ fng.name= "runtime.NumGoroutine":=ol
  simp[invoke,callFunc,hfn,e2];grind
 refine leaves_cons hu hinv ?_;have hcv:gb γ caps us:=gb.mono hi.keep hcap;have hvals:Ly.vals w (Sx (jF (λ_=>false) ⟨P,N,w0,S0,M,γd,[⟨.fn (.func g) us.toArray,#[]⟩]⟩ (lk m) (dt mi bs) γ) (gh (dt mi bs) γ) mi) (gh (dt mi bs) γ) (lc.map .own) us.toArray.toList:=by grind[NL,Di]
 refine(hc w _ _ us.toArray g3 g4 g5 g6 g7 hvals (hi.gw g2)).mono ?_;rintro e u w' ⟨rfl,v,γ',rfl,hb⟩;show Leaves P fn a.tmps (Po r) [] (settle u) w';rw[hset];obtain⟨γ'',hinv2,_,_⟩:=g8 v γ' w' { hb with res:=by simp[Ly.val] };rw[co] at hinv2;have:=k r { a with defers:=[] } w' γ'' hr { hinv2 with size:=hinv2.size,defs:=rfl,keep:=λid v h=>hinv2.keep id v (hg id v h),sts:=hinv2.sts };exact this.2
theorem XN{β:Type}{P:Program}{f N t id:Nat}{fn:Func}{c2:Code}{args:List Ly}{mi:List (Nat×Ct)}{md1:Option β}{k:β->Option R}{mo:R->List (Nat×Ct)}{o1:Oper}{argTypes ty pos af}{el:β->List (Nat×Ly)}{em:β->List (Nat×Ct)}
 {lyv:Ly}{u0 u1:FrameMode}{v0:Value}(hf:P.funcs[f]?=some fn) (hb:fn.body=some (.seq (.region id ⟨[⟨some t,.call { callee:=.builtin .recover,args:=#[],argTypes:=argTypes },ty,pos,af,none⟩,o1]⟩ false) c2)) (hN:fn.ntmps=N) (hrec:∀(c0:Frame) cs,c0.mode=u0->recoverD (c0::cs)=some (v0,{ c0 with mode:=u1 }::cs)\/(recoverD (c0::cs)=none/\v0=.nilIface/\u1=u0)) (hv:oH lyv v0)
 (hop:∀ y,md1=some y->∀ w S0 γ,br ⟨P,N,w,S0,Ow γ (lk mi),γ,[]⟩ (lk ((t,lyv)::iv 0 args)) (lk mi) o1 (el y) (em y))
 (h:∀ y w S0 γ,(∀ id,lk mi id=none->γ id=none)->Sq ⟨P,N,w,S0,Ow γ (lk mi),γ,[]⟩ (el y++(t,lyv)::iv 0 args) (em y++mi) (k y) (λr=>c2.wp P (bodyPost P fn (fd w S0 γ mi (.tup []) (mo r)))))
 (hname:(fn.name == "runtime.NumGoroutine")=false:=by kernel_rfl) (hl:Nat.ble args.length N=true:=by exact rfl)
 (ht:Nat.blt t N=true:=by exact rfl) (hg1:o1.guard=none:=by exact rfl):∀ r,md1.bind k=some r->H6 P f args mi u0 u1 (mo r):=by
 intro r hr;refine⟨⟨fn,hf,hname,ol⟩,λw S0 γ vs h1 h2 h3 h4 h5 h6 h7=>?_⟩;have hi:=uB (P:=P) hN hl h1 h2 h3 h4 h5 h6 h7;cases hy:md1 with
 | none=>grind
 | some y=>
 rw[hy] at hr;refine callsD_of_wpS hf hb λc0 cs hu=>?_;refine wpS_seq (wpS_region ?_);have hrec':∃ cs',recoverD (c0::cs)=some (v0,cs')/\cs'={ c0 with mode:=u1 }::cs\/(recoverD (c0::cs)=none/\v0=.nilIface/\cs'=c0::cs/\u1=u0):=ol
 obtain⟨cs',hcs⟩:=hrec';have hcs1:cs'={ c0 with mode:=u1 }::cs:=by rcases hcs with ⟨_,e⟩ | ⟨_,_,e,e2⟩;exact e;rw[e,e2];subst hu;rfl
 have hi2:=hi.put (d:=t) (v:=v0) (ly:=lyv) oo (hv _ _ _);rw[co] at hi2
 have hgo:wpOpsS P #[⟨some t,.call { callee:=.builtin .recover,args:=#[],argTypes:=argTypes },ty,pos,af,none⟩,o1] (Exit.thenS (c2.wpS P (bodyPostS P fn c0 cs λe u w'=>u=u1/\fd w S0 γ mi (.tup []) (mo r) e w')) (bodyPostS P fn c0 cs λe u w'=>u=u1/\fd w S0 γ mi (.tup []) (mo r) e w')) [1]
  (({ tmps:=vs++Array.replicate (fn.ntmps - vs.size) undef,defers:=[] }:Act).put (some t) v0) cs' w:=by
  have hop1:=(hop y hy w S0 γ).h _ _ _ (λa' w'=>wpOpsS P #[⟨some t,.call { callee:=.builtin .recover,args:=#[],argTypes:=argTypes },ty,pos,af,none⟩,o1] (Exit.thenS (c2.wpS P (bodyPostS P fn c0 cs λe u w'=>u=u1/\fd w S0 γ mi (.tup []) (mo r) e w')) (bodyPostS P fn c0 cs λe u w'=>u=u1/\fd w S0 γ mi (.tup []) (mo r) e w')) [] a' cs' w')
   (λe a' w'=>Exit.thenS (c2.wpS P (bodyPostS P fn c0 cs λe u w'=>u=u1/\fd w S0 γ mi (.tup []) (mo r) e w')) (bodyPostS P fn c0 cs λe u w'=>u=u1/\fd w S0 γ mi (.tup []) (mo r) e w') e a' cs' w') hi2 (λa' w' γ' hi'=>by
    rw[co,co] at hi';show c2.wpS P _ a' cs' w';refine wpS_of_wp (Code.wp_mono (λe a2 w2 hq=>?_) (h y w S0 γ h2 r a' w' γ' hr hi'));subst hcs1;cases e with
    | normal=>exact⟨hq.1,u1,rfl,hq.2.choose,ol,rfl,ol⟩
    | ret=>exact⟨hq.1,u1,rfl,hq.2.choose,ol,rfl,ol⟩
    | panic ch=>exact⟨hq.1,u1,rfl,rfl,hq.2⟩
    | outgrown=>exact⟨u1,rfl,hq⟩
    | exit _=>exact hq
    | goto _=>exact hq)
  unfold wpOpsS;simp only[List.getElem?_toArray,List.getElem?_cons_succ,List.getElem?_cons_zero];rw[ot (by grind[Region.wanted])];unfold Oper.wp at hop1;split;rename_i hr';rw[hr'] at hop1;exact hop1.elim;omega
 show wpOpsS P _ _ [0,1] _ _ _;unfold wpOpsS;simp only[List.getElem?_toArray,List.getElem?_cons_zero];rw[ot oe];have hx:(execOp ({ tmps:=vs++Array.replicate (fn.ntmps - vs.size) undef,defers:=[] }:Act).eval ⟨some t,.call { callee:=.builtin .recover,args:=#[],argTypes:=argTypes },ty,pos,af,none⟩).run P w=.ok .recover w:=oe
 grind
end
theorem Jle(c0:Frame)(cs:List Frame)(h:c0.mode=.returning):recoverD (c0::cs)=some (.nilIface,{ c0 with mode:=.returning }::cs)\/(recoverD (c0::cs)=none/\(Value.nilIface)=.nilIface/\FrameMode.returning=.returning):=.inr ⟨by simp[recoverD,h],rfl,rfl⟩
def nN(T:Nat)(u:Value):List PanicEntry:=[{ v:=.iface T u,recovered:=true }]
theorem Jlf{T:Nat}{u:Value}(c0:Frame)(cs:List Frame)(h:c0.mode=.panicking (rG T u)):recoverD (c0::cs)=some (.iface T u,{ c0 with mode:=.panicking (nN T u) }::cs)\/(recoverD (c0::cs)=none/\(Value.iface T u)=.nilIface/\FrameMode.panicking (nN T u)=.panicking (rG T u)):=by grind[recoverD,rG,nN]
theorem Jlg:settle .returning=.returning:=rfl
theorem XO{T u}:settle (.panicking (nN T u))=.returning:=rfl
theorem Jnm:oH gi .nilIface:=λ_ _ _=>oe
theorem Jnn{T ly u}(h:oH ly u):oH (.ifc T ly) (.iface T u):=λw S γ=>by exact⟨u,rfl,h w S γ⟩
section
variable {X:Cx}{st:Nat->Option Ly}{mm:Nat->Option Ct}
theorem Jno{T ly}(h:IF ly):IF (.ifc T ly):=λw S γ γ'=>⟨by grind[Ly.hold],λv hv=>by
 obtain⟨u,rfl,hv⟩:=hv
 exact⟨u,rfl,(h w S γ γ').2 u hv⟩⟩
instance{T ly}[h:cm ly]:cm (.ifc T ly):=⟨Jno h.h⟩
theorem Om{d x T T2 ty pos af ms}(hT:X.P.underlying T=some (.interface ms))(hd:Nat.blt d X.N=true)(hx:ac st x gi):
 ax X st mm ⟨some d,.binOp .eql T x (.const .nilIface) T2,ty,pos,af,none⟩ [(d,bl true)] []:=
 mC hd hx xW λw S γ vx vy h1 h2=>by have h1':vx=.nilIface:=h1;have h2':vy=.nilIface:=h2;subst h1' h2';exact⟨.bool true,by simp[eqGuard],by simp_all[binOp,Jna],rfl⟩
theorem On{d x T T' T2 ty pos af ms ly}(hT:X.P.underlying T=some (.interface ms))(hd:Nat.blt d X.N=true)(hx:ac st x (.ifc T' ly)):
 ax X st mm ⟨some d,.binOp .eql T x (.const .nilIface) T2,ty,pos,af,none⟩ [(d,bl false)] []:=
 mC hd hx xW λw S γ vx vy h1 h2=>by have h2':vy=.nilIface:=h2;obtain⟨u,rfl,_⟩:=h1;exact⟨.bool false,λw=>oe,by simp_all[binOp,Jk4],rfl⟩
theorem taT{d x T0 T ty pos af ly fs}(hT:X.P.underlying T=some (.struct fs))(hd:Nat.blt d X.N=true)(hx:ac st x (.ifc T ly)):
 ax X st mm ⟨some d,.typeAssert x T0 T true,ty,pos,af,none⟩ [(d,.tup [ly,bl true])] []:=
 Wv hd λa w γ hi=>by have hv:=hx.val hi;simp only[Ly.val] at hv;obtain⟨u,hu,hv⟩:=hv;refine⟨.tuple #[u,.bool true],?_,?_⟩;simp_all[execOp,Instr.typeAssert,underlying];simp only[Ly.val,Ly.vals];exact⟨_,rfl,u,_,rfl,hv,_,_,rfl,rfl,rfl⟩
end
section
variable {R:Type}{X:Cx}{l:List (Nat×Ly)}{m:List (Nat×Ct)}{md:Option R}{Q:R->Exit->Act->World->Prop}
theorem XP{N:R->Act->World->Prop}{ch:List PanicEntry}(h:Sq X l m md (λr=>Q r (.panic ch))):Sq X l m md (λr=>Exit.then (N r) (Q r) (.panic ch)):=h
theorem lvR{P:Program}{fn:Func}{Po:R->Ending->World->Prop}(h:Sq X l m md (λr a w=>Leaves P fn a.tmps (Po r) a.defers .returning w)):Sq X l m md (λr=>bodyPostD P fn (Po r) .ret):=h
theorem XQ{P:Program}{fn:Func}{Po:R->Ending->World->Prop}{ch:List PanicEntry}(h:Sq X l m md (λr a w=>Leaves P fn a.tmps (Po r) a.defers (.panicking ch) w)):Sq X l m md (λr=>bodyPostD P fn (Po r) (.panic ch)):=h
end
end Go.Proofs.YthdbapalogijdaaGreatDoor
