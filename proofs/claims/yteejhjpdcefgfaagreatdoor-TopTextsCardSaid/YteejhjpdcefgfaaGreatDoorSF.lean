import Derived.RangeFuncWrites
import Derived.TacticsIn
import Derived.OrdersIn
import Derived.Test.YteejhjpdcefgfaaGreatDoorSC
namespace Go.Proofs.YteejhjpdcefgfaaGreatDoor
open Go Go.RowKit
theorem bpM{P:Program}{fn:Func}{R:Ending->World->Prop}{n:Nat}:∀ {e:Exit}{a:Act}{w:World},bodyPost P fn R e a w->bodyPostM Fence.wide n P fn R e a w
 | .normal,a,w,h=>by obtain⟨d,f⟩:=h;show LeavesInM _ _ _ _ _ _ a.defers .returning w;rw[d];exact f
 | .ret,a,w,h=>by obtain⟨d,f⟩:=h;show LeavesInM _ _ _ _ _ _ a.defers .returning w;rw[d];exact f
 | .panic ch,a,w,h=>by obtain⟨d,f⟩:=h;show LeavesInM _ _ _ _ _ _ a.defers (.panicking ch) w;rw[d];exact f
 | .outgrown,_,_,h=>h
 | .exit _,_,_,h=>h
 | .goto _,_,_,h=>h
theorem fnM{P:Program}{f N:Nat}{fn:Func}{c:Code}{args:List Ly}{mi:List (Nat×Ct)}{R:Type}{res:R->Ly}{mo:R->List (Nat×Ct)}{md:Option R}
 (hf:P.funcs[f]?=some fn) (h:∀ w S0 γ,(∀ id,lk mi id=none->γ id=none)->Sq ⟨P,N,w,S0,Ow γ (lk mi),γ,[]⟩ (argl 0 args) mi md (λr=>c.wp P (bodyPostM Fence.wide 1 P fn (RetP w S0 γ mi (res r) (mo r)))))
 (hb:fn.body=some c:=by exact rfl) (hN:fn.ntmps=N:=by exact rfl) (hname:(fn.name == "runtime.NumGoroutine")=false:=by kernel_rfl) (hl:Nat.ble args.length N=true:=by exact rfl) :
 ∀ r,md=some r->FnOk P f args mi (res r) (mo r):=by
 intro r hr;refine⟨⟨fn,hf,hname,by rw[hb];rfl⟩,λw S0 γ vs h1 h2 h3 h4 h5 h6 h7=>?_⟩;refine callsIn_wide.1 (callsIn_of_wp_marks (n:=1) hf hb trivial (wpIn_wide.2 (h w S0 γ h2 r _ w γ hr ?_)));have hvl:vs.size=args.length:=by
  have:∀(l:List Ly) (vs:List Value),Ly.vals w (Sx S0 γ mi) γ l vs->vs.length=l.length:=by
   intro l
   induction l with
   | nil=>intro vs h;simp only[Ly.vals] at h;simp[h]
   | cons x l ih=>intro vs h;simp only[Ly.vals] at h;obtain⟨v,r,rfl,_,h⟩:=h;simp[ih r h]
  simpa using this args vs.toList h6
 have hle:=yq hl
 exact { size:=by simp[hN,hvl];omega,defs:=rfl,s0:=h1,gx:=h7,keep:=Ng.refl _,os:=rfl,tape:=rfl,output:=rfl,grow:=ou _,old:=λ_ _ _=>rfl,fresh:=h2,cts:=h3,apart:=h4,
         mine:=λb hb=>⟨.inr hb,(h5 b hb).1,(h5 b hb).2⟩,
         sts:=λd ly hd=>by
          obtain⟨_,v,g1,g2⟩:=Qr3 0 h6 d ly hd;refine⟨v,?_,g2⟩;simp only[Nat.sub_zero,yr] at g1;show(vs++_)[d]?=_
          rw[Array.getElem?_append_left (by
           rcases xh d vs.size with h | h;exact h
           simp[ye h] at g1)]
          exact g1 }
abbrev iw(l:Nat):Fence:=Fence.wide.inRound l
def noDef(ls:List Oper):Bool:=ls.all λo=>match o.op with
 | .defer _=>false
 | _=>true
theorem Q2c{ls:List Oper}(h:noDef ls=true){o:Oper}(d:o∈ls):∀ c,o.op≠.defer c:=by intro c a;have:=ug.1 h o d;rw[a] at this;cases this
theorem rowsI{P:Program}{row:String}{args:Array Value}{w:World}{R:Value->World->Prop}{n l:Nat}(h:Rows P row args w R):RowsIn (iw l) n P row args w R:=λc cs _=>
 let ⟨v,w',r,s⟩:=h c cs
 ⟨v,w',r,stepsIn_wide.2 s⟩
theorem opwI{P:Program}{o:Oper}{a:Act}{w:World}{K:Act->World->Prop}{Q:Exit->Act->World->Prop}{l n:Nat}(hd:∀ c,o.op≠.defer c)(h:o.wp P a w K Q):o.wpIn (iw l) n P a w K Q:=by
 refine⟨λ_ _=>trivial,?_⟩;rw[show(iw l).round=some l from rfl,Oper.semAt_some l a.eval o hd];unfold Oper.wp at h;generalize (execOp a.eval o).run P w=res at h |-;cases res with
 | ok nx w'=>
   cases nx with
   | value v=>exact h
   | skip=>exact h
   | defer d=>exact h
   | enter f args=>exact⟨(λe=>by cases e),callsIn_wide.2 h⟩
   | row r args=>exact⟨(λe=>by cases e),rowsI h⟩
   | _=>exact h.elim
 | halt s w'=>cases s<;>first | exact h | exact h.elim
theorem wpListI{P:Program}{ops:Array Oper}{Q:Exit->Act->World->Prop}{l n:Nat}(d:∀ a w,¬ Q .outgrown a w):∀(ls:List Oper) (a:Act) (w:World),noDef ls=true->wpList P ops Q ls a w->wpListIn (iw l) n P ops Q ls a w
 | [],_,_,_,h=>h
 | o::ls,a,w,hd,h=>by have f:=Q2c hd (.head ls);have hr:noDef ls=true:=ug.2 λx g=>ug.1 hd x (.tail _ g);simp only[wpList] at h;simp only[wpListIn];split;rename_i e;rw[oj e] at h;rcases h with h | ⟨_,a',w',h⟩;exact opwI f (Oper.wp_mono (λa w h=>wpListI d ls a w hr h) h);exact(d a' w' h).elim;rename_i e;rw[oi e] at h;exact⟨λ_ _=>trivial,wpListI d ls _ w hr h⟩
theorem wpAnyI{P:Program}{ls:List Oper}{Q:Exit->Act->World->Prop}{l n:Nat}(d:∀ a w,¬ Q .outgrown a w)(hd:noDef ls=true):∀(fuel:Nat) (listed:Array Bool) (a:Act) (w:World),wpAny P .any ⟨ls⟩ Q fuel listed a w->wpAnyIn (iw l) n P .any ⟨ls⟩ Q fuel listed a w
 | 0,_,_,_,h=>h
 | fuel+1,listed,a,w,h=>by
   obtain⟨h0,g⟩:=h;refine⟨h0,λi hi=>?_⟩;have h:=g i hi;unfold wpOp at h;unfold wpOpIn;cases e:(⟨ls⟩:Array Oper)[i]? with
   | none=>rw[e] at h;exact wpAnyI d hd fuel _ a w h
   | some o=>
     rw[e] at h;have j:o∈ls:=by
      have:ls[i]?=some o:=by simpa using e
      exact gh this
     simp only[] at h |-;split;rename_i f;rw[oj f] at h;rcases h with h | ⟨_,a',w',h⟩;exact opwI (Q2c hd j) (Oper.wp_mono (λa w h=>wpAnyI d hd fuel _ a w h) h);exact(d a' w' h).elim;rename_i f;rw[oi f] at h;exact⟨λ_ _=>trivial,wpAnyI d hd fuel _ _ w h⟩
def RfQ{σ τ:Type}(F:Cx)(M:σ->List (Nat×Ct))(Mo:τ->List (Nat×Ct)):Lp σ τ->Exit->Act->World->Prop
 | .go s,e,a,w=>e=.normal/\∃ γ,Inv F (lk []) (lk (M s)) a w γ
 | .out t,e,a,w=>e=.ret/\∃ γ,Inv F (lk []) (lk (Mo t)) a w γ
theorem Jbx{σ τ:Type}{F:Cx}{M:σ->List (Nat×Ct)}{Mo:τ->List (Nat×Ct)}{o:Lp σ τ}{a:Act}{w:World}(h:RfQ F M Mo o .outgrown a w):False:=by
 cases o with
 | go s=>cases h.1
 | out t=>cases h.1
section
variable {R:Type}{X:Cx}{l:List (Nat×Ly)}{m:List (Nat×Ct)}{md:Option R}{Q:R->Exit->Act->World->Prop}{rl n:Nat}
theorem sskipI(h:Sq X l m md (λr=>Q r .normal)):Sq X l m md (λr=>Code.skip.wpIn (iw rl) n X.P (Q r)):=λr a w γ hr hi=>wpIn_skip (h r a w γ hr hi)
theorem sretI(h:Sq X l m md (λr=>Q r .ret)):Sq X l m md (λr=>Code.ret.wpIn (iw rl) n X.P (Q r)):=λr a w γ hr hi=>wpIn_ret (h r a w γ hr hi)
theorem sseqI{x y:Code}(h:Sq X l m md (λr=>x.wpIn (iw rl) n X.P (Exit.then (y.wpIn (iw rl) n X.P (Q r)) (Q r)))):Sq X l m md (λr=>(Code.seq x y).wpIn (iw rl) n X.P (Q r)):=
 λr a w γ hr hi=>wpIn_seq (h r a w γ hr hi)
theorem sblkI{id:Nat}{c:Code}(h:Sq X l m md (λr=>c.wpIn (iw rl) n X.P (Exit.inBlock id (Q r)))):Sq X l m md (λr=>(Code.block id c).wpIn (iw rl) n X.P (Q r)):=
 λr a w γ hr hi=>wpIn_block (h r a w γ hr hi)
theorem sregI{id:Nat}{ls:List Oper}(h:Sq X l m md (λr=>wpList X.P ⟨ls⟩ (Q r) ls))(d:∀ r a w,¬ Q r .outgrown a w:=by first | exact λ_ _ _ h=>h | exact λ_ _ _ h=>Jbx h)(hd:noDef ls=true:=by exact rfl):Sq X l m md (λr=>(Code.region id ⟨ls⟩ false).wpIn (iw rl) n X.P (Q r)):=
 λr a w γ hr hi=>wpIn_region_list (wpListI (d r) _ _ _ hd (h r a w γ hr hi))
theorem pnmI{y:Code}(h:Sq X l m md (λr=>y.wpIn (iw rl) n X.P (Q r))):Sq X l m md (λr=>Exit.then (y.wpIn (iw rl) n X.P (Q r)) (Q r) .normal):=h
theorem scondI{b:Bool}{c:Operand}{x y:Code}{e f:Option R}(j:OpdF (lk l) c (bl b))
 (g:Sq X l m e (λr=>x.wpIn (iw rl) n X.P (Q r))) (i:Sq X l m f (λr=>y.wpIn (iw rl) n X.P (Q r))):Sq X l m (bif b then e else f) (λr=>(Code.cond c x y).wpIn (iw rl) n X.P (Q r)):=by
 intro r a w γ hr hi;have d:=j.val hi;cases b with
 | true=>exact wpIn_cond_true d (g r a w γ hr hi)
 | false=>exact wpIn_cond_false d (i r a w γ hr hi)
theorem sdI{id:Nat}{ls:List Oper}(h:SqD X (λr=>(Code.region id ⟨ls⟩ true).wpIn (iw rl) n X.P (Q r)) ls l m md Q [] l m ls):Sq X l m md (λr=>(Code.region id ⟨ls⟩ true).wpIn (iw rl) n X.P (Q r)):=h [] rfl trivial rfl rfl
theorem deI{id:Nat}{d q s f}(hf:X.P.follows .mixedOrders=true)(k:Sq X l m md (λr=>Q r .normal))(g:drawOk d f 0 [] []=true:=by kernel_rfl)(p:∀ r a w,¬ Q r .outgrown a w:=by first | exact λ_ _ _ h=>h | exact λ_ _ _ h=>Jbx h)(hd:noDef d=true:=by exact rfl):
 SqD X (λr=>(Code.region id ⟨d⟩ true).wpIn (iw rl) n X.P (Q r)) d q s md Q f l m []:=by
 intro pre e hs i j;simp at e;subst e;intro r a w γ hr hi;refine wpIn_region_any hf (wpAnyI (p r) hd _ _ _ _ (sdrawA f g hs ?_ r a w γ hr hi));rw[i,j];exact k
end
def ItC(P:Program)(gf:Nat)(lb:Array Value)(N:Nat)(w:World):Prop:=
 ∀(l:Nat) (J:Nat->World->Prop) (Jx:World->Prop) (W:World),Below w.heap.size w W ->
  (∀ k a,k<N->J k a->YieldAt Fence.wide 0 P l #[.int .i64 ((N:Int) - 1 - k)] a λe W'=>(e=.returned (.bool true)/\J (k+1) W')\/(e=.returned (.bool false)/\Jx W')) ->
  J 0 W->CallsIn Fence.wide 1 P gf (#[.func (.yield l) #[] #[]]++lb) W λe W'=>(∃ v,e=.returned v)/\(J N W'\/Jx W')
def recL(fn:FuncId)(a:Act)(t:Nat)(assign body:Code)(D:Nat)(e:LoopState)(d:Option Code):Loop:={ state:=e,pending:=d,fn,tmps:=a.tmps,params:=#[t],assign,body,defers:=D }
theorem wp_rf{P:Program}{g:Operand}{t:Nat}{assign body:Code}{Q:Exit->Act->World->Prop}{a:Act}{w:World}{gf N:Nat}{lb:Array Value}(u:a.eval g=.func (.func gf) #[] lb)
 (s:∀ args w,(callFunc gf args).run P w=.ok (.enter gf args) w) (q:ItC P gf lb N w) (I:FuncId->Nat->World->Prop) (Ix:FuncId->World->Prop)
 (hI:∀ fn k W,I fn k W->W.heap[w.heap.size+1]?=some (.loop (recL fn a t assign body w.heap.size .ready none)))
 (h0:∀ fn,I fn 0 ((w.alloc (.deferred (some []))).alloc (.loop (recL fn a t assign body w.heap.size .ready none))))
 (hr:∀ fn k W,k<N->I fn k W->assign.wpIn (iw (w.heap.size+1)) 0 P (Exit.then (λa₁ w₁=>∃ w₂,(Instr.beginRound (w.heap.size+1)).run P w₁=.ok () w₂/\body.wpIn (iw (w.heap.size+1)) 0 P (roundPost P (w.heap.size+1) λe W'=>(e=.returned (.bool true)/\I fn (k+1) W')\/(e=.returned (.bool false)/\Ix fn W')) a₁ w₂) (λ_ _ _=>False))
  { tmps:=a.tmps.setIfInBounds t (.int .i64 ((N:Int) - 1 - k)),defers:=[] } W)
 (hd:∀ fn W,I fn N W->∃ d,(Instr.endLoop (w.heap.size+1)).run P W=.ok none d/\Q .normal { a with defers:={ target:=.collected w.heap.size,args:=#[] }::a.defers } d)
 (hs:∀ fn W,Ix fn W->∃ d,(Instr.endLoop (w.heap.size+1)).run P W=.ok (some .ret) d/\Q .ret { a with defers:={ target:=.collected w.heap.size,args:=#[] }::a.defers } d) :
 (Code.rangeFunc g #[t] assign body).wp P Q a w:=by
 refine wpIn_wide.1 (wpIn_rangeFunc (n:=2) ?_);intro fn _;obtain⟨i,f⟩:∃ i,(w.alloc (.deferred (some []))).alloc (.loop (recL fn a t assign body w.heap.size .ready none))=i:=⟨_,rfl⟩
 refine⟨w.heap.size+1,[{ target:=.collected w.heap.size,args:=#[] }],i,{ target:=.fn (.func gf) lb,args:=#[.func (.yield (w.heap.size+1)) #[] #[]] },i,gf,
  #[.func (.yield (w.heap.size+1)) #[] #[]]++lb,i,?_,?_,?_,?_,(λe=>by cases e),?_⟩
 rw[<-f];exact run_enterLoop_outer _ _ _ _ _;simp only[resolve,u];simp[go_sem];intro A _;trivial;simp[invoke,go_sem,s];refine(q (w.heap.size+1) (I fn) (Ix fn) i ?_ ?_ (by rw[<-f];exact h0 fn)).mono ?_;rw[<-f];exact((Below.refl _ w).alloc (ou _) _).alloc oc _;intro k W hk hi;have x:=hI fn k W hi;have y:(Instr.yield (w.heap.size+1) #[.int .i64 ((N:Int) - 1 - k)]).run P W=.ok (.round (w.heap.size+1) fn (a.tmps.setIfInBounds t (.int .i64 ((N:Int) - 1 - k))) assign body) W:=by
  rw[run_yield x rfl];simp[recL]
 exact⟨fn,_,assign,body,y,roundIn_of_wpIn trivial (hr fn k W hk hi)⟩;rintro e r ⟨⟨v,rfl⟩,hi | hi⟩;obtain⟨d,j,p⟩:=hd fn r hi;exact⟨none,d,j,p⟩;obtain⟨d,j,p⟩:=hs fn r hi;exact⟨some .ret,d,j,wpIn_ret p⟩
abbrev Fr(X:Cx)(w1:World)(γ1:Nm)(mm:Nat->Option Ct):Cx:=⟨X.P,X.N,w1,X.S0,Ow γ1 mm,γ1,[]⟩
theorem frI{X:Cx}{f e a w1 γ1}(hi:Inv X f e a w1 γ1):Inv (Fr X w1 γ1 e) f e { a with defers:=[] } w1 γ1 where
 size:=hi.size
 defs:=rfl
 s0:=λb d=>xj (hi.s0 b d) hi.grow
 gx:=hi.gw λb d=>d
 keep:=Ng.refl _
 os:=rfl
 tape:=rfl
 output:=rfl
 grow:=ou _
 old:=λ_ _ _=>rfl
 fresh:=hi.fresh
 cts:=hi.cts
 apart:=hi.apart
 mine:=λb d=>⟨.inr d,(hi.mine b d).2⟩
 sts:=hi.sts
theorem frB{X:Cx}{q i a w1 γ1 k g r w' γ'}(hi:Inv X q i a w1 γ1)(h:Inv (Fr X w1 γ1 i) k g r w' γ'):Inv X q g a w' γ':=
 have hmine:∀ b,Ow γ1 i b->X.w0.heap.size<=b\/X.M b:=λb e=>(hi.mine b e).1
 have t:∀ b,X.S γ' g b->X.S γ1 i b\/w1.heap.size<=b:=λb e=>by rcases e with e | e;exact .inl (.inl e);rcases(h.mine b e).1 with f | f;exact .inr f;exact .inl (.inr f)
 have hk:Kp (X.S γ1 i) w1 w':=⟨h.grow,λb e u=>h.old b e λj=>u (.inr j)⟩
 { size:=hi.size
   defs:=hi.defs
   s0:=hi.s0
   gx:=hi.gx
   keep:=λid v w=>h.keep id v (hi.keep id v w)
   os:=h.os.trans hi.os
   tape:=h.tape.trans hi.tape
   output:=h.output.trans hi.output
   grow:=xn hi.grow h.grow
   old:=λb e p=>(h.old b (xj e hi.grow) λj=>by
    rcases hmine b j with f | f;omega
    exact p f).trans (hi.old b e p)
   fresh:=h.fresh
   cts:=h.cts
   apart:=h.apart
   mine:=λb e=>⟨by
    rcases(h.mine b e).1 with f | f;exact .inl (xn hi.grow f)
    exact hmine b f,(h.mine b e).2⟩
   sts:=λd ly hd=>by
    obtain⟨v,f,s⟩:=hi.sts d ly hd
    exact⟨v,f,Ly.val_mono hk t h.keep _ _ s⟩ }
theorem Jit(w:World)(b:Nat)(o:Obj):Kp (λx=>x=b) w (w.putObj b o):=⟨by simp[World.putObj],λx _ a=>World.putObj_heap_other a⟩
theorem Inv.obj{X:Cx}{k f a w γ id o b}(h:Inv X k f a w γ)(d:f id=some (.ob o))(j:γ id=some (.pointer (some ⟨b,0,none⟩))):w.heap[b]?=some o:=by obtain⟨g,e,i⟩:=h.cts id _ d;rw[j] at e;cases e;exact i
theorem Inv.puto{X:Cx}{i g a w γ id o b}(h:Inv X i g a w γ)(d:g id=some (.ob o))(f:γ id=some (.pointer (some ⟨b,0,none⟩)))(e:Obj):Inv X i (up g [(id,.ob e)]) a (w.putObj b e) γ:=
 h.setc (w':=w.putObj b e) (ct:=.ob e) (b0:=b) rfl rfl rfl d rfl f rfl (Jit w b e) rfl ⟨b,f,World.putObj_heap_same (gb.1 (h.obj d f)).1⟩
theorem Inv.newo{X:Cx}{g e a w γ y}(h:Inv X g e a w γ)(d:e y=none)(o:Obj):Inv X g (up e [(y,.ob o)]) a (w.alloc o) (Inv.gset γ y (.pointer (some ⟨w.heap.size,0,none⟩))):=
 h.new (w':=w.alloc o) (ct:=.ob o) (v:=.pointer (some ⟨w.heap.size,0,none⟩)) rfl rfl rfl (Qdz _ w o) d rfl (λS γ' _ _ _ d=>⟨_,d,World.alloc_heap_new w o⟩) (λb f=>by simp[blkOf] at f;subst f;simp)
theorem up_hd(id:Nat)(c a:Ct)(m:List (Nat×Ct)):up (lk ((id,c)::m)) [(id,a)]=lk ((id,a)::m):=by
 funext i;rw[Vm];by_cases e:id=i;subst e;simp[lk];have:Nat.beq id i=false:=by cases d:Nat.beq id i;rfl;exact absurd (xm d) e
 simp[e,lk,this]
theorem up_tl(id:Nat)(c:Ct)(m:List (Nat×Ct)):up (lk m) [(id,c)]=lk ((id,c)::m):=by rw[up_lk];rfl
theorem sgoF{σ τ:Type}{X:Cx}{l:List (Nat×Ly)}{m:List (Nat×Ct)}{M:σ->List (Nat×Ct)}{Mo:τ->List (Nat×Ct)}{s:σ}(h:Ent X l m [] (M s)):Sq X l m (some (Lp.go s)) (λo=>RfQ X M Mo o .normal):=by intro o a w γ d hi;cases d;exact⟨rfl,h a w γ hi⟩
theorem soutF{σ τ:Type}{X:Cx}{l:List (Nat×Ly)}{m:List (Nat×Ct)}{M:σ->List (Nat×Ct)}{Mo:τ->List (Nat×Ct)}{t:τ}(h:Ent X l m [] (Mo t)):Sq X l m (some (Lp.out t)) (λo=>RfQ X M Mo o .ret):=by intro o a w γ d hi;cases d;exact⟨rfl,h a w γ hi⟩
abbrev Cx.mk'(X:Cx)(y D:Nat):Cx:=⟨X.P,X.N,X.w0,X.S0,X.M,Inv.gset X.g0 y (.pointer (some ⟨D,0,none⟩)),[⟨.collected D,#[]⟩]⟩
theorem Inv.mk'{X:Cx}{i g a w γ y D}(h:Inv X i g a w γ)(j:γ y=some (.pointer (some ⟨D,0,none⟩)))(f:X.df=[]):Inv (X.mk' y D) i g { a with defers:={ target:=.collected D,args:=#[] }::a.defers } w γ:=
 { size:=h.size
   defs:=by show _::a.defers=_;rw[h.defs,f]
   s0:=h.s0
   gx:=h.gx
   keep:=λid v d=>by by_cases e:y=id;subst e;simp[Inv.gset] at d;subst d;exact j;simp[Inv.gset,e] at d;exact h.keep id v d
   os:=h.os
   tape:=h.tape
   output:=h.output
   grow:=h.grow
   old:=h.old
   fresh:=h.fresh
   cts:=h.cts
   apart:=h.apart
   mine:=h.mine
   sts:=h.sts }
theorem lk_hd{α:Type}(i:Nat)(c:α)(m:List (Nat×α)):lk ((i,c)::m) i=some c:=by simp[lk]
theorem srf{R σ τ:Type}{X:Cx}{l:List (Nat×Ly)}{m:List (Nat×Ct)}{Q:R->Exit->Act->World->Prop}{f:Nat->σ->Option (Lp σ τ)}{s0:σ}{k:Lp σ τ->Option R}
 {g:Operand}{t I ra ty gf y E:Nat}{n:Int}{pos:String}{af:Array Edge}{body:Code}(A nd:Nat)
 (L:List (Nat×Ly)) (M:σ->List (Nat×Ct)) (Mo:τ->List (Nat×Ct)) (hg:OpdF (lk l) g (.clo gf [y])) (hy:lk m y=some (.bx E (i64 n)))
 (hit:-9223372036854775808<n->n<=9223372036854775807->∀ w b,w.heap[b]?=some (.cells #[.int .i64 n] E (0,0))->ItC X.P gf #[.pointer (some ⟨b,0,none⟩)] n.toNat w)
 (eg:∀ args w,(callFunc gf args).run X.P w=.ok (.enter gf args) w)
 (Y:X.df=[]) (ht:(Nat.blt t X.N && Nat.blt I X.N && nkey t L && nkey I L && !(Nat.beq t I) && !(Nat.beq A nd))=true)
 (hn:∀ s,lk (M s) A=none/\lk (M s) nd=none) (h0:Ent X l m L (M s0))
 (hb:∀(w1:World) (γ1:Nm) (ob H:Obj) (rl i:Nat) (s:σ),i<n.toNat->(∀ id,lk ((A,.ob ob)::(nd,.ob H)::M s) id=none->γ1 id=none) ->
  Sq (Fr X w1 γ1 (lk ((A,.ob ob)::(nd,.ob H)::M s))) ((I,i64 i)::L) ((A,.ob ob)::(nd,.ob H)::M s) (f i s) (λo=>body.wpIn (iw rl) 0 X.P (RfQ (Fr X w1 γ1 (lk ((A,.ob ob)::(nd,.ob H)::M s))) (λs=>(A,.ob ob)::(nd,.ob H)::M s) (λr=>(A,.ob ob)::(nd,.ob H)::Mo r) o)))
 (hJ:∀ D s,Sq (X.mk' nd D) L ((A,.gone)::(nd,.ob (.deferred (some [])))::M s) (k (.go s)) (λr=>Q r .normal))
 (hR:∀ D r,Sq (X.mk' nd D) L ((A,.gone)::(nd,.ob (.deferred (some [])))::Mo r) (k (.out r)) (λr=>Q r .ret)) :
 Sq X l m ((rangeN f n s0).bind k) (λr=>(Code.rangeFunc g #[t] (.region ra ⟨[⟨some I,.assign (.tmp t),ty,pos,af,none⟩]⟩ false) body).wp X.P (Q r)):=by
 simp only[ya,wn,Nat.blt_eq] at ht;obtain⟨⟨⟨⟨⟨ht1,ht2⟩,ht3⟩,ht4⟩,ht5⟩,Z⟩:=ht;have ht6':Nat.beq nd A=false:=by
  cases hb:Nat.beq nd A
  . rfl
  . rw[xm hb] at Z;simp at Z
 intro r a w γ hr hi;obtain⟨us,hgv,J⟩:=hg.val hi;obtain⟨b,cur,hyv,hyb,hyc⟩:=hi.cts y _ hy;have hus:us=[.pointer (some ⟨b,0,none⟩)]:=by
  rcases us with _ | ⟨u,_ | ⟨u2,us⟩⟩
  . exact J.elim
  . obtain⟨C,_,_⟩:=J
    rw[hyv] at C;cases C;rfl
  . exact J.2.2.elim
 subst hus;obtain⟨v,hc1,hc2,hnb⟩:∃ v,cur.toList=[v]/\v=.int .i64 n/\_:=hyc;subst hc2;have hcur:cur=#[.int .i64 n]:=by
  cases cur with
  | mk cl=>simp at hc1;rw[hc1]
 subst hcur;obtain⟨N,hN⟩:∃ N,n.toNat=N:=⟨_,rfl⟩
 have hn1:-9223372036854775808<n:=by
  by_cases h:-9223372036854775808<n
  . exact h
  . simp[rangeN,h] at hr
 have hr:(rangeD f N s0).bind k=some r:=by simpa [rangeN,hn1,hN] using hr
 have hNb:(N:Int)<=9223372036854775807:=by have:n<=9223372036854775807:=hnb.2;omega
 obtain⟨γ0,hi0⟩:=h0 a w γ hi;have hdn:∀ s,lk ((nd,Ct.ob (.deferred (some [])))::M s) A=none:=λs=>by simp[lk,ht6',(hn s).1]
 have hd0:a.defers=[]:=hi.defs.trans Y;obtain⟨j,x⟩:∃ j:FuncId->LoopState->Option Code->Loop,j=λfn st pe=>recL fn a t (.region ra ⟨[⟨some I,.assign (.tmp t),ty,pos,af,none⟩]⟩ false) body w.heap.size st pe:=⟨_,rfl⟩
 refine wp_rf (gf:=gf) (N:=N) hgv eg (hN ▸ hit hn1 hnb.2 w b hyb)
  (λfn c W=>∃ s γ,c<=N/\(rangeD f (N - c) s).bind k=some r/\Inv X (lk L) (lk ((A,.ob (.loop (j fn .ready none)))::(nd,.ob (.deferred (some [])))::M s)) a W γ/\γ A=some (.pointer (some ⟨w.heap.size+1,0,none⟩))/\γ nd=some (.pointer (some ⟨w.heap.size,0,none⟩)))
  (λfn W=>∃ q γ,k (.out q)=some r/\Inv X (lk L) (lk ((A,.ob (.loop (j fn .done (some .ret))))::(nd,.ob (.deferred (some [])))::Mo q)) a W γ/\γ A=some (.pointer (some ⟨w.heap.size+1,0,none⟩))/\γ nd=some (.pointer (some ⟨w.heap.size,0,none⟩)))
  ?hI ?h0 ?hr ?hd ?hs
 case hI=>
  rintro fn c W ⟨s,γ,_,_,hi,C,_⟩;have:=hi.obj (lk_hd _ _ _) C;rwa [x] at this
 case h0=>
  intro fn;have G:=hi0.newo (hn s0).2 (.deferred (some []));rw[up_tl] at G;have p:=G.newo (hdn s0) (.loop (j fn .ready none));rw[up_tl,World.size_alloc] at p;have hne:A≠nd:=λe=>by subst e;simp at Z
  refine⟨s0,_,xl _,hr,by rw[x] at p |-;exact p,by simp[Inv.gset],by simp[Inv.gset,hne]⟩
 case hr=>
  rintro fn c W hc ⟨s,γ,hle,hr,hi,C,h2⟩;obtain⟨d,hd⟩:∃ d,N - c=d+1:=⟨N - c - 1,om⟩
  have hdv:((N:Int) - 1 - c)=(d:Nat):=om
  rw[hdv];rw[hd] at hr;cases hf:f d s with
  | none=>simp[rangeD,hf] at hr
  | some o=>
    have hdi:Ly.val W (X.S γ (lk ((A,.ob (.loop (j fn .ready none)))::(nd,.ob (.deferred (some [])))::M s))) γ (i64 (d:Nat)) (.int .i64 (d:Nat)):=
     ⟨rfl,by show(-9223372036854775808:Int)<=_;omega,by show(d:Int)<=9223372036854775807;omega⟩
    have G:=hi.put (d:=t) ht1 hdi;rw[up_lk] at G;have p:=G.put (d:=I) ht2 hdi;rw[up_lk] at p
    have p:Inv X (lk ((I,i64 (d:Nat))::L)) (lk ((A,.ob (.loop (j fn .ready none)))::(nd,.ob (.deferred (some [])))::M s)) ((a.put (some t) (.int .i64 (d:Nat))).put (some I) (.int .i64 (d:Nat))) W γ:=
     { p with sts:=λi ly h=>p.sts i ly (by
      simp only[xd,xf,lk] at h |-;cases hb:Nat.beq I i
      . rw[hb] at h
        cases hb2:Nat.beq t i
        . exact h
        . rw[<-xm hb2,cond_false,Qq0 ht3] at h;cases h
      . rw[hb] at h;exact h) }
    have U:=hi.obj (lk_hd _ _ _) C;have hbr:=run_beginRound (P:=X.P) U (by rw[x];rfl);have B:=p.puto (lk_hd _ _ _) C (.loop { j fn .ready none with state:=.busy });have O:=hi.puto (lk_hd _ _ _) C (.loop { j fn .ready none with state:=.busy });rw[up_hd] at B O;have hbd:=hb _ γ (.loop { j fn .ready none with state:=.busy }) (.deferred (some [])) (w.heap.size+1) d s om B.fresh o _ _ γ hf (frI B);have hact:({ tmps:=a.tmps.setIfInBounds t (.int .i64 (d:Nat)),defers:=[] }:Act)=a.put (some t) (.int .i64 (d:Nat)):=by
     simp[Act.put,hd0]
    rw[hact];refine wpIn_region_list (wpListI (λa w h=>h) _ _ _ rfl (wpList_plain rfl λK hK=>?_));have hrun:(execOp (a.put (some t) (.int .i64 (d:Nat))).eval ⟨some I,.assign (.tmp t),ty,pos,af,none⟩).run X.P W=.ok (.value (.int .i64 (d:Nat))) W:=by obtain⟨v,hv1,hv2⟩:=G.sts t (i64 (d:Nat)) (by simp[lk]);have hv2':v=.int .i64 (d:Nat):=hv2.1;subst hv2';simp[execOp,Act.eval,hv1,pure]
    unfold Oper.wp;rw[hrun];refine hK _ _ ⟨_,hbr,?_⟩;have hact2:({ tmps:=((a.put (some t) (.int .i64 (d:Nat))).put (some I) (.int .i64 (d:Nat))).tmps,defers:=[] }:Act)=(a.put (some t) (.int .i64 (d:Nat))).put (some I) (.int .i64 (d:Nat)):=by simp[Act.put,hd0]
    rw[hact2] at hbd;refine wpIn_mono hbd ?_;intro e a' W' hq;cases o with
    | go s'=>
      obtain⟨rfl,γ',F⟩:=hq;have S:=frB O F;have k1:=F.keep A _ C;have k2:=F.keep nd _ h2;have V:=S.obj (lk_hd _ _ _) k1;have T:=S.puto (lk_hd _ _ _) k1 (.loop (j fn .ready none));rw[up_hd] at T;refine⟨_,W'.putObj (w.heap.size+1) (.loop (j fn .ready none)),?_,.inl ⟨rfl,s',γ',om,?_,T,k1,k2⟩⟩
      . have:=run_endRound (P:=X.P) none V
        rw[x] at this |-;exact this
      . have:N - (c+1)=d:=om
        rw[this];simpa [rangeD,hf] using hr
    | out q=>
      obtain⟨rfl,γ',F⟩:=hq;have S:=frB O F;have k1:=F.keep A _ C;have k2:=F.keep nd _ h2;have V:=S.obj (lk_hd _ _ _) k1;have T:=S.puto (lk_hd _ _ _) k1 (.loop (j fn .done (some .ret)));rw[up_hd] at T;refine⟨_,W'.putObj (w.heap.size+1) (.loop (j fn .done (some .ret))),?_,.inr ⟨rfl,q,γ',by simpa [rangeD,hf] using hr,T,k1,k2⟩⟩;have:=run_endRound (P:=X.P) (some .ret) V;rw[x] at this |-;exact this
 case hd=>
  rintro fn W ⟨s,γ,_,hr,hi,C,h2⟩;rw[gt] at hr;have U:=hi.obj (lk_hd _ _ _) C;have p:=hi.puto (lk_hd _ _ _) C (.loop { j fn .ready none with state:=.exhausted });rw[up_hd] at p;have B:=p.drop A;rw[up_hd] at B;refine⟨W.putObj (w.heap.size+1) (.loop { j fn .ready none with state:=.exhausted }),?_,hJ _ s r _ _ γ hr (B.mk' h2 Y)⟩
  . have:=run_endLoop (P:=X.P) U (by rw[x];exact λe=>by cases e)
    rw[x] at this |-;exact this
 case hs=>
  rintro fn W ⟨q,γ,hr,hi,C,h2⟩;have U:=hi.obj (lk_hd _ _ _) C;have p:=hi.puto (lk_hd _ _ _) C (.loop { j fn .done (some .ret) with state:=.exhausted });rw[up_hd] at p;have B:=p.drop A;rw[up_hd] at B;refine⟨W.putObj (w.heap.size+1) (.loop { j fn .done (some .ret) with state:=.exhausted }),?_,hR _ q r _ _ γ hr (B.mk' h2 Y)⟩
  . have:=run_endLoop (P:=X.P) U (by rw[x];exact λe=>by cases e)
    rw[x] at this |-;exact this
theorem rtB{R:Type}{X:Cx}{l m}{md:Option R}{P:Program}{fn:Func}{Rr:R->Ending->World->Prop}{n:Nat}{e:Exit}(h:Sq X l m md (λr=>bodyPost P fn (Rr r) e)):Sq X l m md (λr=>bodyPostM Fence.wide n P fn (Rr r) e):=
 λr a w γ hr hi=>bpM (h r a w γ hr hi)
theorem rtM{R:Type}{X:Cx}{l m}{md:Option R}{P:Program}{fn:Func}{Rr:R->Ending->World->Prop}{n nd D:Nat}(k:lk m nd=some (.ob (.deferred (some []))))(q:X.g0 nd=none)(g:X.df=[])
 (h:Sq X l ((nd,.ob (.deferred none))::m) md (λr=>bodyPost P fn (Rr r) .ret)):Sq (X.mk' nd D) l m md (λr=>bodyPostM Fence.wide n P fn (Rr r) .ret):=by
 intro r a w γ hr hi;have f:γ nd=some (.pointer (some ⟨D,0,none⟩)):=hi.keep nd _ (by simp[Inv.gset]);have j:=hi.obj k f;have d:=hi.puto k f (.deferred none);rw[up_tl] at d
 have i:Inv X (lk l) (lk ((nd,.ob (.deferred none))::m)) { a with defers:=[] } (w.putObj D (.deferred none)) γ:=
  { size:=d.size
    defs:=g.symm
    s0:=d.s0
    gx:=d.gx
    keep:=λid v f=>d.keep id v (by
     have:nd≠id:=λe=>by subst e;rw[q] at f;cases f
     simp[Inv.gset,this,f])
    os:=d.os
    tape:=d.tape
    output:=d.output
    grow:=d.grow
    old:=d.old
    fresh:=d.fresh
    cts:=d.cts
    apart:=d.apart
    mine:=d.mine
    sts:=d.sts }
 obtain⟨_,p⟩:=h r _ _ γ hr i;show LeavesInM _ _ _ _ _ _ a.defers .returning w;have hd:a.defers=[⟨.collected D,#[]⟩]:=hi.defs;rw[hd];exact⟨(λe=>by cases e),.inl ⟨D,_,rfl,run_takeDeferred j,p⟩⟩
theorem srfK{R σ τ:Type}{X:Cx}{l:List (Nat×Ly)}{m:List (Nat×Ct)}{Q:R->Exit->Act->World->Prop}{f:Nat->σ->Option (Lp σ τ)}{s0:σ}{p:σ->Option R}{q:τ->Option R}
 {g:Operand}{t e H ty gf y E:Nat}{n:Int}{pos:String}{af:Array Edge}{body:Code}(d nd:Nat)
 (L:List (Nat×Ly)) (M:σ->List (Nat×Ct)) (Mo:τ->List (Nat×Ct)) (B:OpdF (lk l) g (.clo gf [y])) (G:lk m y=some (.bx E (i64 n)))
 (k:∀ n:Int,-9223372036854775808<n->n<=9223372036854775807->∀ w b,w.heap[b]?=some (.cells #[.int .i64 n] E (0,0))->ItC X.P gf #[.pointer (some ⟨b,0,none⟩)] n.toNat w)
 (u:∀ args w,(callFunc gf args).run X.P w=.ok (.enter gf args) w)
 (j:X.df=[]) (F:(Nat.blt t X.N && Nat.blt e X.N && nkey t L && nkey e L && !(Nat.beq t e) && !(Nat.beq d nd))=true)
 (C:∀ s,lk (M s) d=none/\lk (M s) nd=none) (h0:Ent X l m L (M s0))
 (A:∀(w1:World) (γ1:Nm) (ob a:Obj) (rl i:Nat) (s:σ),i<n.toNat->(∀ id,lk ((d,.ob ob)::(nd,.ob a)::M s) id=none->γ1 id=none) ->
  Sq (Fr X w1 γ1 (lk ((d,.ob ob)::(nd,.ob a)::M s))) ((e,i64 i)::L) ((d,.ob ob)::(nd,.ob a)::M s) (f i s) (λo=>body.wpIn (iw rl) 0 X.P (RfQ (Fr X w1 γ1 (lk ((d,.ob ob)::(nd,.ob a)::M s))) (λs=>(d,.ob ob)::(nd,.ob a)::M s) (λr=>(d,.ob ob)::(nd,.ob a)::Mo r) o)))
 (v:∀ D s,Sq (X.mk' nd D) L ((d,.gone)::(nd,.ob (.deferred (some [])))::M s) (p s) (λr=>Q r .normal))
 (x:∀ D r,Sq (X.mk' nd D) L ((d,.gone)::(nd,.ob (.deferred (some [])))::Mo r) (q r) (λr=>Q r .ret)) :
 Sq X l m ((rangeN f n s0).bind (rfK p q)) (λr=>(Code.rangeFunc g #[t] (.region H ⟨[⟨some e,.assign (.tmp t),ty,pos,af,none⟩]⟩ false) body).wp X.P (Q r)):=
 srf d nd L M Mo B G (k n) u j F C h0 A v x
theorem fsM{P:Program}{f N:Nat}{fn:Func}{c:Code}{args:List Ly}{mi:List (Nat×Ct)}{R:Type}{res:R->Ly}{mo:R->List (Nat×Ct)}{md:Option R}
 (hf:P.funcs[f]?=some fn) (h:∀ w S0 γ,(∀ id,lk mi id=none->γ id=none)->Sq ⟨P,N,w,S0,Ow γ (lk mi),γ,[]⟩ (argl 0 args) mi md (λr=>c.wp P (bodyPostM Fence.wide 1 P fn (RetP w S0 γ mi (res r) (mo r)))))
 (hb:fn.body=some c:=by exact rfl) (hN:fn.ntmps=N:=by exact rfl) (hname:(fn.name == "runtime.NumGoroutine")=false:=by kernel_rfl) (hl:Nat.ble args.length N=true:=by exact rfl) :
 ∀ r,md=some r->FnOk P f args mi (res r) (mo r):=fnM hf h hb hN hname hl
theorem callIt{X:Cx}{i:Nat->Option Ly}{e:Nat->Option Ct}{d f g y E ty:Nat}{a:Operand}{n:Int}{argTypes:Array TypeId}{pos:String}{af:Array Edge}(hf:∀ x,FnOk X.P f [i64 x] [] (.clo g [50]) [(50,.bx E (i64 x))])(k:e y=none)(j:OpdF i a (i64 n))(hd:Nat.blt d X.N=true):
 OpOk X i e ⟨some d,.call { callee:=.value (.func f),args:=⟨[a]⟩,argTypes:=argTypes },ty,pos,af,none⟩ [(d,.clo g [y])] [(y,.bx E (i64 n))]:=
 callG [] [(y,50)] [(y,50)] (hf n) ⟨⟨_,j,rn_id K0⟩,trivial⟩ (λ_ _ h=>by cases h) trivial rfl ⟨k,trivial⟩ ⟨.inl (lk_hd _ _ _),trivial⟩ rfl ⟨.inl ⟨_,_,lk_hd _ _ _,lk_hd _ _ _,rc_bx (rn_id K0)⟩,trivial⟩ trivial ⟨⟨_,lk_hd _ _ _⟩,trivial⟩
  (Qn2 (by simp[lk])) hd
end Go.Proofs.YteejhjpdcefgfaaGreatDoor
