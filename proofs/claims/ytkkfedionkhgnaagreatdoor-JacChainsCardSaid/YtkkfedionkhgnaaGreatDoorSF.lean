import Derived.RangeFuncWrites
import Derived.TacticsIn
import Derived.OrdersIn
import Derived.Test.YtkkfedionkhgnaaGreatDoorSC
namespace Go.Proofs.YtkkfedionkhgnaaGreatDoor
open Go Go.RowKit
theorem bpM{P:Program}{fn:Func}{R:Ending->World->Prop}{n:Nat}:∀ {e:Exit}{a:Act}{w:World},bodyPost P fn R e a w->bodyPostM Fence.wide n P fn R e a w
 | .normal,a,w,h=>by obtain⟨h1,h2⟩:=h;show LeavesInM _ _ _ _ _ _ a.defers .returning w;rw[h1];exact h2
 | .ret,a,w,h=>by obtain⟨h1,h2⟩:=h;show LeavesInM _ _ _ _ _ _ a.defers .returning w;rw[h1];exact h2
 | .panic ch,a,w,h=>by obtain⟨h1,h2⟩:=h;show LeavesInM _ _ _ _ _ _ a.defers (.panicking ch) w;rw[h1];exact h2
 | .outgrown,_,_,h=>h
 | .exit _,_,_,h=>h
 | .goto _,_,_,h=>h
theorem fnM{P:Program}{f N:Nat}{fn:Func}{c:Code}{args:List Ly}{mi:List (Nat×Ct)}{R:Type}{res:R->Ly}{mo:R->List (Nat×Ct)}{md:Option R}
 (hf:P.funcs[f]?=some fn) (h:∀ w S0 γ,(∀ id,lk mi id=none->γ id=none)->Sq ⟨P,N,w,S0,Ow γ (lk mi),γ,[]⟩ (argl 0 args) mi md (λr=>c.wp P (bodyPostM Fence.wide 1 P fn (RetP w S0 γ mi (res r) (mo r)))))
 (hb:fn.body=some c:=by exact rfl) (hN:fn.ntmps=N:=by exact rfl) (hname:(fn.name == "runtime.NumGoroutine")=false:=by kernel_rfl) (hl:Nat.ble args.length N=true:=by exact rfl) :
 ∀ r,md=some r->FnOk P f args mi (res r) (mo r):=by
 intro r hr;refine⟨⟨fn,hf,hname,by rw[hb];rfl⟩,λw S0 γ vs h1 h2 h3 h4 h5 h6 h7=>?_⟩;refine callsIn_wide.1 (callsIn_of_wp_marks (n:=1) hf hb trivial (wpIn_wide.2 (h w S0 γ h2 r _ w γ hr ?_)));have hvl:vs.size=args.length:=by
  have:∀(l:List Ly) (vs:List Value),Ly.vals w (Sx S0 γ mi) γ l vs->vs.length=l.length:=by
   intro l
   induction l with
   | nil=>intro vs h;simp only[Ly.vals] at h;simp[h]
   | cons x l ih=>intro vs h;simp only[Ly.vals] at h;obtain⟨v,r,rfl,_,h⟩:=h;simp[ih r h]
  simpa using this args vs.toList h6
 have hle:=Nat.le_of_ble_eq_true hl
 exact { size:=by simp[hN,hvl];omega,defs:=rfl,s0:=h1,gx:=h7,keep:=Ng.refl _,os:=rfl,tape:=rfl,output:=rfl,grow:=Nat.le_refl _,old:=λ_ _ _=>rfl,fresh:=h2,cts:=h3,apart:=h4,
         mine:=λb hb=>⟨.inr hb,(h5 b hb).1,(h5 b hb).2⟩,
         sts:=λd ly hd=>by
          obtain⟨_,v,g1,g2⟩:=Qr8 0 h6 d ly hd;refine⟨v,?_,g2⟩;simp only[Nat.sub_zero,Array.getElem?_toList] at g1;show(vs++_)[d]?=_
          rw[Array.getElem?_append_left (by
           rcases Nat.lt_or_ge d vs.size with h | h;exact h
           simp[Array.getElem?_eq_none h] at g1)]
          exact g1 }
abbrev iw(l:Nat):Fence:=Fence.wide.inRound l
def noDef(ls:List Oper):Bool:=ls.all λo=>match o.op with
 | .defer _=>false
 | _=>true
theorem Qv4{ls:List Oper}(h:noDef ls=true){o:Oper}(ho:o∈ls):∀ c,o.op≠.defer c:=by intro c hc;have:=List.all_eq_true.1 h o ho;rw[hc] at this;cases this
theorem rowsI{P:Program}{row:String}{args:Array Value}{w:World}{R:Value->World->Prop}{n l:Nat}(h:Rows P row args w R):RowsIn (iw l) n P row args w R:=λc cs _=>
 let ⟨v,w',r,s⟩:=h c cs
 ⟨v,w',r,stepsIn_wide.2 s⟩
theorem opwI{P:Program}{o:Oper}{a:Act}{w:World}{K:Act->World->Prop}{Q:Exit->Act->World->Prop}{l n:Nat}(hd:∀ c,o.op≠.defer c)(h:o.wp P a w K Q):o.wpIn (iw l) n P a w K Q:=by
 refine⟨λ_ _=>trivial,?_⟩;rw[show(iw l).round=some l from rfl,Oper.semAt_some l a.eval o hd];unfold Oper.wp at h;generalize (execOp a.eval o).run P w=res at h ⊢;cases res with
 | ok nx w'=>
   cases nx with
   | value v=>exact h
   | skip=>exact h
   | defer d=>exact h
   | enter f args=>exact⟨(λe=>by cases e),callsIn_wide.2 h⟩
   | row r args=>exact⟨(λe=>by cases e),rowsI h⟩
   | _=>exact h.elim
 | halt s w'=>cases s<;>first | exact h | exact h.elim
theorem wpListI{P:Program}{ops:Array Oper}{Q:Exit->Act->World->Prop}{l n:Nat}(hq:∀ a w,¬ Q .outgrown a w):∀(ls:List Oper) (a:Act) (w:World),noDef ls=true->wpList P ops Q ls a w->wpListIn (iw l) n P ops Q ls a w
 | [],_,_,_,h=>h
 | o::ls,a,w,hd,h=>by have ho:=Qv4 hd (.head ls);have hr:noDef ls=true:=List.all_eq_true.2 λx hx=>List.all_eq_true.1 hd x (.tail _ hx);simp only[wpList] at h;simp only[wpListIn];split;rename_i hw;rw[if_pos hw] at h;rcases h with h | ⟨_,a',w',h⟩;exact opwI ho (Oper.wp_mono (λa w h=>wpListI hq ls a w hr h) h);exact(hq a' w' h).elim;rename_i hw;rw[if_neg hw] at h;exact⟨λ_ _=>trivial,wpListI hq ls _ w hr h⟩
theorem wpAnyI{P:Program}{ls:List Oper}{Q:Exit->Act->World->Prop}{l n:Nat}(hq:∀ a w,¬ Q .outgrown a w)(hd:noDef ls=true):∀(fuel:Nat) (listed:Array Bool) (a:Act) (w:World),wpAny P .any ⟨ls⟩ Q fuel listed a w->wpAnyIn (iw l) n P .any ⟨ls⟩ Q fuel listed a w
 | 0,_,_,_,h=>h
 | fuel+1,listed,a,w,h=>by
   obtain⟨h0,h1⟩:=h;refine⟨h0,λi hi=>?_⟩;have h:=h1 i hi;unfold wpOp at h;unfold wpOpIn;cases ho:(⟨ls⟩:Array Oper)[i]? with
   | none=>rw[ho] at h;exact wpAnyI hq hd fuel _ a w h
   | some o=>
     rw[ho] at h;have hm:o∈ls:=by
      have:ls[i]?=some o:=by simpa using ho
      exact List.mem_of_getElem? this
     simp only[] at h ⊢;split;rename_i hw;rw[if_pos hw] at h;rcases h with h | ⟨_,a',w',h⟩;exact opwI (Qv4 hd hm) (Oper.wp_mono (λa w h=>wpAnyI hq hd fuel _ a w h) h);exact(hq a' w' h).elim;rename_i hw;rw[if_neg hw] at h;exact⟨λ_ _=>trivial,wpAnyI hq hd fuel _ _ w h⟩
def RfQ{σ τ:Type}(F:Cx)(M:σ->List (Nat×Ct))(Mo:τ->List (Nat×Ct)):Lp σ τ->Exit->Act->World->Prop
 | .go s,e,a,w=>e=.normal∧∃ γ,Inv F (lk []) (lk (M s)) a w γ
 | .out t,e,a,w=>e=.ret∧∃ γ,Inv F (lk []) (lk (Mo t)) a w γ
theorem Q2b{σ τ:Type}{F:Cx}{M:σ->List (Nat×Ct)}{Mo:τ->List (Nat×Ct)}{o:Lp σ τ}{a:Act}{w:World}(h:RfQ F M Mo o .outgrown a w):False:=by
 cases o with
 | go s=>cases h.1
 | out t=>cases h.1
section
variable {R:Type}{X:Cx}{l:List (Nat×Ly)}{m:List (Nat×Ct)}{md:Option R}{Q:R->Exit->Act->World->Prop}{rl n:Nat}
theorem sskipI(h:Sq X l m md (λr=>Q r .normal)):Sq X l m md (λr=>Code.skip.wpIn (iw rl) n X.P (Q r)):=λr a w γ hr hi=>wpIn_skip (h r a w γ hr hi)
theorem sretI(h:Sq X l m md (λr=>Q r .ret)):Sq X l m md (λr=>Code.ret.wpIn (iw rl) n X.P (Q r)):=λr a w γ hr hi=>wpIn_ret (h r a w γ hr hi)
theorem sseqI{x y:Code}(h:Sq X l m md (λr=>x.wpIn (iw rl) n X.P (Exit.then (y.wpIn (iw rl) n X.P (Q r)) (Q r)))):Sq X l m md (λr=>(Code.seq x y).wpIn (iw rl) n X.P (Q r)):=
 λr a w γ hr hi=>wpIn_seq (h r a w γ hr hi)
theorem sblkI{id:Nat}{c:Code}(h:Sq X l m md (λr=>c.wpIn (iw rl) n X.P (Exit.inBlock id (Q r)))):Sq X l m md (λr=>(Code.block id c).wpIn (iw rl) n X.P (Q r)):=
 λr a w γ hr hi=>wpIn_block (h r a w γ hr hi)
theorem sregI{id:Nat}{ls:List Oper}(h:Sq X l m md (λr=>wpList X.P ⟨ls⟩ (Q r) ls))(hq:∀ r a w,¬ Q r .outgrown a w:=by first | exact λ_ _ _ h=>h | exact λ_ _ _ h=>Q2b h)(hd:noDef ls=true:=by exact rfl):Sq X l m md (λr=>(Code.region id ⟨ls⟩ false).wpIn (iw rl) n X.P (Q r)):=
 λr a w γ hr hi=>wpIn_region_list (wpListI (hq r) _ _ _ hd (h r a w γ hr hi))
theorem pnmI{y:Code}(h:Sq X l m md (λr=>y.wpIn (iw rl) n X.P (Q r))):Sq X l m md (λr=>Exit.then (y.wpIn (iw rl) n X.P (Q r)) (Q r) .normal):=h
theorem scondI{b:Bool}{c:Operand}{x y:Code}{m1 m2:Option R}(hc:OpdF (lk l) c (bl b))
 (h1:Sq X l m m1 (λr=>x.wpIn (iw rl) n X.P (Q r))) (h2:Sq X l m m2 (λr=>y.wpIn (iw rl) n X.P (Q r))):Sq X l m (bif b then m1 else m2) (λr=>(Code.cond c x y).wpIn (iw rl) n X.P (Q r)):=by
 intro r a w γ hr hi;have hv:=hc.val hi;cases b with
 | true=>exact wpIn_cond_true hv (h1 r a w γ hr hi)
 | false=>exact wpIn_cond_false hv (h2 r a w γ hr hi)
theorem sdI{id:Nat}{ls:List Oper}(h:SqD X (λr=>(Code.region id ⟨ls⟩ true).wpIn (iw rl) n X.P (Q r)) ls l m md Q [] l m ls):Sq X l m md (λr=>(Code.region id ⟨ls⟩ true).wpIn (iw rl) n X.P (Q r)):=h [] rfl trivial rfl rfl
theorem deI{id:Nat}{ls0 l0 m0 ds}(hf:X.P.follows .mixedOrders=true)(k:Sq X l m md (λr=>Q r .normal))(hD:drawOk ls0 ds 0 [] []=true:=by kernel_rfl)(hq:∀ r a w,¬ Q r .outgrown a w:=by first | exact λ_ _ _ h=>h | exact λ_ _ _ h=>Q2b h)(hd:noDef ls0=true:=by exact rfl):
 SqD X (λr=>(Code.region id ⟨ls0⟩ true).wpIn (iw rl) n X.P (Q r)) ls0 l0 m0 md Q ds l m []:=by
 intro pre e hs hl hm;simp at e;subst e;intro r a w γ hr hi;refine wpIn_region_any hf (wpAnyI (hq r) hd _ _ _ _ (sdrawA ds hD hs ?_ r a w γ hr hi));rw[hl,hm];exact k
end
def ItC(P:Program)(gf:Nat)(lb:Array Value)(N:Nat)(w:World):Prop:=
 ∀(l:Nat) (J:Nat->World->Prop) (Jx:World->Prop) (W:World),Below w.heap.size w W →
  (∀ k W1,k<N->J k W1->YieldAt Fence.wide 0 P l #[.int .i64 ((N:Int) - 1 - k)] W1 λe W'=>(e=.returned (.bool true)∧J (k+1) W')∨(e=.returned (.bool false)∧Jx W')) →
  J 0 W->CallsIn Fence.wide 1 P gf (#[.func (.yield l) #[] #[]]++lb) W λe W'=>(∃ v,e=.returned v)∧(J N W'∨Jx W')
def recL(fn:FuncId)(a:Act)(t:Nat)(assign body:Code)(D:Nat)(st:LoopState)(pe:Option Code):Loop:={ state:=st,pending:=pe,fn,tmps:=a.tmps,params:=#[t],assign,body,defers:=D }
theorem wp_rf{P:Program}{g:Operand}{t:Nat}{assign body:Code}{Q:Exit->Act->World->Prop}{a:Act}{w:World}{gf N:Nat}{lb:Array Value}(hg:a.eval g=.func (.func gf) #[] lb)
 (eg:∀ args w,(callFunc gf args).run P w=.ok (.enter gf args) w) (hit:ItC P gf lb N w) (I:FuncId->Nat->World->Prop) (Ix:FuncId->World->Prop)
 (hI:∀ fn k W,I fn k W->W.heap[w.heap.size+1]?=some (.loop (recL fn a t assign body w.heap.size .ready none)))
 (h0:∀ fn,I fn 0 ((w.alloc (.deferred (some []))).alloc (.loop (recL fn a t assign body w.heap.size .ready none))))
 (hr:∀ fn k W,k<N->I fn k W->assign.wpIn (iw (w.heap.size+1)) 0 P (Exit.then (λa₁ w₁=>∃ w₂,(Instr.beginRound (w.heap.size+1)).run P w₁=.ok () w₂∧body.wpIn (iw (w.heap.size+1)) 0 P (roundPost P (w.heap.size+1) λe W'=>(e=.returned (.bool true)∧I fn (k+1) W')∨(e=.returned (.bool false)∧Ix fn W')) a₁ w₂) (λ_ _ _=>False))
  { tmps:=a.tmps.setIfInBounds t (.int .i64 ((N:Int) - 1 - k)),defers:=[] } W)
 (hd:∀ fn W,I fn N W->∃ W4,(Instr.endLoop (w.heap.size+1)).run P W=.ok none W4∧Q .normal { a with defers:={ target:=.collected w.heap.size,args:=#[] }::a.defers } W4)
 (hs:∀ fn W,Ix fn W->∃ W4,(Instr.endLoop (w.heap.size+1)).run P W=.ok (some .ret) W4∧Q .ret { a with defers:={ target:=.collected w.heap.size,args:=#[] }::a.defers } W4) :
 (Code.rangeFunc g #[t] assign body).wp P Q a w:=by
 refine wpIn_wide.1 (wpIn_rangeFunc (n:=2) ?_);intro fn _;obtain⟨W1,hW1⟩:∃ W1,(w.alloc (.deferred (some []))).alloc (.loop (recL fn a t assign body w.heap.size .ready none))=W1:=⟨_,rfl⟩
 refine⟨w.heap.size+1,[{ target:=.collected w.heap.size,args:=#[] }],W1,{ target:=.fn (.func gf) lb,args:=#[.func (.yield (w.heap.size+1)) #[] #[]] },W1,gf,
  #[.func (.yield (w.heap.size+1)) #[] #[]]++lb,W1,?_,?_,?_,?_,(λe=>by cases e),?_⟩
 rw[←hW1];exact run_enterLoop_outer _ _ _ _ _;simp only[resolve,hg];simp[go_sem];intro f' _;trivial;simp[invoke,go_sem,eg];refine(hit (w.heap.size+1) (I fn) (Ix fn) W1 ?_ ?_ (by rw[←hW1];exact h0 fn)).mono ?_;rw[←hW1];exact((Below.refl _ w).alloc (Nat.le_refl _) _).alloc (by simp) _;intro k W hk hi;have hl:=hI fn k W hi;have hy:(Instr.yield (w.heap.size+1) #[.int .i64 ((N:Int) - 1 - k)]).run P W=.ok (.round (w.heap.size+1) fn (a.tmps.setIfInBounds t (.int .i64 ((N:Int) - 1 - k))) assign body) W:=by
  rw[run_yield hl rfl];simp[recL]
 exact⟨fn,_,assign,body,hy,roundIn_of_wpIn trivial (hr fn k W hk hi)⟩;rintro e W2 ⟨⟨v,rfl⟩,hi | hi⟩;obtain⟨W4,h1,h2⟩:=hd fn W2 hi;exact⟨none,W4,h1,h2⟩;obtain⟨W4,h1,h2⟩:=hs fn W2 hi;exact⟨some .ret,W4,h1,wpIn_ret h2⟩
abbrev Fr(X:Cx)(w1:World)(γ1:Nm)(mm:Nat->Option Ct):Cx:=⟨X.P,X.N,w1,X.S0,Ow γ1 mm,γ1,[]⟩
theorem frI{X:Cx}{st mm a w1 γ1}(hi:Inv X st mm a w1 γ1):Inv (Fr X w1 γ1 mm) st mm { a with defers:=[] } w1 γ1 where
 size:=hi.size
 defs:=rfl
 s0:=λb hb=>Nat.lt_of_lt_of_le (hi.s0 b hb) hi.grow
 gx:=hi.gw λb hb=>hb
 keep:=Ng.refl _
 os:=rfl
 tape:=rfl
 output:=rfl
 grow:=Nat.le_refl _
 old:=λ_ _ _=>rfl
 fresh:=hi.fresh
 cts:=hi.cts
 apart:=hi.apart
 mine:=λb hb=>⟨.inr hb,(hi.mine b hb).2⟩
 sts:=hi.sts
theorem frB{X:Cx}{st mm a w1 γ1 st' mm' a' w' γ'}(hi:Inv X st mm a w1 γ1)(h:Inv (Fr X w1 γ1 mm) st' mm' a' w' γ'):Inv X st mm' a w' γ':=
 have hmine:∀ b,Ow γ1 mm b->X.w0.heap.size≤b∨X.M b:=λb hb=>(hi.mine b hb).1
 have hS:∀ b,X.S γ' mm' b->X.S γ1 mm b∨w1.heap.size≤b:=λb hb=>by rcases hb with hb | hb;exact .inl (.inl hb);rcases(h.mine b hb).1 with h1 | h1;exact .inr h1;exact .inl (.inr h1)
 have hk:Kp (X.S γ1 mm) w1 w':=⟨h.grow,λb hb hn=>h.old b hb λho=>hn (.inr ho)⟩
 { size:=hi.size
   defs:=hi.defs
   s0:=hi.s0
   gx:=hi.gx
   keep:=λid v hv=>h.keep id v (hi.keep id v hv)
   os:=h.os.trans hi.os
   tape:=h.tape.trans hi.tape
   output:=h.output.trans hi.output
   grow:=Nat.le_trans hi.grow h.grow
   old:=λb hb hM=>(h.old b (Nat.lt_of_lt_of_le hb hi.grow) λho=>by
    rcases hmine b ho with h1 | h1;omega
    exact hM h1).trans (hi.old b hb hM)
   fresh:=h.fresh
   cts:=h.cts
   apart:=h.apart
   mine:=λb hb=>⟨by
    rcases(h.mine b hb).1 with h1 | h1;exact .inl (Nat.le_trans hi.grow h1)
    exact hmine b h1,(h.mine b hb).2⟩
   sts:=λd ly hd=>by
    obtain⟨v,h1,h2⟩:=hi.sts d ly hd
    exact⟨v,h1,Ly.val_mono hk hS h.keep _ _ h2⟩ }
theorem Q6n(w:World)(b:Nat)(o:Obj):Kp (λx=>x=b) w (w.putObj b o):=⟨by simp[World.putObj],λx _ hx=>World.putObj_heap_other hx⟩
theorem Inv.obj{X:Cx}{st mm a w γ id o b}(h:Inv X st mm a w γ)(hid:mm id=some (.ob o))(hv:γ id=some (.pointer (some ⟨b,0,none⟩))):w.heap[b]?=some o:=by obtain⟨g,h1,h2⟩:=h.cts id _ hid;rw[hv] at h1;cases h1;exact h2
theorem Inv.puto{X:Cx}{st mm a w γ id o b}(h:Inv X st mm a w γ)(hid:mm id=some (.ob o))(hv:γ id=some (.pointer (some ⟨b,0,none⟩)))(o':Obj):Inv X st (up mm [(id,.ob o')]) a (w.putObj b o') γ:=
 h.setc (w':=w.putObj b o') (ct:=.ob o') (b0:=b) rfl rfl rfl hid rfl hv rfl (Q6n w b o') rfl ⟨b,hv,World.putObj_heap_same (Array.getElem?_eq_some_iff.1 (h.obj hid hv)).1⟩
theorem Inv.newo{X:Cx}{st mm a w γ y}(h:Inv X st mm a w γ)(hy:mm y=none)(o:Obj):Inv X st (up mm [(y,.ob o)]) a (w.alloc o) (Inv.gset γ y (.pointer (some ⟨w.heap.size,0,none⟩))):=
 h.new (w':=w.alloc o) (ct:=.ob o) (v:=.pointer (some ⟨w.heap.size,0,none⟩)) rfl rfl rfl (Qci _ w o) hy rfl (λS γ' _ _ _ hy=>⟨_,hy,World.alloc_heap_new w o⟩) (λb hb=>by simp[blkOf] at hb;subst hb;simp)
theorem up_hd(id:Nat)(c c':Ct)(m:List (Nat×Ct)):up (lk ((id,c)::m)) [(id,c')]=lk ((id,c')::m):=by
 funext i;rw[Kc];by_cases e:id=i;subst e;simp[lk];have:Nat.beq id i=false:=by cases hb:Nat.beq id i;rfl;exact absurd (Nat.eq_of_beq_eq_true hb) e
 simp[e,lk,this]
theorem up_tl(id:Nat)(c:Ct)(m:List (Nat×Ct)):up (lk m) [(id,c)]=lk ((id,c)::m):=by rw[up_lk];rfl
theorem sgoF{σ τ:Type}{X:Cx}{l:List (Nat×Ly)}{m:List (Nat×Ct)}{M:σ->List (Nat×Ct)}{Mo:τ->List (Nat×Ct)}{s:σ}(h:Ent X l m [] (M s)):Sq X l m (some (Lp.go s)) (λo=>RfQ X M Mo o .normal):=by intro o a w γ ho hi;cases ho;exact⟨rfl,h a w γ hi⟩
theorem soutF{σ τ:Type}{X:Cx}{l:List (Nat×Ly)}{m:List (Nat×Ct)}{M:σ->List (Nat×Ct)}{Mo:τ->List (Nat×Ct)}{t:τ}(h:Ent X l m [] (Mo t)):Sq X l m (some (Lp.out t)) (λo=>RfQ X M Mo o .ret):=by intro o a w γ ho hi;cases ho;exact⟨rfl,h a w γ hi⟩
abbrev Cx.mk'(X:Cx)(y D:Nat):Cx:=⟨X.P,X.N,X.w0,X.S0,X.M,Inv.gset X.g0 y (.pointer (some ⟨D,0,none⟩)),[⟨.collected D,#[]⟩]⟩
theorem Inv.mk'{X:Cx}{st mm a w γ y D}(h:Inv X st mm a w γ)(hy:γ y=some (.pointer (some ⟨D,0,none⟩)))(hdf:X.df=[]):Inv (X.mk' y D) st mm { a with defers:={ target:=.collected D,args:=#[] }::a.defers } w γ:=
 { size:=h.size
   defs:=by show _::a.defers=_;rw[h.defs,hdf]
   s0:=h.s0
   gx:=h.gx
   keep:=λid v hv=>by by_cases e:y=id;subst e;simp[Inv.gset] at hv;subst hv;exact hy;simp[Inv.gset,e] at hv;exact h.keep id v hv
   os:=h.os
   tape:=h.tape
   output:=h.output
   grow:=h.grow
   old:=h.old
   fresh:=h.fresh
   cts:=h.cts
   apart:=h.apart
   mine:=h.mine
   sts:=h.sts }
theorem lk_hd{α:Type}(i:Nat)(c:α)(m:List (Nat×α)):lk ((i,c)::m) i=some c:=by simp[lk]
theorem srf{R σ τ:Type}{X:Cx}{l:List (Nat×Ly)}{m:List (Nat×Ct)}{Q:R->Exit->Act->World->Prop}{f:Nat->σ->Option (Lp σ τ)}{s0:σ}{k:Lp σ τ->Option R}
 {g:Operand}{t t8 ra ty gf y E:Nat}{n:Int}{pos:String}{af:Array Edge}{body:Code}(nr nd:Nat)
 (L:List (Nat×Ly)) (M:σ->List (Nat×Ct)) (Mo:τ->List (Nat×Ct)) (hg:OpdF (lk l) g (.clo gf [y])) (hy:lk m y=some (.bx E (i64 n)))
 (hit:-9223372036854775808<n->n≤9223372036854775807->∀ w b,w.heap[b]?=some (.cells #[.int .i64 n] E (0,0))->ItC X.P gf #[.pointer (some ⟨b,0,none⟩)] n.toNat w)
 (eg:∀ args w,(callFunc gf args).run X.P w=.ok (.enter gf args) w)
 (hdf:X.df=[]) (ht:(Nat.blt t X.N && Nat.blt t8 X.N && nkey t L && nkey t8 L && !(Nat.beq t t8) && !(Nat.beq nr nd))=true)
 (hn:∀ s,lk (M s) nr=none∧lk (M s) nd=none) (h0:Ent X l m L (M s0))
 (hb:∀(w1:World) (γ1:Nm) (ob ob':Obj) (rl i:Nat) (s:σ),i<n.toNat->(∀ id,lk ((nr,.ob ob)::(nd,.ob ob')::M s) id=none->γ1 id=none) →
  Sq (Fr X w1 γ1 (lk ((nr,.ob ob)::(nd,.ob ob')::M s))) ((t8,i64 i)::L) ((nr,.ob ob)::(nd,.ob ob')::M s) (f i s) (λo=>body.wpIn (iw rl) 0 X.P (RfQ (Fr X w1 γ1 (lk ((nr,.ob ob)::(nd,.ob ob')::M s))) (λs=>(nr,.ob ob)::(nd,.ob ob')::M s) (λr=>(nr,.ob ob)::(nd,.ob ob')::Mo r) o)))
 (hJ:∀ D s,Sq (X.mk' nd D) L ((nr,.gone)::(nd,.ob (.deferred (some [])))::M s) (k (.go s)) (λr=>Q r .normal))
 (hR:∀ D r,Sq (X.mk' nd D) L ((nr,.gone)::(nd,.ob (.deferred (some [])))::Mo r) (k (.out r)) (λr=>Q r .ret)) :
 Sq X l m ((rangeN f n s0).bind k) (λr=>(Code.rangeFunc g #[t] (.region ra ⟨[⟨some t8,.assign (.tmp t),ty,pos,af,none⟩]⟩ false) body).wp X.P (Q r)):=by
 simp only[Bool.and_eq_true,Bool.not_eq_true',Nat.blt_eq] at ht;obtain⟨⟨⟨⟨⟨ht1,ht2⟩,ht3⟩,ht4⟩,ht5⟩,ht6⟩:=ht;have ht6':Nat.beq nd nr=false:=by
  cases hb:Nat.beq nd nr
  . rfl
  . rw[Nat.eq_of_beq_eq_true hb] at ht6;simp at ht6
 intro r a w γ hr hi;obtain⟨us,hgv,hcap⟩:=hg.val hi;obtain⟨b,cur,hyv,hyb,hyc⟩:=hi.cts y _ hy;have hus:us=[.pointer (some ⟨b,0,none⟩)]:=by
  rcases us with _ | ⟨u,_ | ⟨u2,us⟩⟩
  . exact hcap.elim
  . obtain⟨h1,_,_⟩:=hcap
    rw[hyv] at h1;cases h1;rfl
  . exact hcap.2.2.elim
 subst hus;obtain⟨v,hc1,hc2,hnb⟩:∃ v,cur.toList=[v]∧v=.int .i64 n∧_:=hyc;subst hc2;have hcur:cur=#[.int .i64 n]:=by
  cases cur with
  | mk cl=>simp at hc1;rw[hc1]
 subst hcur;obtain⟨N,hN⟩:∃ N,n.toNat=N:=⟨_,rfl⟩
 have hn1:-9223372036854775808<n:=by
  by_cases h:-9223372036854775808<n
  . exact h
  . simp[rangeN,h] at hr
 have hr:(rangeD f N s0).bind k=some r:=by simpa [rangeN,hn1,hN] using hr
 have hNb:(N:Int)≤9223372036854775807:=by have:n≤9223372036854775807:=hnb.2;omega
 obtain⟨γ0,hi0⟩:=h0 a w γ hi;have hdn:∀ s,lk ((nd,Ct.ob (.deferred (some [])))::M s) nr=none:=λs=>by simp[lk,ht6',(hn s).1]
 have hd0:a.defers=[]:=hi.defs.trans hdf;obtain⟨rec,hrec⟩:∃ rec:FuncId->LoopState->Option Code->Loop,rec=λfn st pe=>recL fn a t (.region ra ⟨[⟨some t8,.assign (.tmp t),ty,pos,af,none⟩]⟩ false) body w.heap.size st pe:=⟨_,rfl⟩
 refine wp_rf (gf:=gf) (N:=N) hgv eg (hN ▸ hit hn1 hnb.2 w b hyb)
  (λfn c W=>∃ s γ,c≤N∧(rangeD f (N - c) s).bind k=some r∧Inv X (lk L) (lk ((nr,.ob (.loop (rec fn .ready none)))::(nd,.ob (.deferred (some [])))::M s)) a W γ∧γ nr=some (.pointer (some ⟨w.heap.size+1,0,none⟩))∧γ nd=some (.pointer (some ⟨w.heap.size,0,none⟩)))
  (λfn W=>∃ q γ,k (.out q)=some r∧Inv X (lk L) (lk ((nr,.ob (.loop (rec fn .done (some .ret))))::(nd,.ob (.deferred (some [])))::Mo q)) a W γ∧γ nr=some (.pointer (some ⟨w.heap.size+1,0,none⟩))∧γ nd=some (.pointer (some ⟨w.heap.size,0,none⟩)))
  ?hI ?h0 ?hr ?hd ?hs
 case hI=>
  rintro fn c W ⟨s,γ,_,_,hi,h1,_⟩;have:=hi.obj (lk_hd _ _ _) h1;rwa [hrec] at this
 case h0=>
  intro fn;have hi1:=hi0.newo (hn s0).2 (.deferred (some []));rw[up_tl] at hi1;have hi2:=hi1.newo (hdn s0) (.loop (rec fn .ready none));rw[up_tl,World.size_alloc] at hi2;have hne:nr≠nd:=λe=>by subst e;simp at ht6
  refine⟨s0,_,Nat.zero_le _,hr,by rw[hrec] at hi2 ⊢;exact hi2,by simp[Inv.gset],by simp[Inv.gset,hne]⟩
 case hr=>
  rintro fn c W hc ⟨s,γ,hle,hr,hi,h1,h2⟩;obtain⟨d,hd⟩:∃ d,N - c=d+1:=⟨N - c - 1,by omega⟩
  have hdv:((N:Int) - 1 - c)=(d:Nat):=by omega
  rw[hdv];rw[hd] at hr;cases hf:f d s with
  | none=>simp[rangeD,hf] at hr
  | some o=>
    have hdi:Ly.val W (X.S γ (lk ((nr,.ob (.loop (rec fn .ready none)))::(nd,.ob (.deferred (some [])))::M s))) γ (i64 (d:Nat)) (.int .i64 (d:Nat)):=
     ⟨rfl,by show(-9223372036854775808:Int)≤_;omega,by show(d:Int)≤9223372036854775807;omega⟩
    have hi1:=hi.put (d:=t) ht1 hdi;rw[up_lk] at hi1;have hi2:=hi1.put (d:=t8) ht2 hdi;rw[up_lk] at hi2
    have hi2:Inv X (lk ((t8,i64 (d:Nat))::L)) (lk ((nr,.ob (.loop (rec fn .ready none)))::(nd,.ob (.deferred (some [])))::M s)) ((a.put (some t) (.int .i64 (d:Nat))).put (some t8) (.int .i64 (d:Nat))) W γ:=
     { hi2 with sts:=λi ly h=>hi2.sts i ly (by
      simp only[List.cons_append,List.nil_append,lk] at h ⊢;cases hb:Nat.beq t8 i
      . rw[hb] at h
        cases hb2:Nat.beq t i
        . exact h
        . rw[←Nat.eq_of_beq_eq_true hb2,cond_false,Qng ht3] at h;cases h
      . rw[hb] at h;exact h) }
    have hob:=hi.obj (lk_hd _ _ _) h1;have hbr:=run_beginRound (P:=X.P) hob (by rw[hrec];rfl);have hi3:=hi2.puto (lk_hd _ _ _) h1 (.loop { rec fn .ready none with state:=.busy });have hi3b:=hi.puto (lk_hd _ _ _) h1 (.loop { rec fn .ready none with state:=.busy });rw[up_hd] at hi3 hi3b;have hbd:=hb _ γ (.loop { rec fn .ready none with state:=.busy }) (.deferred (some [])) (w.heap.size+1) d s (by omega) hi3.fresh o _ _ γ hf (frI hi3);have hact:({ tmps:=a.tmps.setIfInBounds t (.int .i64 (d:Nat)),defers:=[] }:Act)=a.put (some t) (.int .i64 (d:Nat)):=by
     simp[Act.put,hd0]
    rw[hact];refine wpIn_region_list (wpListI (λa w h=>h) _ _ _ rfl (wpList_plain rfl λK hK=>?_));have hrun:(execOp (a.put (some t) (.int .i64 (d:Nat))).eval ⟨some t8,.assign (.tmp t),ty,pos,af,none⟩).run X.P W=.ok (.value (.int .i64 (d:Nat))) W:=by obtain⟨v,hv1,hv2⟩:=hi1.sts t (i64 (d:Nat)) (by simp[lk]);have hv2':v=.int .i64 (d:Nat):=hv2.1;subst hv2';simp[execOp,Act.eval,hv1,pure]
    unfold Oper.wp;rw[hrun];refine hK _ _ ⟨_,hbr,?_⟩;have hact2:({ tmps:=((a.put (some t) (.int .i64 (d:Nat))).put (some t8) (.int .i64 (d:Nat))).tmps,defers:=[] }:Act)=(a.put (some t) (.int .i64 (d:Nat))).put (some t8) (.int .i64 (d:Nat)):=by simp[Act.put,hd0]
    rw[hact2] at hbd;refine wpIn_mono hbd ?_;intro e a' W' hq;cases o with
    | go s'=>
      obtain⟨rfl,γ',hi'⟩:=hq;have hi5:=frB hi3b hi';have k1:=hi'.keep nr _ h1;have k2:=hi'.keep nd _ h2;have hob':=hi5.obj (lk_hd _ _ _) k1;have hi6:=hi5.puto (lk_hd _ _ _) k1 (.loop (rec fn .ready none));rw[up_hd] at hi6;refine⟨_,W'.putObj (w.heap.size+1) (.loop (rec fn .ready none)),?_,.inl ⟨rfl,s',γ',by omega,?_,hi6,k1,k2⟩⟩
      . have:=run_endRound (P:=X.P) none hob'
        rw[hrec] at this ⊢;exact this
      . have:N - (c+1)=d:=by omega
        rw[this];simpa [rangeD,hf] using hr
    | out q=>
      obtain⟨rfl,γ',hi'⟩:=hq;have hi5:=frB hi3b hi';have k1:=hi'.keep nr _ h1;have k2:=hi'.keep nd _ h2;have hob':=hi5.obj (lk_hd _ _ _) k1;have hi6:=hi5.puto (lk_hd _ _ _) k1 (.loop (rec fn .done (some .ret)));rw[up_hd] at hi6;refine⟨_,W'.putObj (w.heap.size+1) (.loop (rec fn .done (some .ret))),?_,.inr ⟨rfl,q,γ',by simpa [rangeD,hf] using hr,hi6,k1,k2⟩⟩;have:=run_endRound (P:=X.P) (some .ret) hob';rw[hrec] at this ⊢;exact this
 case hd=>
  rintro fn W ⟨s,γ,_,hr,hi,h1,h2⟩;rw[Nat.sub_self] at hr;have hob:=hi.obj (lk_hd _ _ _) h1;have hi2:=hi.puto (lk_hd _ _ _) h1 (.loop { rec fn .ready none with state:=.exhausted });rw[up_hd] at hi2;have hi3:=hi2.drop nr;rw[up_hd] at hi3;refine⟨W.putObj (w.heap.size+1) (.loop { rec fn .ready none with state:=.exhausted }),?_,hJ _ s r _ _ γ hr (hi3.mk' h2 hdf)⟩
  . have:=run_endLoop (P:=X.P) hob (by rw[hrec];exact λe=>by cases e)
    rw[hrec] at this ⊢;exact this
 case hs=>
  rintro fn W ⟨q,γ,hr,hi,h1,h2⟩;have hob:=hi.obj (lk_hd _ _ _) h1;have hi2:=hi.puto (lk_hd _ _ _) h1 (.loop { rec fn .done (some .ret) with state:=.exhausted });rw[up_hd] at hi2;have hi3:=hi2.drop nr;rw[up_hd] at hi3;refine⟨W.putObj (w.heap.size+1) (.loop { rec fn .done (some .ret) with state:=.exhausted }),?_,hR _ q r _ _ γ hr (hi3.mk' h2 hdf)⟩
  . have:=run_endLoop (P:=X.P) hob (by rw[hrec];exact λe=>by cases e)
    rw[hrec] at this ⊢;exact this
theorem rtB{R:Type}{X:Cx}{l m}{md:Option R}{P:Program}{fn:Func}{Rr:R->Ending->World->Prop}{n:Nat}{e:Exit}(h:Sq X l m md (λr=>bodyPost P fn (Rr r) e)):Sq X l m md (λr=>bodyPostM Fence.wide n P fn (Rr r) e):=
 λr a w γ hr hi=>bpM (h r a w γ hr hi)
theorem rtM{R:Type}{X:Cx}{l m}{md:Option R}{P:Program}{fn:Func}{Rr:R->Ending->World->Prop}{n nd D:Nat}(hm:lk m nd=some (.ob (.deferred (some []))))(hg:X.g0 nd=none)(hdf:X.df=[])
 (h:Sq X l ((nd,.ob (.deferred none))::m) md (λr=>bodyPost P fn (Rr r) .ret)):Sq (X.mk' nd D) l m md (λr=>bodyPostM Fence.wide n P fn (Rr r) .ret):=by
 intro r a w γ hr hi;have hv:γ nd=some (.pointer (some ⟨D,0,none⟩)):=hi.keep nd _ (by simp[Inv.gset]);have hob:=hi.obj hm hv;have hi1:=hi.puto hm hv (.deferred none);rw[up_tl] at hi1
 have hi2:Inv X (lk l) (lk ((nd,.ob (.deferred none))::m)) { a with defers:=[] } (w.putObj D (.deferred none)) γ:=
  { size:=hi1.size
    defs:=hdf.symm
    s0:=hi1.s0
    gx:=hi1.gx
    keep:=λid v hv=>hi1.keep id v (by
     have:nd≠id:=λe=>by subst e;rw[hg] at hv;cases hv
     simp[Inv.gset,this,hv])
    os:=hi1.os
    tape:=hi1.tape
    output:=hi1.output
    grow:=hi1.grow
    old:=hi1.old
    fresh:=hi1.fresh
    cts:=hi1.cts
    apart:=hi1.apart
    mine:=hi1.mine
    sts:=hi1.sts }
 obtain⟨_,h2⟩:=h r _ _ γ hr hi2;show LeavesInM _ _ _ _ _ _ a.defers .returning w;have hd:a.defers=[⟨.collected D,#[]⟩]:=hi.defs;rw[hd];exact⟨(λe=>by cases e),.inl ⟨D,_,rfl,run_takeDeferred hob,h2⟩⟩
theorem srfK{R σ τ:Type}{X:Cx}{l:List (Nat×Ly)}{m:List (Nat×Ct)}{Q:R->Exit->Act->World->Prop}{f:Nat->σ->Option (Lp σ τ)}{s0:σ}{ka:σ->Option R}{kb:τ->Option R}
 {g:Operand}{t t8 ra ty gf y E:Nat}{n:Int}{pos:String}{af:Array Edge}{body:Code}(nr nd:Nat)
 (L:List (Nat×Ly)) (M:σ->List (Nat×Ct)) (Mo:τ->List (Nat×Ct)) (hg:OpdF (lk l) g (.clo gf [y])) (hy:lk m y=some (.bx E (i64 n)))
 (hit:∀ n:Int,-9223372036854775808<n->n≤9223372036854775807->∀ w b,w.heap[b]?=some (.cells #[.int .i64 n] E (0,0))->ItC X.P gf #[.pointer (some ⟨b,0,none⟩)] n.toNat w)
 (eg:∀ args w,(callFunc gf args).run X.P w=.ok (.enter gf args) w)
 (hdf:X.df=[]) (ht:(Nat.blt t X.N && Nat.blt t8 X.N && nkey t L && nkey t8 L && !(Nat.beq t t8) && !(Nat.beq nr nd))=true)
 (hn:∀ s,lk (M s) nr=none∧lk (M s) nd=none) (h0:Ent X l m L (M s0))
 (hb:∀(w1:World) (γ1:Nm) (ob ob':Obj) (rl i:Nat) (s:σ),i<n.toNat->(∀ id,lk ((nr,.ob ob)::(nd,.ob ob')::M s) id=none->γ1 id=none) →
  Sq (Fr X w1 γ1 (lk ((nr,.ob ob)::(nd,.ob ob')::M s))) ((t8,i64 i)::L) ((nr,.ob ob)::(nd,.ob ob')::M s) (f i s) (λo=>body.wpIn (iw rl) 0 X.P (RfQ (Fr X w1 γ1 (lk ((nr,.ob ob)::(nd,.ob ob')::M s))) (λs=>(nr,.ob ob)::(nd,.ob ob')::M s) (λr=>(nr,.ob ob)::(nd,.ob ob')::Mo r) o)))
 (hJ:∀ D s,Sq (X.mk' nd D) L ((nr,.gone)::(nd,.ob (.deferred (some [])))::M s) (ka s) (λr=>Q r .normal))
 (hR:∀ D r,Sq (X.mk' nd D) L ((nr,.gone)::(nd,.ob (.deferred (some [])))::Mo r) (kb r) (λr=>Q r .ret)) :
 Sq X l m ((rangeN f n s0).bind (rfK ka kb)) (λr=>(Code.rangeFunc g #[t] (.region ra ⟨[⟨some t8,.assign (.tmp t),ty,pos,af,none⟩]⟩ false) body).wp X.P (Q r)):=
 srf nr nd L M Mo hg hy (hit n) eg hdf ht hn h0 hb hJ hR
theorem fsM{P:Program}{f N:Nat}{fn:Func}{c:Code}{args:List Ly}{mi:List (Nat×Ct)}{R:Type}{res:R->Ly}{mo:R->List (Nat×Ct)}{md:Option R}
 (hf:P.funcs[f]?=some fn) (h:∀ w S0 γ,(∀ id,lk mi id=none->γ id=none)->Sq ⟨P,N,w,S0,Ow γ (lk mi),γ,[]⟩ (argl 0 args) mi md (λr=>c.wp P (bodyPostM Fence.wide 1 P fn (RetP w S0 γ mi (res r) (mo r)))))
 (hb:fn.body=some c:=by exact rfl) (hN:fn.ntmps=N:=by exact rfl) (hname:(fn.name == "runtime.NumGoroutine")=false:=by kernel_rfl) (hl:Nat.ble args.length N=true:=by exact rfl) :
 ∀ r,md=some r->FnOk P f args mi (res r) (mo r):=fnM hf h hb hN hname hl
theorem callIt{X:Cx}{st:Nat->Option Ly}{mm:Nat->Option Ct}{d f g y E ty:Nat}{arg:Operand}{n:Int}{argTypes:Array TypeId}{pos:String}{af:Array Edge}(hf:∀ x,FnOk X.P f [i64 x] [] (.clo g [50]) [(50,.bx E (i64 x))])(hy:mm y=none)(ha:OpdF st arg (i64 n))(hd:Nat.blt d X.N=true):
 OpOk X st mm ⟨some d,.call { callee:=.value (.func f),args:=⟨[arg]⟩,argTypes:=argTypes },ty,pos,af,none⟩ [(d,.clo g [y])] [(y,.bx E (i64 n))]:=
 callG [] [(y,50)] [(y,50)] (hf n) ⟨⟨_,ha,rn_id Ka⟩,trivial⟩ (λ_ _ h=>by cases h) trivial rfl ⟨hy,trivial⟩ ⟨.inl (lk_hd _ _ _),trivial⟩ rfl ⟨.inl ⟨_,_,lk_hd _ _ _,lk_hd _ _ _,rc_bx (rn_id Ka)⟩,trivial⟩ trivial ⟨⟨_,lk_hd _ _ _⟩,trivial⟩
  (Qay (by simp[lk])) hd
end Go.Proofs.YtkkfedionkhgnaaGreatDoor
