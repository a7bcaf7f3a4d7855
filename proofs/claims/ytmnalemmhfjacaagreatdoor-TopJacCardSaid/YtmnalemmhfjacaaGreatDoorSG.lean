import Derived.Test.YtmnalemmhfjacaaGreatDoorSF
namespace Go.Proofs.YtmnalemmhfjacaaGreatDoor
open Go Go.RowKit
theorem Qet{n d ty:Nat}{P:Program}{op:Op}{pos:String}{af:Array Edge}{a:Act}{w:World}{K:Act->World->Prop}{Q:Exit->Act->World->Prop}{v:Value}(hr:(execOp a.eval ⟨some d,op,ty,pos,af,none⟩).run P w=.ok (.value v) w)(hk:K (a.put (some d) v) w):Oper.wpIn Fence.wide n P ⟨some d,op,ty,pos,af,none⟩ a w K Q:=by refine⟨λ_ _=>trivial,?_⟩;rw[show Fence.wide.round=none from rfl,Oper.semAt_none,hr];exact hk
theorem Z5{a:Act}{d:Nat}{v:Value}(h:d<a.tmps.size):(a.put (some d) v).eval (.tmp d)=v:=by simp[Act.put,Act.eval,h]
theorem ev_ne{a:Act}{d e:Nat}{v:Value}(h:d≠e):(a.put (some d) v).eval (.tmp e)=a.eval (.tmp e):=by simp[Act.put,Act.eval,vg h]
theorem Qcf{a:Act}{d:Nat}{v:Value}:(a.put (some d) v).tmps.size=a.tmps.size:=by simp[Act.put]
theorem Q48{a:Act}{d:Option Nat}{v:Value}:(a.put d v).defers=a.defers:=by cases d<;>rfl
theorem subR{P:Program}{a:Act}{w:World}{d e T f ty:Nat}{pos:String}{af:Array Edge}{x:Int}(j:a.eval (.tmp e)=.int .i64 x)(k:-9223372036854775808<=x - 1)(l:x - 1<=9223372036854775807):
 (execOp a.eval ⟨some d,.binOp .sub T (.tmp e) (.const (.int .i64 1)) f,ty,pos,af,none⟩).run P w=.ok (.value (.int .i64 (x - 1))) w:=by
 have i:IntKind.i64.wrap (x - 1)=x - 1:=by rw[Qg0];unfold wrap64;omega
 have g:a.eval (.const (.int .i64 1))=.int .i64 1:=rfl;simp only[execOp,j,g];simp[eqGuard,binOp,Op.intArith,bind,Sem.bind,pure,i]
theorem geR{P:Program}{a:Act}{w:World}{d e T f ty:Nat}{pos:String}{af:Array Edge}{x:Int}(i:a.eval (.tmp e)=.int .i64 x):
 (execOp a.eval ⟨some d,.binOp .geq T (.tmp e) (.const (.int .i64 0)) f,ty,pos,af,none⟩).run P w=.ok (.value (.bool (decide (0<=x)))) w:=by
 have g:a.eval (.const (.int .i64 0))=.int .i64 0:=rfl;simp only[execOp,i,g];simp[eqGuard,binOp,Op.intCmp,bind,Sem.bind,pure]
theorem mvR{P:Program}{a:Act}{w:World}{d e ty:Nat}{pos:String}{af:Array Edge}{v:Value}(f:a.eval (.tmp e)=v):(execOp a.eval ⟨some d,.move (.tmp e),ty,pos,af,none⟩).run P w=.ok (.value v) w:=by simp[execOp,f]
theorem asR{P:Program}{a:Act}{w:World}{d e ty:Nat}{pos:String}{af:Array Edge}{v:Value}(f:a.eval (.tmp e)=v):(execOp a.eval ⟨some d,.assign (.tmp e),ty,pos,af,none⟩).run P w=.ok (.value v) w:=by simp[execOp,f]
theorem ntR{P:Program}{a:Act}{w:World}{d e T ty:Nat}{pos:String}{af:Array Edge}{b:Bool}(f:a.eval (.tmp e)=.bool b):(execOp a.eval ⟨some d,.unOp .not T (.tmp e),ty,pos,af,none⟩).run P w=.ok (.value (.bool (!b))) w:=by simp only[execOp,f];simp[Op.unary]
def dnM(a:Act):Nat:=match a.eval (.tmp 3) with
 | .int _ x=>(x+1).toNat
 | _=>0
theorem Q49{a:Act}{x:Int}{k:IntKind}(h:a.eval (.tmp 3)=.int k x):dnM a=(x+1).toNat:=by unfold dnM;rw[h]
abbrev downC(T t1 t2 t3 t4 t5 t6 t7 t8 t9 t10 t11 t12 t13 t14 t15 t16 t17 t18 t19:Nat)(p1 p2 p3 p4 p5 p6 p7 p8 p9 p10 p11 p12:String)(e1 e2 e3 e4 e5 e6 e7 e8 e9 e10 e11 e12:Array Edge)(ca:Array TypeId):Code:=
 .seq (.region 0 ⟨[⟨some 4,.load T (.tmp 1),t1,p1,e1,none⟩,⟨some 5,.binOp .sub t2 (.tmp 4) (.const (.int .i64 1)) t3,t4,p2,e2,none⟩,⟨some 3,.assign (.tmp 5),t5,p3,e3,none⟩]⟩ false)
  (.block 0 (.loop (.seq (.seq (.region 1 ⟨[⟨some 6,.move (.tmp 3),t6,p4,e4,none⟩,⟨some 7,.binOp .geq t7 (.tmp 6) (.const (.int .i64 0)) t8,t9,p5,e5,none⟩]⟩ false) (.cond (.tmp 7) .skip (.exit 0)))
    (.seq (.block 1 (.seq (.region 3 ⟨[⟨some 10,.move (.tmp 0),t10,p6,e6,none⟩,⟨some 11,.move (.tmp 3),t11,p7,e7,none⟩,⟨some 12,.call { callee:=.value (.tmp 10),args:=⟨[.tmp 11]⟩,argTypes:=ca },t12,p8,e8,none⟩,⟨some 13,.unOp .not t13 (.tmp 12),t14,p9,e9,none⟩]⟩ false)
      (.cond (.tmp 13) .ret .skip)))
      (.region 2 ⟨[⟨some 8,.move (.tmp 3),t15,p10,e10,none⟩,⟨some 9,.binOp .sub t16 (.tmp 8) (.const (.int .i64 1)) t17,t18,p11,e11,none⟩,⟨some 3,.assign (.tmp 9),t19,p12,e12,none⟩]⟩ false)))))
theorem Q9c{P:Program}{gf E T:Nat}{n:Int}{fn:Func}{t1 t2 t3 t4 t5 t6 t7 t8 t9 t10 t11 A t13 t14 t15 t16 t17 t18 t19:Nat}{p1 p2 p3 p4 p5 p6 p7 p8 p9 Y Z p12:String}{e1 e2 B e4 e5 e6 e7 e8 e9 H I L:Array Edge}{ca:Array TypeId}
 (hf:P.funcs[gf]?=some fn) (hb:fn.body=some (downC T t1 t2 t3 t4 t5 t6 t7 t8 t9 t10 t11 A t13 t14 t15 t16 t17 t18 t19 p1 p2 p3 p4 p5 p6 p7 p8 p9 Y Z p12 e1 e2 B e4 e5 e6 e7 e8 e9 H I L ca))
 (V:fn.ntmps=14) (g:fn.results=#[]) (hT:Shp P T false 1) (hn1:-9223372036854775808<n) (U:n<=9223372036854775807) (w:World) (b:Nat) (hw:w.heap[b]?=some (.cells #[.int .i64 n] E (0,0))) :
 ItC P gf #[.pointer (some ⟨b,0,none⟩)] n.toNat w:=by
 intro l J Jx W hW hY hJ;refine callsIn_of_wp hf hb trivial ?_;obtain⟨a0,f⟩:∃ a0:Act,a0={ tmps:=(#[Value.func (.yield l) #[] #[]]++#[Value.pointer (some ⟨b,0,none⟩)])++Array.replicate (fn.ntmps - (#[Value.func (.yield l) #[] #[]]++#[Value.pointer (some ⟨b,0,none⟩)]).size) undef,defers:=[] }:=⟨_,rfl⟩
 rw[<-f];have hs:a0.tmps.size=14:=by rw[f,V];simp
 have h0:a0.eval (.tmp 0)=.func (.yield l) #[] #[]:=by rw[f];simp[Act.eval,Array.getElem?_append]
 have h1:a0.eval (.tmp 1)=.pointer (some ⟨b,0,none⟩):=by rw[f];simp[Act.eval,Array.getElem?_append]
 have hd:a0.defers=[]:=by rw[f]
 have r:b<w.heap.size:=(Array.getElem?_eq_some_iff.1 hw).1;have X:W.heap[b]?=some (.cells #[.int .i64 n] E (0,0)):=(hW.block b r).trans hw
 obtain⟨v,Q,R⟩:=Qg1 (P:=P) (b:=b) (o:=0) (w:=W) (S:=λ_=>False) (γ:=λ_=>none) (ly:=i64 n) hT rfl rfl (us:=[.int .i64 n]) (λj u hj=>by
  rw[Wg X,<-xt]
  simpa using hj) ⟨_,rfl,rfl,by show(-9223372036854775808:Int)<=n;omega,U⟩
 have t:v=.int .i64 n:=R.1;subst t;refine wpIn_seq (wpIn_region_list ?_);refine wpListIn_plain rfl λK d=>Qet (v:=.int .i64 n) (by simp only[execOp,h1];simp[Instr.loadAt,Instr.sureAddr,Q]) (d _ _ ?_);clear d K;refine wpListIn_plain rfl λK d=>Qet (subR (x:=n) (Z5 om) om om) (d _ _ ?_);clear d K;refine wpListIn_plain rfl λK d=>Qet (asR (v:=.int .i64 (n - 1)) (Z5 (by rw[Qcf];omega))) (d _ _ ?_);clear d K;show Code.wpIn _ _ _ _ _ _ _
 refine wpIn_block (wpIn_loop (λa W=>∃ k,k<=n.toNat/\J k W/\a.tmps.size=14/\a.eval (.tmp 0)=.func (.yield l) #[] #[]/\a.eval (.tmp 3)=.int .i64 (n - 1 - k)/\a.defers=[])
  (λa _=>dnM a) ⟨0,xo _,hJ,by simp only[Qcf];exact hs,?_,?_,by simp only[Q48];exact hd⟩ ?_)
 . rw[ev_ne oy,ev_ne oy,ev_ne oy];exact h0
 . rw[Z5 (by simp only[Qcf];omega)];simp
 rintro a G ⟨k,hk,q,hs,h0,F,hd⟩;refine wpIn_seq (wpIn_seq (wpIn_region_list ?_));refine wpListIn_plain rfl λK d=>Qet (mvR F) (d _ _ ?_);clear d K;refine wpListIn_plain rfl λK d=>Qet (geR (Z5 om)) (d _ _ ?_);clear d K;show Code.wpIn _ _ _ _ _ _ _;by_cases s:0<=n - 1 - (k:Int)
 rotate_left
 . refine wpIn_cond_false (by rw[Z5 (by rw[Qcf];omega),show decide (0<=n - 1 - (k:Int))=false by simpa using s]) (wpIn_exit ?_)
   simp only[Exit.then,Exit.inBlock,vh];refine bodyPost_end (v:=.tuple #[]) (results_none g _ _ _) hd ?_;have:k=n.toNat:=om
   rw[<-this];exact⟨⟨_,rfl⟩,.inl q⟩
 refine wpIn_cond_true (by rw[Z5 (by rw[Qcf];omega),show decide (0<=n - 1 - (k:Int))=true by simpa using s]) (wpIn_skip ?_);show Code.wpIn _ _ _ _ _ _ _;refine wpIn_seq (wpIn_block (wpIn_seq (wpIn_region_list ?_)));refine wpListIn_plain rfl λK d=>Qet (mvR (v:=.func (.yield l) #[] #[]) (by rw[ev_ne oy,ev_ne oy];exact h0)) (d _ _ ?_);clear d K;refine wpListIn_plain rfl λK d=>Qet (mvR (v:=.int .i64 (n - 1 - k)) (by rw[ev_ne oy,ev_ne oy,ev_ne oy];exact F)) (d _ _ ?_);clear d K;obtain⟨M,tmps,assign,body,hy,hR⟩:=hY k G om q;have i:((((a.put (some 6) (.int .i64 (n - 1 - k))).put (some 7) (.bool (decide (0<=n - 1 - (k:Int))))).put (some 10) (.func (.yield l) #[] #[])).put (some 11) (.int .i64 (n - 1 - k))).eval (.tmp 10)=.func (.yield l) #[] #[]:=by
  rw[ev_ne oy,Z5 (by simp only[Qcf];omega)]
 have m:((((a.put (some 6) (.int .i64 (n - 1 - k))).put (some 7) (.bool (decide (0<=n - 1 - (k:Int))))).put (some 10) (.func (.yield l) #[] #[])).put (some 11) (.int .i64 (n - 1 - k))).eval (.tmp 11)=.int .i64 (n - 1 - k):=by rw[Z5 (by simp only[Qcf];omega)]
 have g3:((((a.put (some 6) (.int .i64 (n - 1 - k))).put (some 7) (.bool (decide (0<=n - 1 - (k:Int))))).put (some 10) (.func (.yield l) #[] #[])).put (some 11) (.int .i64 (n - 1 - k))).eval (.tmp 3)=.int .i64 (n - 1 - k):=by rw[ev_ne oy,ev_ne oy,ev_ne oy,ev_ne oy];exact F
 have g0:((((a.put (some 6) (.int .i64 (n - 1 - k))).put (some 7) (.bool (decide (0<=n - 1 - (k:Int))))).put (some 10) (.func (.yield l) #[] #[])).put (some 11) (.int .i64 (n - 1 - k))).eval (.tmp 0)=.func (.yield l) #[] #[]:=by rw[ev_ne oy,ev_ne oy,ev_ne oy,ev_ne oy];exact h0
 have N:((((a.put (some 6) (.int .i64 (n - 1 - k))).put (some 7) (.bool (decide (0<=n - 1 - (k:Int))))).put (some 10) (.func (.yield l) #[] #[])).put (some 11) (.int .i64 (n - 1 - k))).tmps.size=14:=by simp only[Qcf];exact hs
 have C:((((a.put (some 6) (.int .i64 (n - 1 - k))).put (some 7) (.bool (decide (0<=n - 1 - (k:Int))))).put (some 10) (.func (.yield l) #[] #[])).put (some 11) (.int .i64 (n - 1 - k))).defers=[]:=hd;revert i m g3 g0 N C;generalize ((((a.put (some 6) (.int .i64 (n - 1 - k))).put (some 7) (.bool (decide (0<=n - 1 - (k:Int))))).put (some 10) (.func (.yield l) #[] #[])).put (some 11) (.int .i64 (n - 1 - k)))=a4;intro i m g3 g0 N C;have O:((n.toNat:Int) - 1 - k)=n - 1 - k:=om
 rw[O] at hy;refine wpListIn_plain rfl λK d=>?_;refine⟨λ_ _=>trivial,?_⟩;rw[show Fence.wide.round=none from rfl,Oper.semAt_none];have y:(execOp a4.eval ⟨some 12,.call { callee:=.value (.tmp 10),args:=⟨[.tmp 11]⟩,argTypes:=ca },A,p8,e8,none⟩).run P G=.ok (.round l M tmps assign body) G:=by simp only[execOp];simp[invoke,resolve,i,m,hy,Deferred.ofValue]
 rw[y,Oper.uponIn_round];refine⟨λ_=>xd _,hR.mono ?_⟩;rintro e W2 (⟨rfl,p⟩ | ⟨rfl,p⟩)
 . show K (a4.put (some 12) _) W2
   refine d _ _ ?_;clear d K;refine wpListIn_plain rfl λK d=>Qet (ntR (Z5 om)) (d _ _ ?_);clear d K;show Code.wpIn _ _ _ _ _ _ _;refine wpIn_cond_false (by rw[Z5 (by rw[Qcf];omega)];rfl) (wpIn_skip ?_);show Code.wpIn _ _ _ _ _ _ _;refine wpIn_region_list ?_;refine wpListIn_plain rfl λK d=>Qet (mvR (v:=.int .i64 (n - 1 - k)) (by rw[ev_ne oy,ev_ne oy];exact g3)) (d _ _ ?_);clear d K;refine wpListIn_plain rfl λK d=>Qet (subR (Z5 (by simp only[Qcf];omega)) om om) (d _ _ ?_);clear d K;refine wpListIn_plain rfl λK d=>Qet (asR (v:=.int .i64 (n - 1 - k - 1)) (Z5 (by simp only[Qcf];omega))) (d _ _ ?_);clear d K;have B:(((((a4.put (some 12) (.bool true)).put (some 13) (.bool (!true))).put (some 8) (.int .i64 (n - 1 - k))).put (some 9) (.int .i64 (n - 1 - k - 1))).put (some 3) (.int .i64 (n - 1 - k - 1))).eval (.tmp 3)=.int .i64 (n - 1 - k - 1):=Z5 (by simp only[Qcf];omega);refine⟨⟨k+1,om,p,by simp only[Qcf];exact N,?_,?_,by simp only[Q48];exact C⟩,?_⟩
   . rw[ev_ne oy,ev_ne oy,ev_ne oy,ev_ne oy,ev_ne oy];exact g0
   . rw[show(n - 1 - ((k+1:Nat):Int))=n - 1 - k - 1 by omega];exact B
   . have:=Q49 B;have:=Q49 F;omega
 . show K (a4.put (some 12) _) W2
   refine d _ _ ?_;clear d K;refine wpListIn_plain rfl λK d=>Qet (ntR (Z5 om)) (d _ _ ?_);clear d K;show Code.wpIn _ _ _ _ _ _ _;refine wpIn_cond_true (by rw[Z5 (by rw[Qcf];omega)];rfl) (wpIn_ret ?_);simp only[Exit.then,Exit.inBlock];exact bodyPost_ret (v:=.tuple #[]) (results_none g _ _ _) C ⟨⟨_,rfl⟩,.inr p⟩
theorem entersF{P:Program}{f:FuncId}{fn:Func}{c:Code}(hf:P.funcs[f]?=some fn)(hname:(fn.name == "runtime.NumGoroutine")=false)(hb:fn.body=some c):∀ args w,(callFunc f args).run P w=.ok (.enter f args) w:=by
 intro args w;have hn:¬ fn.name= "runtime.NumGoroutine":=λe=>by rw[e] at hname;simp at hname
 simp[callFunc,hf,hn,hb,go_sem]
end Go.Proofs.YtmnalemmhfjacaaGreatDoor
