import Derived.Test.YthdbapalogijdaaGreatDoorChecked
import Derived.RegionTactic
import Derived.Test.YthdbapalogijdaaGreatDoorSB
set_option maxRecDepth 100000
namespace Go.Proofs.YthdbapalogijdaaGreatDoor
open Go Go.RowKit Tryz
theorem Oq:eU Tryz.prog 295 2 32 (.agg #[.pointer none,.slice none 0 0]):=bX ox
set_option maxHeartbeats 1000000 in
theorem XR(b:Nat)(w:World)(h0:w.cell? ⟨b,0,none⟩=some (.pointer (some ⟨b,0,none⟩))):
 Calls Tryz.prog 249 #[.pointer (some ⟨b,0,none⟩)] w λe w'=>e=.returned (.tuple #[])/\w'=w:=by
 obtain⟨j,a,_,d,_⟩:=Oq
 go_enter func249,ntmps249
 go_wp2
 rw[Lib.run_neq_ptr_same w _ underlying292 a]
 go_wp2
 go_end0
 exact⟨rfl,rfl⟩
set_option maxHeartbeats 1000000 in
theorem XS(b:Nat)(w:World)(h0:w.cell? ⟨b,0,none⟩=some (.pointer none))(a:w.shape? b=some (295,2))(g:w.frozen? ⟨b,0,none⟩=false):
 Calls Tryz.prog 249 #[.pointer (some ⟨b,0,none⟩)] w λe w'=>e=.returned (.tuple #[])/\w'=w.setCell ⟨b,0,none⟩ (.pointer (some ⟨b,0,none⟩)):=by
 obtain⟨j,f,_,d,_⟩:=Oq
 go_enter func249,ntmps249
 go_wp2
 rw[Lib.run_to_unsafe w ⟨b,0,none⟩ underlying292 underlying486 f (by rw[d];decide) a (Nat.zero_lt_succ 1)];simp only[Result.andThen];rw[Oper.upon_value]
 go_wp2
 rw[run_callFunc_extern func342 ox ox ox (e:=Extern.AbiNoEscape.same) ox];rw[Lib.run_noEscape];simp only[Result.andThen];rw[Oper.upon_value]
 go_wp2
 rw[Lib.run_from_unsafe w ⟨b,0,none⟩ underlying486 underlying292 f a ox];simp only[Result.andThen];rw[Oper.upon_value]
 go_wp2
 go_end0
 exact⟨rfl,rfl⟩
theorem H7{X:Cx}{st:Nat->Option Ly}{mm:Nat->Option Ct}{d x id lb argTypes ty pos af}(hP:X.P=Tryz.prog)(hm:mm id=some (.bx 295 (.agg [.por id,lb])))(hd:Nat.blt d X.N=true)(hx:ac st x (.own id))(hl1:lb.sz=1):
 ax X st mm ⟨some d,.call { callee:=.value (.func 249),args:=#[x],argTypes:=argTypes },ty,pos,af,none⟩ [(d,.tup [])] []:=by
 intro a w γ K Q hI hK;obtain⟨g,aH,h1,h2,h3⟩:=oC hI hm;obtain⟨hv,_⟩:=hx.val hI;rw[h1] at hv;have hv:a.eval x=.pointer (some ⟨g,0,none⟩):=by simpa using hv.symm
 have h3':=h3;simp only[Ly.hold] at h3;obtain⟨c1,c2,hc,⟨v0,rfl,hv0⟩,c3,c4,rfl,h4,rfl⟩:=h3;have hl:=Ly.hold_sz _ _ h4;rw[hl1] at hl;obtain⟨u,rfl⟩:∃ u,c3=[u]:=by
  match c3,hl with
  | [u],_=>exact⟨u,rfl⟩
 have hcur:aH=#[v0,u]:=by apply vr;simpa using hc
 subst hcur;have hcell:w.cell? ⟨g,0,none⟩=some v0:=by rw[Xc h2];rfl
 have hfn:∃ fn,X.P.funcs[249]?=some fn∧(fn.name == "runtime.NumGoroutine")=false∧fn.body.isSome=true:=by rw[hP];exact⟨_,func249,ox,rfl⟩
 have hput:∀ w',bq X st mm a w' γ->K (a.put (some d) (.tuple #[])) w':=λw' h=>by have:=h.put (d:=d) (v:=.tuple #[]) (ly:=.tup []) (by simpa using hd) ⟨#[],rfl,rfl⟩;exact hK _ _ _ (by simpa [Jm4] using this)
 have hup:up mm [(id,.bx 295 (.agg [.por id,lb]))]=mm:=by funext i;rw[Xb];by_cases e:id=i;subst e;simp[hm];simp[e]
 rcases hv0 with rfl | ⟨v1,g',e1,e2,rfl⟩;refine xX (args:=[x]) hfn (by rw[hP];simpa [hv] using XS g w hcell (by simp[World.shape?,h2]) (by simp[World.frozen?,h2])) ?_;rintro e w' ⟨rfl,rfl⟩;refine⟨_,rfl,hput _ ?_⟩;have hnew:(w.setCell ⟨g,0,none⟩ (.pointer (some ⟨g,0,none⟩))).heap[g]?=some (.cells #[.pointer (some ⟨g,0,none⟩),u] 295 (0,0)):=by simp[World.setCell,Array.getElem?_modify,h2]
 have hkp:Kp (λb=>b=g) w (w.setCell ⟨g,0,none⟩ (.pointer (some ⟨g,0,none⟩))):=⟨by simp[World.setCell],λb hb hn=>Below.heap_setCell _ _ _ _ (λe=>hn (by simpa using e))⟩
 have hkS:Kp (X.S γ mm) w (w.setCell ⟨g,0,none⟩ (.pointer (some ⟨g,0,none⟩))):=⟨hkp.1,λb hb hn=>hkp.2 b hb (λe=>hn (.inr ⟨id,_,_,hm,rfl,h1,by rw[e];rfl⟩))⟩
 have hI':=hI.setc (w':=w.setCell ⟨g,0,none⟩ (.pointer (some ⟨g,0,none⟩))) (ct:=.bx 295 (.agg [.por id,lb])) rfl rfl rfl hm rfl h1 rfl hkp rfl
  ⟨g,_,h1,hnew,by
    simp only[Ly.hold]
    exact⟨[_],[u],rfl,⟨_,rfl,.inr ⟨_,g,h1,rfl,rfl⟩⟩,[u],[],rfl,Ly.hold_mono hkS (λb hb=>.inl hb) (Ng.refl _) _ _ h4,rfl⟩⟩
 rw[hup] at hI';exact hI';rw[h1] at e1;simp at e1;subst e1;simp[aC] at e2;subst e2;refine xX (args:=[x]) hfn (by rw[hP];simpa [hv] using XR g w hcell) ?_;rintro e w' ⟨rfl,rfl⟩;exact⟨_,rfl,hput _ hI⟩
theorem XT(w:World)(g n:Nat)(h:n≠0):gj (some g) w (w.drew.freeze ⟨g,0,none⟩ n):=by unfold World.freeze;rw[oq h];refine⟨rfl,rfl,rfl,?_,?_⟩;simp only[Array.size_modify];exact xe _;intro k hk a;rw[Array.getElem?_modify,oq (λe=>a (by rw[<-e]))];rfl
theorem XU(w:World)(o:Obj):gj none w (w.alloc o).drew:=
 ⟨rfl,rfl,rfl,by show w.heap.size<=(w.heap.push o).size;simp,λk hk a=>Lib.alloc_old w _ k hk⟩
theorem Or(w:World):gj none w w.drew:=⟨rfl,rfl,rfl,xe _,λ_ _ _=>rfl⟩
set_option maxHeartbeats 2000000 in
theorem XV(b g cap n:Nat)(p:Value)(l:Be)(aH:Array Value)(w:World)(u:n=l.length)(d:w.heap[b]?=some (.cells #[p,.slice (some ⟨g,0,none⟩) n cap] 295 (0,0)))(k:w.heap[g]?=some (.cells aH 5 (0,0)))
 (v:l.length<=cap) (f:cap<=maxLen) (s:aH.size=cap) (htake:aH.toList.take l.length=Lib.byteCells l) (h0:l≠[]) :
 Calls Tryz.prog 171 #[.pointer (some ⟨b,0,none⟩)] w λe w'=>e=.returned (.string ⟨l.toArray⟩)/\gj (some g) w w':=by
 subst u;have i:l.length≠0:=by simpa using h0
 have c1:w.drew.cell? ⟨b,1,none⟩=some (.slice (some ⟨g,0,none⟩) l.length cap):=by have:w.drew.heap[b]?=some (.cells #[p,.slice (some ⟨g,0,none⟩) l.length cap] 295 (0,0)):=d;rw[Lib.cell_of_heap this];rfl
 have q:(Builtin.unsafeSliceData_ #[293] 399 #[.slice (some ⟨g,0,none⟩) l.length cap]).run Tryz.prog w.drew=.ok (.pointer (some ⟨g,0,none⟩)) w.drew:=
  Lib.run_unsafeSliceData_row _ _ _ _ _ _ om
 have r:(Builtin.unsafeString_ #[399,3] 9 #[.pointer (some ⟨g,0,none⟩),.int .i64 l.length]).run Tryz.prog w.drew=.ok (.string ⟨l.toArray⟩) (w.drew.freeze ⟨g,0,none⟩ l.length):=by
  refine Lib.run_unsafeString_row w.drew 399 3 9 5 underlying399 ox g aH.size (by have a:w.drew.heap[g]?=some (.cells aH 5 (0,0)):=k;simp[World.shape?,a]) l h0 om (by unfold maxLen at f;omega) ?_;intro j x m;have t:j<l.length:=by
   rcases yx j l.length with h | h
   . exact h
   . simp[uf h] at m
  have a:w.drew.heap[g]?=some (.cells aH 5 (0,0)):=k;rw[fc,Xc a,<-xq,xx];have:(aH.toList.take l.length)[j]?=some (.int .u8 x.toNat):=by rw[htake];simp[Lib.byteCells,m]
  rw[vf] at this
  simpa [t] using this
 go_enter func171,ntmps171
 go_wp2
 go_region
 all_goals (go_wp2;go_ret;exact⟨rfl,XT w g _ i⟩)
set_option maxHeartbeats 2000000 in
theorem XW(b:Nat)(p:Value)(w:World)(a:w.heap[b]?=some (.cells #[p,.slice none 0 0] 295 (0,0))):
 Calls Tryz.prog 171 #[.pointer (some ⟨b,0,none⟩)] w λe w'=>e=.returned (.string ⟨#[]⟩)/\gj none w w':=by
 have f:∀(W:World) (q:Option Addr),(Builtin.unsafeString_ #[399,3] 9 #[.pointer q,.int .i64 0]).run Tryz.prog W=.ok (.string .empty) W:=λW q=>Lib.run_unsafeString_none W _ _ _ q;have c1:w.drew.cell? ⟨b,1,none⟩=some (.slice none 0 0):=by have:w.drew.heap[b]?=some (.cells #[p,.slice none 0 0] 295 (0,0)):=a;rw[Lib.cell_of_heap this];rfl
 have d:(Builtin.unsafeSliceData_ #[293] 399 #[.slice none 0 0]).run Tryz.prog w.drew=.ok (.pointer none) w.drew:=rfl
 go_enter func171,ntmps171
 go_wp2
 go_region
 all_goals (go_wp2;go_ret;exact⟨rfl,Or w⟩)
set_option maxHeartbeats 2000000 in
theorem XX(b g:Nat)(p:Value)(aH:Array Value)(w:World)(a:w.heap[b]?=some (.cells #[p,.slice (some ⟨g,0,none⟩) 0 0] 295 (0,0)))(l:w.heap[g]?=some (.cells aH 5 (0,0))):
 Calls Tryz.prog 171 #[.pointer (some ⟨b,0,none⟩)] w λe w'=>e=.returned (.string ⟨#[]⟩)/\gj none w w':=by
 have k:∀(W:World) (q:Option Addr),(Builtin.unsafeString_ #[399,3] 9 #[.pointer q,.int .i64 0]).run Tryz.prog W=.ok (.string .empty) W:=λW q=>Lib.run_unsafeString_none W _ _ _ q;have i:b<w.heap.size:=by
  rcases yx b w.heap.size with d | d
  . exact d
  . simp[vu d] at a
 have c1:w.drew.cell? ⟨b,1,none⟩=some (.slice (some ⟨g,0,none⟩) 0 0):=by have:w.drew.heap[b]?=some (.cells #[p,.slice (some ⟨g,0,none⟩) 0 0] 295 (0,0)):=a;rw[Lib.cell_of_heap this];rfl
 have j:(Builtin.unsafeSliceData_ #[293] 399 #[.slice (some ⟨g,0,none⟩) 0 0]).run Tryz.prog w.drew=.ok (.pointer (some ⟨w.drew.heap.size,0,none⟩)) (w.drew.alloc (.view ⟨g,0,none⟩ 5)):=
  Lib.run_unsafeSliceData_zero w.drew _ _ 5 underlying399 ⟨g,0,none⟩ 0 (5,aH.size) (by have f:w.drew.heap[g]?=some (.cells aH 5 (0,0)):=l;simp[World.shape?,f])
 have c2:(w.drew.alloc (.view ⟨g,0,none⟩ 5)).cell? ⟨b,1,none⟩=some (.slice (some ⟨g,0,none⟩) 0 0):=by have:(w.drew.alloc (.view ⟨g,0,none⟩ 5)).heap[b]?=_:=(Lib.alloc_old w.drew _ b i).trans a;rw[Lib.cell_of_heap this];rfl
 have c3:(w.alloc (.view ⟨g,0,none⟩ 5)).drew.cell? ⟨b,1,none⟩=some (.slice (some ⟨g,0,none⟩) 0 0):=c2;have c0:w.cell? ⟨b,1,none⟩=some (.slice (some ⟨g,0,none⟩) 0 0):=c1
 go_enter func171,ntmps171
 go_wp2
 go_region
 all_goals (go_wp2;go_ret;exact⟨rfl,XU w _⟩)
set_option maxHeartbeats 2000000 in
theorem XY(b g cap:Nat)(p:Value)(w:World)(a:cap≠0)(d:w.heap[b]?=some (.cells #[p,.slice (some ⟨g,0,none⟩) 0 cap] 295 (0,0))):
 Calls Tryz.prog 171 #[.pointer (some ⟨b,0,none⟩)] w λe w'=>e=.returned (.string ⟨#[]⟩)/\gj none w w':=by
 have i:∀(W:World) (q:Option Addr),(Builtin.unsafeString_ #[399,3] 9 #[.pointer q,.int .i64 0]).run Tryz.prog W=.ok (.string .empty) W:=λW q=>Lib.run_unsafeString_none W _ _ _ q;have c1:w.drew.cell? ⟨b,1,none⟩=some (.slice (some ⟨g,0,none⟩) 0 cap):=by have:w.drew.heap[b]?=some (.cells #[p,.slice (some ⟨g,0,none⟩) 0 cap] 295 (0,0)):=d;rw[Lib.cell_of_heap this];rfl
 have f:(Builtin.unsafeSliceData_ #[293] 399 #[.slice (some ⟨g,0,none⟩) 0 cap]).run Tryz.prog w.drew=.ok (.pointer (some ⟨g,0,none⟩)) w.drew:=
  Lib.run_unsafeSliceData_row _ _ _ _ _ _ a
 clear a
 go_enter func171,ntmps171
 go_wp2
 go_region
 all_goals (go_wp2;go_ret;exact⟨rfl,Or w⟩)
theorem Ot{w S γ}:∀ {xs:Be}{cs:List Value},Ly.holds w S γ (xs.map ub) cs->cs=Lib.byteCells xs
 | [],cs,h=>by simp only[List.map_nil,Ly.holds] at h;simp[h,Lib.byteCells]
 | x::xs,cs,h=>by obtain⟨c1,c2,rfl,a,d⟩:=h;obtain⟨v,rfl,rfl,_⟩:=a;rw[Ot d];simp[Lib.byteCells]
theorem mI{X:Cx}{st:Nat->Option Ly}{mm:Nat->Option Ct}{d x id id2 argTypes ty pos af}{xs:Be}(hP:X.P=Tryz.prog)(hm:mm id=some (.bx 295 (.agg [.por id,.own id2])))(hm2:mm id2=some (.sl 5 1 (xs.map ub)))(hd:Nat.blt d X.N=true)(hx:ac st x (.own id)):
 ax X st mm ⟨some d,.call { callee:=.value (.func 171),args:=#[x],argTypes:=argTypes },ty,pos,af,none⟩ [(d,am xs)] [(id,.gone),(id2,.gone)]:=by
 intro a w γ K Q hI hK;obtain⟨g,aH,h1,h2,h3⟩:=oC hI hm;obtain⟨hv,_⟩:=hx.val hI;rw[h1] at hv;have hv:a.eval x=.pointer (some ⟨g,0,none⟩):=by simpa using hv.symm
 simp only[Ly.hold] at h3;obtain⟨c1,c2,hc,⟨v0,rfl,hv0⟩,c3,c4,rfl,⟨u,rfl,hu,hu1⟩,rfl⟩:=h3;have hcur:aH=#[v0,u]:=by apply vr;simpa using hc
 subst hcur;obtain⟨v,cs,e1,e2,e3,e4⟩:=kr hI hm2;rw[hu] at e1;simp at e1;subst e1;rw[xf] at e2;have hcs:=Ot e3;subst hcs;have hfn:∃ fn,X.P.funcs[171]?=some fn∧(fn.name == "runtime.NumGoroutine")=false∧fn.body.isSome=true:=by rw[hP];exact⟨_,func171,ox,rfl⟩
 have hne:id2≠id:=by rintro rfl;rw[hm] at hm2;cases hm2
 have hlen:xs.length<=maxLen:=by rcases e2.2 with ⟨_,h0⟩ | ⟨g2,cap,cur2,_,_,_,k1,k2,_⟩;rw[h0];exact xu _;omega
 have eG:∀ w',gj (aC u) w w'->K (a.put (some d) (.string ⟨xs.toArray⟩)) w':=λw' ⟨t1,t2,t3,t4⟩=>by have i1:=hI.dropc (w':=w') t1 t2 t3 hm2 rfl hu t4;have i2:=i1.drop id;rw[<-Ny] at i2;exact hK _ _ _ (i2.put (d:=d) (v:=.string ⟨xs.toArray⟩) (ly:=am xs) (by simpa using hd) ⟨rfl,hlen⟩)
 have fin0:∀ w',gj none w w'->K (a.put (some d) (.string ⟨xs.toArray⟩)) w':=λw' ⟨t1,t2,t3,t4⟩=>
  eG w' ⟨t1,t2,t3,t4.1,λb hb _=>t4.2 b hb oh⟩
 rcases e2.2 with ⟨rfl,h0⟩ | ⟨g2,cap,cur2,rfl,_,k0,k1,k2,k3,k4⟩;have:xs=[]:=List.eq_nil_of_length_eq_zero h0;subst this;refine xX (args:=[x]) hfn (by rw[hP];simpa [hv] using XW g v0 w h2) ?_;rintro e w' ⟨rfl,ht⟩;exact⟨_,rfl,fin0 w' ht⟩;by_cases hx0:xs=[]
 subst hx0;by_cases hc0:cap=0;subst hc0;refine xX (args:=[x]) hfn (by rw[hP];simpa [hv] using XX g g2 v0 cur2 w h2 k0) ?_;rintro e w' ⟨rfl,ht⟩;exact⟨_,rfl,fin0 w' ht⟩;refine xX (args:=[x]) hfn (by rw[hP];simpa [hv] using XY g g2 cap v0 w hc0 h2) ?_;rintro e w' ⟨rfl,ht⟩;exact⟨_,rfl,fin0 w' ht⟩;refine xX (args:=[x]) hfn (by rw[hP];simpa [hv] using XV g g2 cap _ v0 xs cur2 w rfl h2 k0 k1 k2 om (by simpa using k4) hx0) ?_;rintro e w' ⟨rfl,ht⟩;exact⟨_,rfl,eG w' ht⟩
theorem yA:eU Tryz.prog 293 1 24 (.slice none 0 0):=bX ox
theorem yB:fB Tryz.prog 293 false 1:=cy underlying293 rfl yA
theorem XZ:eU Tryz.prog 5 1 1 (.int .u8 0):=bX ox
theorem Ou:fG Tryz.prog 295 1 1:=by obtain⟨i,a,_,d,_⟩:=yA;exact⟨_,_,underlying295,rfl,rfl,i,a,by rw[d];decide⟩
theorem yC{xs s:Be}:∀ r,((az 1 xs s).bind λz=>some z)=some r->bo Tryz.prog 168 [.own 0,am s] [(0,.bx 295 (.agg [.por 0,.own 1])),(1,.sl 5 1 (xs.map ub))] (.tup [ab (s.length:Int),gi]) [(0,.bx 295 (.agg [.por 0,.own 52])),(1,.gone),(52,.sl 5 1 (r.map ub))]:=by refine UY (res:=λ(r:Be)=>.tup [ab (s.length:Int),gi]) (mo:=λ(r:Be)=>[(0,.bx 295 (.agg [.por 0,.own 52])),(1,.gone),(52,.sl 5 1 (r.map ub))]) func168 rfl rfl ox rfl ?_;intro w S0 γ hγ;refine ko ?_;refine ma ?_;refine s1 (oB rfl (kI (x:=0) rfl)) ?_;refine s1 (oB rfl xW) ?_;refine mb ?_;refine xO ?_;refine ko ?_;refine ma ?_;refine s1 (mv rfl rfl) ?_;refine s1 (H7 (id:=0) (lb:=.own 1) rfl rfl rfl rfl rfl) ?_;refine mb ?_;refine xO ?_;refine ko ?_;refine ma ?_;refine s1 (mv rfl rfl) ?_;refine s1 (mv rfl rfl) ?_;refine s1 (M5 (by exact⟨_,_,rfl⟩) rfl rfl) ?_;refine s1 (M0 rfl Ou rfl rfl) ?_;refine s1 (M2 [1] rfl (by exact rfl) yB (by exact rfl) (by exact rfl) rfl rfl (.inl rfl)) ?_;refine s1 (mv rfl rfl) ?_;refine bd λz a=>?_;refine so (NA (y:=100) a rfl underlying293 underlying9 XZ rfl rfl rfl rfl rfl rfl) ?_;refine s1 (M5 (by exact⟨_,_,rfl⟩) rfl rfl) ?_;refine s1 (M0 rfl Ou rfl rfl) ?_;refine so (pB (ly2:=.agg [.por 0,.own 100]) [1] (by exact rfl) rfl (by exact rfl) yB (by exact rfl) (by exact rfl) (by exact rfl) rfl (.inl rfl) rfl) ?_;refine mb ?_;refine xO ?_;refine ko ?_;refine ma ?_;refine s1 (mv rfl rfl) ?_;refine s1 (C7 underlying9 rfl rfl) ?_;refine s1 (oB rfl rfl) ?_;refine s1 (oB rfl xW) ?_;refine mb ?_;refine xO ?_;refine CZ ?_;exact ret [(0,0),(1,1),(52,100)] [.tmp 4,.tmp 5] [_,_] [_,_] .ret hγ (.inl rfl) rfl ⟨rfl,rfl,trivial⟩ rfl ⟨rfl,rfl,trivial⟩ ⟨⟨_,rfl⟩,⟨_,rfl⟩,⟨_,rfl⟩,trivial⟩ ⟨⟨_,_,rfl,rfl,Mz (cx (gY (Je (jQ rfl) (Je (K1 rfl) Vi))))⟩,⟨_,_,rfl,rfl,UM⟩,⟨_,_,rfl,rfl,Mz (aW (Ju (f:=ub) (λ_=>fH) _))⟩,trivial⟩ (Je (au K8) (Je (au tU) Vi)) rfl
theorem Ee{xs s z:Be}(h:az 1 xs s=some z):bo Tryz.prog 168 [.own 0,am s] [(0,.bx 295 (.agg [.por 0,.own 1])),(1,.sl 5 1 (xs.map ub))] (.tup [ab (s.length:Int),gi]) [(0,.bx 295 (.agg [.por 0,.own 52])),(1,.gone),(52,.sl 5 1 (z.map ub))]:=
 yC z (by rw[h];rfl)
end Go.Proofs.YthdbapalogijdaaGreatDoor
