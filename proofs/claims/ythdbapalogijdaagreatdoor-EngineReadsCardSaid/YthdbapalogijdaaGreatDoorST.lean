import Derived.Test.YthdbapalogijdaaGreatDoorSH
namespace Go.Proofs.YthdbapalogijdaaGreatDoor
open Go Go.RowKit
structure mq(P:Program)(K:Nat){κ:Type}(kf:κ->Value)(e:κ->κ->Bool):Prop where
 un:∃ d,P.underlying K=some d/\∀ a b,Instr.sameNow d (kf a) (kf b)=none
 chk:∀ w a b,(Instr.checkKey b 10000 K (kf a)).run P w=.ok () w
 eq:∀ w a b,(Op.equal K (kf a) (kf b)).run P w=.ok (e a b) w
 nk:∀ a,qD (kf a)
def jK{κ α:Type}(d:κ->Value)(f:α->Ly)(a:List (κ×α)):Ct:=.mp (a.map λe=>d e.1) (a.map λe=>f e.2)
theorem lB{κ α:Type}{g:κ->Value}{e:κ->κ->Bool}{P:Program}{K:Nat}(r:mq P K g e){f:α->Ly}{w S γ}(w':World)(p:κ):∀(d:List (κ×α)) (a:List MapEntry) (j:Nat),a.map (·.key)=d.map (λe=>g e.1) ->
 Ly.vals w S γ (d.map λe=>f e.2) (a.map (·.val)) ->
 (dU e d p=none/\(Instr.findAsking K (g p) a j).run P w'=.ok none w')\/∃ x i v,dU e d p=some x/\(Instr.findAsking K (g p) a j).run P w'=.ok (some (i,v)) w'/\Ly.val w S γ (f x) v
 | [],[],j,_,_=>.inl ⟨rfl,rfl⟩
 | [],e::a,j,h,_=>by simp at h
 | (k,x)::d,[],j,h,_=>by simp at h
 | (k,x)::d,q::a,j,h,t=>by
   simp only[xt,List.cons.injEq] at h;obtain⟨hk,h⟩:=h;simp only[xt] at t;obtain⟨m,n⟩:=XH.1 t;have s:=r.eq w' p k;cases l:e p k with
   | true=>
     refine .inr ⟨x,j,q.val,by simp[dU,l],?_,m⟩;simp_all[Instr.findAsking]
   | false=>
     rw[l] at s;have y:dU e ((k,x)::d) p=dU e d p:=by simp[dU,l]
     have A:(Instr.findAsking K (g p) (q::a) j).run P w'=(Instr.findAsking K (g p) a (j+1)).run P w':=by simp[Instr.findAsking,hk,s,Result.andThen]
     rcases lB r w' p d a (j+1) h n with ⟨g1,u⟩ | ⟨B,i,v,g1,u,g3⟩
     all_goals grind
theorem rH{κ α:Type}{j:κ->Value}{e:κ->κ->Bool}{P:Program}{K:Nat}(k:mq P K j e){f:α->Ly}{w S γ}(w':World)(p:κ){g:List (κ×α)}{a:List MapEntry}(h:a.map (·.key)=g.map (λe=>j e.1))
 (m:Ly.vals w S γ (g.map λe=>f e.2) (a.map (·.val))) :
 (dU e g p=none/\(Instr.findKey K (j p) a).run P w'=.ok none w')\/∃ x i v,dU e g p=some x/\(Instr.findKey K (j p) a).run P w'=.ok (some (i,v)) w'/\Ly.val w S γ (f x) v:=by
 obtain⟨d,r,s⟩:=k.un;have l:(Instr.findKey K (j p) a).run P w'=(Instr.findAsking K (j p) a).run P w':=by
  cases a with
  | nil=>simp_all[Instr.findKey,Instr.findNow,Instr.findAsking,run_underlying]
  | cons n a=>
    cases g with
    | nil=>simp at h
    | cons q g=>
      simp_all[Instr.findKey,Instr.findNow,run_underlying]
 rw[l];exact lB k w' p g a 0 h m
def rI(a b c:Int)(s:Be):Value:=.agg #[.int .i64 a,.int .i64 b,.int .i64 c,.string ⟨s.toArray⟩]
theorem gH{P:Program}{T:Nat}{cs:Array Value}{off:Nat}{v:Value}{w:World}(h:fB P T false 1)(a:cs[off]?=some v):(part T cs off).run P w=.ok v w:=by simp[part,tB h,a]
theorem nP{P:Program}{T d:Nat}{x y:Int}{w:World}(h:P.underlying T=some (.int .i64)):(Op.equalIn (d+1) T (.int .i64 x) (.int .i64 y)).run P w=.ok (x == y) w:=by grind[run_equalIn_int]
theorem D7{P:Program}{T d:Nat}{x y:Be}{w:World}(h:P.underlying T=some .string):(Op.equalIn (d+1) T (.string ⟨x.toArray⟩) (.string ⟨y.toArray⟩)).run P w=.ok (x == y) w:=by grind[run_equalIn_string,Jg0]
theorem D8{P:Program}{K:Nat}{κ:Type}{F0 F1 F2 F3:Field}(g0 g1 g2:κ->Int)(g3:κ->Be)(hK:P.underlying K=some (.struct #[F0,F1,F2,F3]))(hp:P.stoodInHeld K=false)
 (hn:(F0.name == "_")=false∧(F1.name == "_")=false∧(F2.name == "_")=false∧(F3.name == "_")=false) (ho:F0.offset=0∧F1.offset=1∧F2.offset=2∧F3.offset=3)
 {T0 T1 T2 T3}(e0:F0.type=T0) (e1:F1.type=T1) (e2:F2.type=T2) (e3:F3.type=T3)
 (s0:fB P T0 false 1) (s1:fB P T1 false 1) (s2:fB P T2 false 1) (s3:fB P T3 false 1)
 (u0:P.underlying T0=some (.int .i64)) (u1:P.underlying T1=some (.int .i64)) (u2:P.underlying T2=some (.int .i64)) (u3:P.underlying T3=some .string) :
 mq P K (λx=>rI (g0 x) (g1 x) (g2 x) (g3 x)) (λx y=>(g0 x == g0 y) && ((g1 x == g1 y) && ((g2 x == g2 y) && ((g3 x == g3 y) && true)))):=by
 obtain⟨n0,n1,n2,n3⟩:=hn;obtain⟨o0,o1,o2,o3⟩:=ho;have n0:F0.name≠ "_":=ol
 have n1:F1.name≠ "_":=ol
 have n2:F2.name≠ "_":=ol
 have n3:F3.name≠ "_":=ol
 have hf:P.fieldsOf K=#[F0,F1,F2,F3]:=by grind[Program.fieldsOf]
 subst e0 e1 e2 e3;refine⟨⟨_,hK,λa b=>rfl⟩,λw a b=>?_,λw a b=>?_,λa=>trivial⟩;have p0:=gH (w:=w) (cs:=#[.int .i64 (g0 a),.int .i64 (g1 a),.int .i64 (g2 a),.string ⟨(g3 a).toArray⟩]) (off:=0) (v:=.int .i64 (g0 a)) s0 rfl;have p1:=gH (w:=w) (cs:=#[.int .i64 (g0 a),.int .i64 (g1 a),.int .i64 (g2 a),.string ⟨(g3 a).toArray⟩]) (off:=1) (v:=.int .i64 (g1 a)) s1 rfl;have p2:=gH (w:=w) (cs:=#[.int .i64 (g0 a),.int .i64 (g1 a),.int .i64 (g2 a),.string ⟨(g3 a).toArray⟩]) (off:=2) (v:=.int .i64 (g2 a)) s2 rfl;have p3:=gH (w:=w) (cs:=#[.int .i64 (g0 a),.int .i64 (g1 a),.int .i64 (g2 a),.string ⟨(g3 a).toArray⟩]) (off:=3) (v:=.string ⟨(g3 a).toArray⟩) s3 rfl;have hi:∀(n:Nat) (k:Int) T,P.underlying T=some (.int .i64)->(Instr.checkKey b (n+1) T (.int .i64 k)).run P w=.ok () w:=by simp_all[Instr.checkKey,run_underlying,Result.andThen]
 have hs:∀ n:Nat,(Instr.checkKey b (n+1) F3.type (.string ⟨(g3 a).toArray⟩)).run P w=.ok () w:=λn=>by simp[Instr.checkKey,run_underlying u3,Result.andThen]
 have hh:∀ n:Nat,(Instr.checkKey b (n+1+1) K (rI (g0 a) (g1 a) (g2 a) (g3 a))).run P w=.ok () w:=by intro n;rw[rI,Instr.checkKey];simp only[Sem.run_bind,run_underlying hK,Result.andThen_ok];simp[n0,n1,n2,n3,o0,o1,o2,o3,p0,p1,p2,p3,hi,u0,u1,u2,hs,Result.andThen]
 grind;have p0:=λa:κ=>gH (w:=w) (cs:=#[.int .i64 (g0 a),.int .i64 (g1 a),.int .i64 (g2 a),.string ⟨(g3 a).toArray⟩]) (off:=0) (v:=.int .i64 (g0 a)) s0 rfl;have p1:=λa:κ=>gH (w:=w) (cs:=#[.int .i64 (g0 a),.int .i64 (g1 a),.int .i64 (g2 a),.string ⟨(g3 a).toArray⟩]) (off:=1) (v:=.int .i64 (g1 a)) s1 rfl;have p2:=λa:κ=>gH (w:=w) (cs:=#[.int .i64 (g0 a),.int .i64 (g1 a),.int .i64 (g2 a),.string ⟨(g3 a).toArray⟩]) (off:=2) (v:=.int .i64 (g2 a)) s2 rfl;have p3:=λa:κ=>gH (w:=w) (cs:=#[.int .i64 (g0 a),.int .i64 (g1 a),.int .i64 (g2 a),.string ⟨(g3 a).toArray⟩]) (off:=3) (v:=.string ⟨(g3 a).toArray⟩) s3 rfl;rw[rI,rI,Op.equal,show Op.maxDepth=9999+1 from rfl,run_equalIn_struct w 9999 K _ _ ol hp,hf];have q0:(Op.equalIn 9999 F0.type (.int .i64 (g0 a)) (.int .i64 (g0 b))).run P w=_:=nP (d:=9998) u0;have q1:(Op.equalIn 9999 F1.type (.int .i64 (g1 a)) (.int .i64 (g1 b))).run P w=_:=nP (d:=9998) u1;have q2:(Op.equalIn 9999 F2.type (.int .i64 (g2 a)) (.int .i64 (g2 b))).run P w=_:=nP (d:=9998) u2;have q3:(Op.equalIn 9999 F3.type (.string ⟨(g3 a).toArray⟩) (.string ⟨(g3 b).toArray⟩)).run P w=_:=D7 (d:=9998) u3;generalize (g0 a == g0 b)=z0 at *;generalize (g1 a == g1 b)=z1 at *;generalize (g2 a == g2 b)=z2 at *;generalize (g3 a == g3 b)=z3 at *;simp only[Op.eqFields,n0,n1,n2,n3,o0,o1,o2,o3,ne_eq,not_false_eq_true,yt,Sem.run_bind,p0,p1,p2,p3,Result.andThen_ok,q0,q1,q2,q3];cases z0<;>cases z1<;>cases z2<;>cases z3<;>simp[p1,p2,p3,q1,q2,q3,Result.andThen]
theorem lv4{a b c:Int}{s:Be}:∀ w S γ v,Ly.val w S γ (.agg [ab a,ab b,ab c,am s]) v->v=rI a b c s:=by intro w S γ v h;obtain⟨cs,rfl,h⟩:=h;obtain⟨c1,j,i,d,h⟩:=h;obtain⟨c2,k,rfl,e,h⟩:=h;obtain⟨c3,l,rfl,f,h⟩:=h;obtain⟨c4,m,rfl,g,h⟩:=h;cases h;obtain⟨n,rfl,rfl,_⟩:=d;obtain⟨v2,rfl,rfl,_⟩:=e;obtain⟨v3,rfl,rfl,_⟩:=f;obtain⟨v4,rfl,rfl,_⟩:=g;cases cs;grind[rI]
def Oo:Ly:=.cell (UQ (.map none) rfl)
theorem Jnq:Zr Oo [.map none]:=λ_ _ _=>⟨_,rfl,rfl⟩
theorem Jnr:∀ w S γ,Ly.val w S γ (ab 0) (.int .i64 0):=λ_ _ _=>⟨rfl,oc⟩
theorem sgN{κ α:Type}{e:κ->κ->Bool}{a:List (κ×α)}{p:κ}{u}(h:eQ (dU e a p).isNone=some u):dU e a p=none:=by have:=lh h;simp_all
section aG
variable {X:Cx}{st:Nat->Option Ly}{mm:Nat->Option Ct}
theorem D9{κ α:Type}(i:κ->Value)(f:α->Ly){d T ty pos af y}(g:mm y=none)(hd:Nat.blt d X.N=true):
 ax X st mm ⟨some d,.makeMap T none,ty,pos,af,none⟩ [(d,.own y)] [(y,jK i f [])]:=
 qK hd g rfl λa w γ hi=>by
  refine⟨.map (some w.heap.size),w.alloc (.map #[] 0),?_,rfl,rfl,rfl,pw _ _ _,rfl,
   λS γ' j k e=>⟨w.heap.size,#[],0,e,tD _ _,rfl,by simp[jK,Ly.vals,Mv]⟩,by simp_all[aC]⟩
  rfl
theorem Eb{κ α:Type}{k:κ->Value}{f:α->Ly}{id j}{a w γ}(l:bq X st mm a w γ)(m:mm id=some (jK k f j)):∃ g i d,γ id=some (.map (some g))/\w.heap[g]?=some (.map i d)/\i.toList.map (·.key)=j.map (λe=>k e.1)/\Ly.vals w (X.S γ mm) γ (j.map λe=>f e.2) (i.toList.map (·.val))/\Mv i d:=l.cts id _ m
theorem lkS{κ α:Type}{l:κ->Value}{e:κ->κ->Bool}{f:α->Ly}{L:κ->Ly}(z0:α){d T K E id r x i ty pos af p k b z}(M:mm id=some (jK l f r))(A:X.P.underlying T=some (.map K E))(q:mq X.P K l e)(I:eU X.P E k b z)(P:∀ w S γ,Ly.val w S γ (f z0) z)
 (J:∀ w S γ v,Ly.val w S γ (L p) v->v=l p) (hd:Nat.blt d X.N=true) (N:ac st x (.own id)) (hi:ac st i (L p)) :
 ax X st mm ⟨some d,.lookup T x i true,ty,pos,af,none⟩ [(d,.tup [f ((dU e r p).getD z0),bl (dU e r p).isSome])] []:=
 Wv hd λa w γ m=>by
  obtain⟨g,O,C,F,u,G,H,_⟩:=Eb m M;obtain⟨j,_⟩:=N.val m;rw[F] at j;have j:a.eval x=.map (some g):=ol
  have B:a.eval i=l p:=J _ _ _ _ (hi.val m);rcases rH q w p G H with ⟨s,t⟩ | ⟨y,n,v,s,t,Q⟩;refine⟨.tuple #[z,.bool false],?_,#[z,.bool false],rfl,_,_,rfl,?_,_,_,rfl,?_,rfl⟩;simp only[execOp,j,B];simp[Instr.lookup,run_underlying A,MapKept.run_getObj_map u,q.chk,t,qJ I,Result.andThen];grind;rw[s];exact rfl;refine⟨.tuple #[v,.bool true],?_,#[v,.bool true],rfl,_,_,rfl,?_,_,_,rfl,?_,rfl⟩;simp only[execOp,j,B];simp[Instr.lookup,run_underlying A,MapKept.run_getObj_map u,q.chk,t,Result.andThen];grind;rw[s];exact rfl
theorem upS{κ α:Type}{k:κ->Value}{e:κ->κ->Bool}{f:α->Ly}{L:κ->Ly}{T K E id B x i v ty pos af p}{y:α}(M:dU e B p=none)(J:mm id=some (jK k f B))(W:X.P.underlying T=some (.map K E))(G:mq X.P K k e)
 (V:∀ w S γ v,Ly.val w S γ (L p) v->v=k p) (N:ac st x (.own id)) (hi:ac st i (L p)) (hv:ac st v (f y)) :
 ax X st mm ⟨none,.mapUpdate T x i v,ty,pos,af,none⟩ [] [(id,jK k f (B++[(p,y)]))]:=by
 intro a w γ K' Q q H;obtain⟨g,O,j,u,C,P,U,A⟩:=Eb q J;obtain⟨m,_⟩:=N.val q;rw[u] at m;have m:a.eval x=.map (some g):=ol
 have Z:a.eval i=k p:=V _ _ _ _ (hi.val q);have hvv:=hv.val q;have hg:g<w.heap.size:=(Array.getElem?_eq_some_iff.1 C).1;rcases rH G w p P U with ⟨q1,R⟩ | ⟨y',n,v',q1,R,q3⟩
 case inr=>grind
 let w':World:={ w with heap:=w.heap.setIfInBounds g (.map (O.push ⟨k p,a.eval v,j⟩) (j+1)) }
 have l:Kp (λb=>b=g) w w':=⟨by simp[w'],λb I M=>ol⟩
 have r:w'.heap[g]?=some (.map (O.push ⟨k p,a.eval v,j⟩) (j+1)):=ol
 have t:(execOp a.eval ⟨none,.mapUpdate T x i v,ty,pos,af,none⟩).run X.P w=.ok .skip w':=by simp only[execOp,m,Z];simp[Instr.mapUpdate,run_underlying W,MapKept.run_getObj_map C,G.chk,R,MapKept.run_setObj_map _ C,Result.andThen,w']
 have s:Ow γ mm g:=⟨id,_,_,J,rfl,u,rfl⟩
 have F:=q.setc (w':=w') (ct:=jK k f (B++[(p,y)])) rfl rfl rfl J rfl u rfl l rfl ⟨g,_,_,u,r,by simp[P],?_,?_⟩
 . unfold Oper.wp
   rw[t];exact H _ _ _ F
 . refine Ly.vals_mono (S:=X.S γ mm) ⟨l.1,λb I M=>l.2 b I λe=>M (e ▸ .inr s)⟩ ol (λ_ _ h=>h) _ _ ?_
   grind[XI]
 . refine⟨?_,λe d=>?_,λe d=>?_⟩
   . rw[Array.toList_push,vi,List.nodup_append]
     refine⟨A.1,oh,λa Y b I e=>?_⟩;obtain⟨x,N,rfl⟩:=xv.1 Y;have:=A.2.1 x N;grind
   . rw[Array.toList_push,yz] at d
     rcases d with d | d
     . exact Nat.lt_succ_of_lt (A.2.1 e d)
     grind
   . rw[Array.toList_push,yz] at d
     rcases d with d | d
     . exact A.2.2 e d
     . simp at d;subst d;exact G.nk p
end aG
end Go.Proofs.YthdbapalogijdaaGreatDoor
