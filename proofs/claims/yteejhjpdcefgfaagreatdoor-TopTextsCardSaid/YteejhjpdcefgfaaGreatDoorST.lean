import Derived.Test.YteejhjpdcefgfaaGreatDoorSH
namespace Go.Proofs.YteejhjpdcefgfaaGreatDoor
open Go Go.RowKit
structure KeyS(P:Program)(K:Nat){κ:Type}(kf:κ->Value)(e:κ->κ->Bool):Prop where
 un:∃ d,P.underlying K=some d/\∀ a b,Instr.sameNow d (kf a) (kf b)=none
 chk:∀ w a b,(Instr.checkKey b 10000 K (kf a)).run P w=.ok () w
 eq:∀ w a b,(Op.equal K (kf a) (kf b)).run P w=.ok (e a b) w
 nk:∀ a,KeyOk (kf a)
def mpS{κ α:Type}(d:κ->Value)(f:α->Ly)(a:List (κ×α)):Ct:=.mp (a.map λe=>d e.1) (a.map λe=>f e.2)
theorem findAsk{κ α:Type}{g:κ->Value}{e:κ->κ->Bool}{P:Program}{K:Nat}(s:KeyS P K g e){f:α->Ly}{w S γ}(w':World)(p:κ):∀(d:List (κ×α)) (a:List MapEntry) (j:Nat),a.map (·.key)=d.map (λe=>g e.1) ->
 Ly.vals w S γ (d.map λe=>f e.2) (a.map (·.val)) ->
 (sget e d p=none/\(Instr.findAsking K (g p) a j).run P w'=.ok none w')\/∃ x i v,sget e d p=some x/\(Instr.findAsking K (g p) a j).run P w'=.ok (some (i,v)) w'/\Ly.val w S γ (f x) v
 | [],[],j,_,_=>.inl ⟨rfl,rfl⟩
 | [],e::a,j,h,_=>by simp at h
 | (k,x)::d,[],j,h,_=>by simp at h
 | (k,x)::d,en::a,j,h,u=>by
   simp only[xw,List.cons.injEq] at h;obtain⟨hk,h⟩:=h;simp only[xw] at u;obtain⟨q,r⟩:=Qr9.1 u;have m:=s.eq w' p k;cases l:e p k with
   | true=>
     refine .inr ⟨x,j,en.val,by simp[sget,l],?_,q⟩;rw[l] at m;simp[Instr.findAsking,hk,m,Result.andThen]
   | false=>
     rw[l] at m;have t:sget e ((k,x)::d) p=sget e d p:=by simp[sget,l]
     have hs:(Instr.findAsking K (g p) (en::a) j).run P w'=(Instr.findAsking K (g p) a (j+1)).run P w':=by simp[Instr.findAsking,hk,m,Result.andThen]
     rcases findAsk s w' p d a (j+1) h r with ⟨g1,n⟩ | ⟨y,i,v,g1,n,g3⟩;exact .inl ⟨t.trans g1,hs.trans n⟩;exact .inr ⟨y,i,v,t.trans g1,hs.trans n,g3⟩
theorem findS{κ α:Type}{j:κ->Value}{e:κ->κ->Bool}{P:Program}{K:Nat}(l:KeyS P K j e){f:α->Ly}{w S γ}(w':World)(p:κ){g:List (κ×α)}{a:List MapEntry}(h:a.map (·.key)=g.map (λe=>j e.1))
 (n:Ly.vals w S γ (g.map λe=>f e.2) (a.map (·.val))) :
 (sget e g p=none/\(Instr.findKey K (j p) a).run P w'=.ok none w')\/∃ x i v,sget e g p=some x/\(Instr.findKey K (j p) a).run P w'=.ok (some (i,v)) w'/\Ly.val w S γ (f x) v:=by
 obtain⟨d,k,m⟩:=l.un;have hr:(Instr.findKey K (j p) a).run P w'=(Instr.findAsking K (j p) a).run P w':=by
  cases a with
  | nil=>simp[Instr.findKey,Instr.findNow,Instr.findAsking,run_underlying k,Result.andThen]
  | cons en a=>
    cases g with
    | nil=>simp at h
    | cons q g=>
      simp only[xw,List.cons.injEq] at h;simp[Instr.findKey,Instr.findNow,run_underlying k,Result.andThen,h.1,m]
 rw[hr];exact findAsk l w' p g a 0 h n
def kv4(a b c:Int)(s:List UInt8):Value:=.agg #[.int .i64 a,.int .i64 b,.int .i64 c,.string ⟨s.toArray⟩]
theorem part1{P:Program}{T:Nat}{cs:Array Value}{off:Nat}{v:Value}{w:World}(h:Shp P T false 1)(a:cs[off]?=some v):(part T cs off).run P w=.ok v w:=by simp[part,Qhd h,a]
theorem eqb_i{P:Program}{T d:Nat}{x y:Int}{w:World}(h:P.underlying T=some (.int .i64)):(Op.equalIn (d+1) T (.int .i64 x) (.int .i64 y)).run P w=.ok (x == y) w:=run_equalIn_int w d T _ _ x y h
theorem eqb_s{P:Program}{T d:Nat}{x y:List UInt8}{w:World}(h:P.underlying T=some .string):(Op.equalIn (d+1) T (.string ⟨x.toArray⟩) (.string ⟨y.toArray⟩)).run P w=.ok (x == y) w:=by have:=run_equalIn_string (P:=P) (w:=w) d T ⟨x.toArray⟩ ⟨y.toArray⟩ h;rw[Qph,Qph] at this;exact this
theorem keyS4{P:Program}{K:Nat}{κ:Type}{F0 F1 F2 F3:Field}(g0 g1 g2:κ->Int)(g3:κ->List UInt8)(hK:P.underlying K=some (.struct #[F0,F1,F2,F3]))(hp:P.stoodInHeld K=false)
 (hn:(F0.name == "_")=false∧(F1.name == "_")=false∧(F2.name == "_")=false∧(F3.name == "_")=false) (ho:F0.offset=0∧F1.offset=1∧F2.offset=2∧F3.offset=3)
 {T0 T1 T2 T3}(e0:F0.type=T0) (e1:F1.type=T1) (e2:F2.type=T2) (e3:F3.type=T3)
 (s0:Shp P T0 false 1) (s1:Shp P T1 false 1) (s2:Shp P T2 false 1) (s3:Shp P T3 false 1)
 (u0:P.underlying T0=some (.int .i64)) (u1:P.underlying T1=some (.int .i64)) (u2:P.underlying T2=some (.int .i64)) (u3:P.underlying T3=some .string) :
 KeyS P K (λx=>kv4 (g0 x) (g1 x) (g2 x) (g3 x)) (λx y=>(g0 x == g0 y) && ((g1 x == g1 y) && ((g2 x == g2 y) && ((g3 x == g3 y) && true)))):=by
 obtain⟨n0,n1,n2,n3⟩:=hn;obtain⟨o0,o1,o2,o3⟩:=ho;have n0:F0.name≠ "_":=by simpa using n0
 have n1:F1.name≠ "_":=by simpa using n1
 have n2:F2.name≠ "_":=by simpa using n2
 have n3:F3.name≠ "_":=by simpa using n3
 have hf:P.fieldsOf K=#[F0,F1,F2,F3]:=by simp[Program.fieldsOf,hK]
 subst e0 e1 e2 e3;refine⟨⟨_,hK,λa b=>rfl⟩,λw a b=>?_,λw a b=>?_,λa=>trivial⟩;have p0:=part1 (w:=w) (cs:=#[.int .i64 (g0 a),.int .i64 (g1 a),.int .i64 (g2 a),.string ⟨(g3 a).toArray⟩]) (off:=0) (v:=.int .i64 (g0 a)) s0 rfl;have p1:=part1 (w:=w) (cs:=#[.int .i64 (g0 a),.int .i64 (g1 a),.int .i64 (g2 a),.string ⟨(g3 a).toArray⟩]) (off:=1) (v:=.int .i64 (g1 a)) s1 rfl;have p2:=part1 (w:=w) (cs:=#[.int .i64 (g0 a),.int .i64 (g1 a),.int .i64 (g2 a),.string ⟨(g3 a).toArray⟩]) (off:=2) (v:=.int .i64 (g2 a)) s2 rfl;have p3:=part1 (w:=w) (cs:=#[.int .i64 (g0 a),.int .i64 (g1 a),.int .i64 (g2 a),.string ⟨(g3 a).toArray⟩]) (off:=3) (v:=.string ⟨(g3 a).toArray⟩) s3 rfl;have hi:∀(n:Nat) (k:Int) T,P.underlying T=some (.int .i64)->(Instr.checkKey b (n+1) T (.int .i64 k)).run P w=.ok () w:=λn k T h=>by simp[Instr.checkKey,run_underlying h,Result.andThen]
 have hs:∀ n:Nat,(Instr.checkKey b (n+1) F3.type (.string ⟨(g3 a).toArray⟩)).run P w=.ok () w:=λn=>by simp[Instr.checkKey,run_underlying u3,Result.andThen]
 have hh:∀ n:Nat,(Instr.checkKey b (n+1+1) K (kv4 (g0 a) (g1 a) (g2 a) (g3 a))).run P w=.ok () w:=by intro n;rw[kv4,Instr.checkKey];simp only[Sem.run_bind,run_underlying hK,Result.andThen_ok];simp[n0,n1,n2,n3,o0,o1,o2,o3,p0,p1,p2,p3,hi,u0,u1,u2,hs,Result.andThen]
 exact hh 9998;have p0:=λa:κ=>part1 (w:=w) (cs:=#[.int .i64 (g0 a),.int .i64 (g1 a),.int .i64 (g2 a),.string ⟨(g3 a).toArray⟩]) (off:=0) (v:=.int .i64 (g0 a)) s0 rfl;have p1:=λa:κ=>part1 (w:=w) (cs:=#[.int .i64 (g0 a),.int .i64 (g1 a),.int .i64 (g2 a),.string ⟨(g3 a).toArray⟩]) (off:=1) (v:=.int .i64 (g1 a)) s1 rfl;have p2:=λa:κ=>part1 (w:=w) (cs:=#[.int .i64 (g0 a),.int .i64 (g1 a),.int .i64 (g2 a),.string ⟨(g3 a).toArray⟩]) (off:=2) (v:=.int .i64 (g2 a)) s2 rfl;have p3:=λa:κ=>part1 (w:=w) (cs:=#[.int .i64 (g0 a),.int .i64 (g1 a),.int .i64 (g2 a),.string ⟨(g3 a).toArray⟩]) (off:=3) (v:=.string ⟨(g3 a).toArray⟩) s3 rfl;rw[kv4,kv4,Op.equal,show Op.maxDepth=9999+1 from rfl,run_equalIn_struct w 9999 K _ _ (by rw[hf];exact hK) hp,hf];have q0:(Op.equalIn 9999 F0.type (.int .i64 (g0 a)) (.int .i64 (g0 b))).run P w=_:=eqb_i (d:=9998) u0;have q1:(Op.equalIn 9999 F1.type (.int .i64 (g1 a)) (.int .i64 (g1 b))).run P w=_:=eqb_i (d:=9998) u1;have q2:(Op.equalIn 9999 F2.type (.int .i64 (g2 a)) (.int .i64 (g2 b))).run P w=_:=eqb_i (d:=9998) u2;have q3:(Op.equalIn 9999 F3.type (.string ⟨(g3 a).toArray⟩) (.string ⟨(g3 b).toArray⟩)).run P w=_:=eqb_s (d:=9998) u3;generalize (g0 a == g0 b)=z0 at *;generalize (g1 a == g1 b)=z1 at *;generalize (g2 a == g2 b)=z2 at *;generalize (g3 a == g3 b)=z3 at *;simp only[Op.eqFields,n0,n1,n2,n3,o0,o1,o2,o3,ne_eq,not_false_eq_true,uf,Sem.run_bind,p0,p1,p2,p3,Result.andThen_ok,q0,q1,q2,q3];cases z0<;>cases z1<;>cases z2<;>cases z3<;>simp[p1,p2,p3,q1,q2,q3,Result.andThen]
theorem lv4{a b c:Int}{s:List UInt8}:∀ w S γ v,Ly.val w S γ (.agg [i64 a,i64 b,i64 c,str s]) v->v=kv4 a b c s:=by intro w S γ v h;obtain⟨cs,rfl,h⟩:=h;obtain⟨c1,j,d,e,h⟩:=h;obtain⟨c2,k,rfl,f,h⟩:=h;obtain⟨c3,l,rfl,g,h⟩:=h;obtain⟨c4,m,rfl,i,h⟩:=h;cases h;obtain⟨n,rfl,rfl,_⟩:=e;obtain⟨v2,rfl,rfl,_⟩:=f;obtain⟨v3,rfl,rfl,_⟩:=g;obtain⟨v4,rfl,rfl,_⟩:=i;cases cs;simp only[kv4,wg,yv] at d |-;rw[d]
def nmpL:Ly:=.cell (cpX (.map none) rfl)
theorem Jiu:Zr nmpL [.map none]:=λ_ _ _=>⟨_,rfl,rfl⟩
theorem Jiv:∀ w S γ,Ly.val w S γ (i64 0) (.int .i64 0):=λ_ _ _=>⟨rfl,oy⟩
theorem sgN{κ α:Type}{e:κ->κ->Bool}{a:List (κ×α)}{p:κ}{u}(h:grd (sget e a p).isNone=some u):sget e a p=none:=by
 have:=Qr1 h
 simpa using this
section ops
variable {X:Cx}{st:Nat->Option Ly}{mm:Nat->Option Ct}
theorem mkMpS{κ α:Type}(j:κ->Value)(f:α->Ly){d T ty pos af y}(i:mm y=none)(hd:Nat.blt d X.N=true):
 OpOk X st mm ⟨some d,.makeMap T none,ty,pos,af,none⟩ [(d,.own y)] [(y,mpS j f [])]:=
 Qmn hd i rfl λa w γ hi=>by
  refine⟨.map (some w.heap.size),w.alloc (.map #[] 0),?_,rfl,rfl,rfl,Qdz _ _ _,rfl,
   λS γ' k l e=>⟨w.heap.size,#[],0,e,Qj1 _ _,rfl,by simp[mpS,Ly.vals,MpB]⟩,λb g=>by simp[blkOf] at g;subst g;simp⟩
  simp[execOp,Instr.makeMap,newObj,Sem.run]
theorem mpSI{κ α:Type}{k:κ->Value}{f:α->Ly}{id j}{a w γ}(hI:Inv X st mm a w γ)(l:mm id=some (mpS k f j)):∃ g i d,γ id=some (.map (some g))/\w.heap[g]?=some (.map i d)/\i.toList.map (·.key)=j.map (λe=>k e.1)/\Ly.vals w (X.S γ mm) γ (j.map λe=>f e.2) (i.toList.map (·.val))/\MpB i d:=hI.cts id _ l
theorem lkS{κ α:Type}{m:κ->Value}{e:κ->κ->Bool}{f:α->Ly}{L:κ->Ly}(z0:α){d T K E id r x i ty pos af p k b z}(J:mm id=some (mpS m f r))(u:X.P.underlying T=some (.map K E))(q:KeyS X.P K m e)(H:TyI X.P E k b z)(N:∀ w S γ,Ly.val w S γ (f z0) z)
 (I:∀ w S γ v,Ly.val w S γ (L p) v->v=m p) (hd:Nat.blt d X.N=true) (M:OpdF st x (.own id)) (hi:OpdF st i (L p)) :
 OpOk X st mm ⟨some d,.lookup T x i true,ty,pos,af,none⟩ [(d,.tup [f ((sget e r p).getD z0),bl (sget e r p).isSome])] []:=
 Vn hd λa w γ hI=>by
  obtain⟨g,P,B,C,t,F,G,_⟩:=mpSI hI J;obtain⟨j,_⟩:=M.val hI;rw[C] at j;have j:a.eval x=.map (some g):=by simpa using j.symm
  have A:a.eval i=m p:=I _ _ _ _ (hi.val hI);rcases findS q w p F G with ⟨l,s⟩ | ⟨y,n,v,l,s,O⟩;refine⟨.tuple #[z,.bool false],?_,#[z,.bool false],rfl,_,_,rfl,?_,_,_,rfl,?_,rfl⟩;simp only[execOp,j,A];simp[Instr.lookup,run_underlying u,MapKept.run_getObj_map t,q.chk,s,Qai H,Result.andThen];rw[l];exact N _ _ _;rw[l];exact rfl;refine⟨.tuple #[v,.bool true],?_,#[v,.bool true],rfl,_,_,rfl,?_,_,_,rfl,?_,rfl⟩;simp only[execOp,j,A];simp[Instr.lookup,run_underlying u,MapKept.run_getObj_map t,q.chk,s,Result.andThen];rw[l];exact O;rw[l];exact rfl
theorem upS{κ α:Type}{l:κ->Value}{e:κ->κ->Bool}{f:α->Ly}{L:κ->Ly}{T K E id C x i v ty pos af p}{y:α}(r:sget e C p=none)(J:mm id=some (mpS l f C))(Y:X.P.underlying T=some (.map K E))(H:KeyS X.P K l e)
 (W:∀ w S γ v,Ly.val w S γ (L p) v->v=l p) (N:OpdF st x (.own id)) (hi:OpdF st i (L p)) (hv:OpdF st v (f y)) :
 OpOk X st mm ⟨none,.mapUpdate T x i v,ty,pos,af,none⟩ [] [(id,mpS l f (C++[(p,y)]))]:=by
 intro a w γ K' Q hI I;obtain⟨g,P,j,A,F,R,U,B⟩:=mpSI hI J;obtain⟨k,_⟩:=N.val hI;rw[A] at k;have k:a.eval x=.map (some g):=by simpa using k.symm
 have hp:a.eval i=l p:=W _ _ _ _ (hi.val hI);have M:=hv.val hI;have hg:g<w.heap.size:=(gb.1 F).1;rcases findS H w p R U with ⟨O,V⟩ | ⟨y',n,v',O,V,q3⟩
 case inr=>rw[r] at O;cases O
 let w':World:={ w with heap:=w.heap.setIfInBounds g (.map (P.push ⟨l p,a.eval v,j⟩) (j+1)) }
 have m:Kp (λb=>b=g) w w':=⟨by simp[w'],λb q r=>by simp[w',uq (Ne.symm r)]⟩
 have s:w'.heap[g]?=some (.map (P.push ⟨l p,a.eval v,j⟩) (j+1)):=by simp[w',hg]
 have u:(execOp a.eval ⟨none,.mapUpdate T x i v,ty,pos,af,none⟩).run X.P w=.ok .skip w':=by simp only[execOp,k,hp];simp[Instr.mapUpdate,run_underlying Y,MapKept.run_getObj_map F,H.chk,V,MapKept.run_setObj_map _ F,Result.andThen,w']
 have t:Ow γ mm g:=⟨id,_,_,J,rfl,A,rfl⟩
 have G:=hI.setc (w':=w') (ct:=mpS l f (C++[(p,y)])) rfl rfl rfl J rfl A rfl m rfl ⟨g,_,_,A,s,by simp[R],?_,?_⟩
 . unfold Oper.wp
   rw[u];exact I _ _ _ G
 . refine Ly.vals_mono (S:=X.S γ mm) ⟨m.1,λb q r=>m.2 b q λe=>r (e ▸ .inr t)⟩ (λb h=>.inl h) (λ_ _ h=>h) _ _ ?_
   rw[xu,Array.toList_push,xu];exact Qyg U M
 . refine⟨?_,λe d=>?_,λe d=>?_⟩
   . rw[Array.toList_push,xu,List.nodup_append]
     refine⟨B.1,oc,λa Z b q e=>?_⟩;obtain⟨x,N,rfl⟩:=xy.1 Z;have:=B.2.1 x N;simp at q;subst q;omega
   . rw[Array.toList_push,xk] at d
     rcases d with d | d
     . exact Nat.lt_succ_of_lt (B.2.1 e d)
     . simp at d;subst d;exact Nat.lt_succ_self _
   . rw[Array.toList_push,xk] at d
     rcases d with d | d
     . exact B.2.2 e d
     . simp at d;subst d;exact H.nk p
end ops
end Go.Proofs.YteejhjpdcefgfaaGreatDoor
