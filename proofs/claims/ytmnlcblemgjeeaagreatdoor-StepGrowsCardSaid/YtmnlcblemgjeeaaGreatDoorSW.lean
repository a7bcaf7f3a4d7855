import Derived.Test.YtmnlcblemgjeeaaGreatDoorSE
namespace Go.Proofs.YtmnlcblemgjeeaaGreatDoor
open Go Go.RowKit
set_option maxRecDepth 10000
def Out(f0:List (Nat×Ct)):Prop:=∀ y,y=100\/y=7\/200<=y->lk f0 y=none
theorem Qb0{α:Type}:∀(a b:List (Nat×α)) (y:Nat),lk (a++b) y=match lk a y with | some x=>some x | none=>lk b y
 | [],_,_=>rfl
 | (i,x)::a,b,y=>by simp only[xp,lk];cases Nat.beq i y;exact Qb0 a b y;rfl
theorem Qvp{f0:List (Nat×Ct)}(h:(f0.all λe=>Nat.blt e.1 200 && !Nat.beq e.1 100 && !Nat.beq e.1 7)=true):Out f0:=by
 intro y hy
 induction f0 with
 | nil=>rfl
 | cons e f0 a=>
   obtain⟨i,c⟩:=e;simp only[List.all_cons,xq,yu,Nat.blt_eq] at h;have d:i≠100:=λe=>by have:=h.1.1.2;rw[e] at this;exact absurd this oy
   have g:i≠7:=λe=>by have:=h.1.2;rw[e] at this;exact absurd this oy
   rw[lk_ne om];exact a h.2
theorem RnC1.mono{σ σ2:List (Nat×Nat)}(hs:∀ y x,lk σ y=some x->lk σ2 y=some x){c a:Ct}(h:RnC1 σ c a):RnC1 σ2 c a:=by
 rcases h with h | h;left;cases c<;>cases a<;>simp only[RnC] at h |-<;>first | exact h | exact⟨h.1,h.2.1,h.2.2.1,λw S γ γ' d=>h.2.2.2.1 w S γ γ' λy x e=>d y x (hs y x e),h.2.2.2.2⟩ | exact⟨h.1,λw S γ γ' d=>h.2 w S γ γ' λy x e=>d y x (hs y x e)⟩ | exact h.elim
 exact .inr h
def idn(f0:List (Nat×Ct)):List (Nat×Nat):=f0.map λe=>(e.1,e.1)
theorem Qrx{f0:List (Nat×Ct)}{y:Nat}:lk (idn f0) y=match lk f0 y with | some _=>some y | none=>none:=by
 induction f0 with
 | nil=>rfl
 | cons e f0 d=>
   obtain⟨i,c⟩:=e;simp only[idn,yz,lk];cases a:Nat.beq i y;exact d;have:=oj a;subst this;rfl
theorem EntH.frame{X:Cx}{σ:List (Nat×Nat)}{m mm m' f0:List (Nat×Ct)}(h:EntH { X with g0:=λ_=>none } σ m m')(A:∀ id v,X.g0 id=some v->∃ c,lk f0 id=some c)(hm:∀ y x,lk σ y=some x->lk mm x=lk m x)
 (J:∀ y,(∃ c,lk f0 y=some c)->lk σ y=none/\lk m' y=none) (C:∀ y x,lk σ y=some x->lk f0 x=none) (w:∀ y c,lk f0 y=some c->∃ c0,lk mm y=some c0/\RnC1 [] c0 c):EntH X (idn f0++σ) mm (f0++m'):=by
 have n:∀ y,lk (idn f0++σ) y=match lk f0 y with | some _=>some y | none=>lk σ y:=λy=>by rw[Qb0,Qrx];cases lk f0 y<;>rfl
 have p:∀ y x,lk σ y=some x->lk (idn f0++σ) y=some x:=λy x e=>by
  rw[n];cases i:lk f0 y with
  | none=>exact e
  | some c=>rw[(J y ⟨c,i⟩).1] at e;cases e
 refine⟨?_,λid v h=>(by obtain⟨c,w⟩:=A id v h;rw[n,w]),?_,?_⟩;intro y q x c s a j t H u I;rw[n] at a j;rw[Qb0] at t u;cases i:lk f0 y with
 | some d=>
   rw[i] at a;simp only[Option.some.injEq] at a;subst a;cases g:lk f0 q with
   | some F=>rw[g] at j;simpa using j.symm
   | none=>rw[g] at j;rw[C q y j] at i;cases i
 | none=>
   rw[i] at a t;cases g:lk f0 q with
   | some F=>
     rw[g] at j;simp only[Option.some.injEq] at j;subst j;rw[C y q a] at g;cases g
   | none=>rw[g] at j u;exact h.hn y q x c s a j t H u I
 intro y x a;rw[n] at a;rw[Qb0];cases i:lk f0 y with
 | some d=>exact⟨d,rfl⟩
 | none=>rw[i] at a;exact h.hs y x a
 intro y s a;rw[Qb0] at a;cases i:lk f0 y with
 | some d=>
   rw[i] at a;simp only[Option.some.injEq] at a;subst a;obtain⟨c0,r,B⟩:=w y d i;exact⟨y,c0,by rw[n,i],r,B.mono (λ_ _ e=>by cases e)⟩
 | none=>
   rw[i] at a;obtain⟨x,c,r,B,K⟩:=h.hm y s a;exact⟨x,c,p y x r,by rw[hm y x r];exact B,K.mono p⟩
def AllR:List (Nat×Ct)->Prop
 | []=>True
 | (_,c)::r=>RnC1 [] c c/\AllR r
theorem AllR.get:∀ {f0:List (Nat×Ct)},AllR f0->∀ y c,lk f0 y=some c->RnC1 [] c c
 | (i,d)::r,h,y,c,hy=>by simp only[lk] at hy;cases a:Nat.beq i y;rw[a] at hy;exact h.2.get y c hy;rw[a] at hy;cases hy;exact h.1
section rows
variable {X:Cx}{R:Type}{md:Option R}{G:R->Act->World->Prop}{l l':List (Nat×Ly)}{α:Type}{f:α->Ly}{E1 E k:Nat}
def takS(n i:Nat):List (Nat×Nat):=(100,100)::(7,200+i)::((List.range n).filter λj=>!decide (j=i)).map λj=>(200+j,200+j)
theorem Qib{n i y:Nat}:lk (takS n i) y=if y=100 then some 100 else if y=7 then some (200+i) else if 200<=y/\(y - 200<n/\y - 200≠i) then some y else none:=by
 unfold takS;by_cases a:y=100;subst a;rw[lk_eq,oi rfl];rw[lk_ne a,oh a];by_cases d:y=7;subst d;rw[lk_eq,oi rfl];rw[lk_ne d,oh d,Qbz];simp only[vi,ud];by_cases c:200<=y/\(y - 200<n/\y - 200≠i)
 rw[oi c,oi ⟨c.1,c.2.1,by simp[c.2.2]⟩,show 200+(y - 200)=y by omega];rw[oh c,oh λg=>c ⟨g.1,g.2.1,by simpa using g.2.2⟩]
theorem Qez{f0:List (Nat×Ct)}(a:Out f0)(n:AllR f0)(p:∀ x,IF (f x))(g:∀ id v,X.g0 id=some v->∃ c,lk f0 id=some c){s:List (List α)}{i:Nat}{r:List α}(t:s[i]?=some r)(q:RnL (idn f0++takS s.length i) l l'):Ent X l (f0++rowM E1 E k f s) l' (f0++rowM7 E1 E k f s i r):=by
 have hn:∀ y c,lk f0 y=some c->y≠100/\y≠7/\y<200:=λy c h=>⟨λe=>(by rw[a y (.inl e)] at h;cases h),λe=>(by rw[a y (.inr (.inl e))] at h;cases h),Nat.lt_of_not_le λe=>by rw[a y (.inr (.inr e))] at h;cases h⟩
 refine(EntH.frame (f0:=f0) (mm:=f0++rowM E1 E k f s) (Qrv (X:={ X with g0:=λ_=>none }) (E1:=E1) (E:=E) (k:=k) p (λ_=>rfl) t) g ?_ ?_ ?_ ?_).ent q;intro y x h;have h:lk (takS s.length i) y=some x:=h;rw[Qib] at h;have u:lk f0 x=none:=by split at h;cases h;exact a 100 (.inl rfl);split at h;cases h;exact a _ (.inr (.inr om));split at h;rename_i c;cases h;exact a _ (.inr (.inr c.1));cases h
 rw[Qb0,u];rintro y ⟨c,d⟩;obtain⟨j,m,w⟩:=hn y c d;refine⟨?_,?_⟩;show lk (takS s.length i) y=none;rw[Qib,oh j,oh m,oh om];rw[Xb j m,oh om];intro y x h;have h:lk (takS s.length i) y=some x:=h;rw[Qib] at h;split at h;cases h;exact a 100 (.inl rfl);split at h;cases h;exact a _ (.inr (.inr om));split at h;rename_i c;cases h;exact a _ (.inr (.inr c.1));cases h;intro y c d;exact⟨c,by rw[Qb0,d],n.get y c d⟩
theorem Qhe{f0:List (Nat×Ct)}(m:Out f0)(q:Nat)(C:(Nat.blt q 200 && !Nat.beq q 100)=true)(p:lk f0 q=none)(A:∀ x,IF (f x))(n:∀ id v,X.g0 id=some v->∃ c,lk f0 id=some c){s:List (List α)}{i:Nat}{r z:List α}{a:List (Nat×Ct)}(hi:i<s.length)
 (d:lk a 100=some (.sl E1 1 ((((List.range s.length).map λj=>if j=i then 7 else 200+j).set i q).map Ly.own))) (g:lk a q=some (.sl E k (z.map f)))
 (hrest:∀ y,200<=y->lk a y=lk (rowM7 E1 E k f s i r) y) (u:∀ y c,lk f0 y=some c->∃ c0,lk a y=some c0/\RnC1 [] c0 c)
 (B:RnL (idn f0++namS s.length λj=>if j=i then q else 200+j) l l'):Ent X l a l' (f0++rowM E1 E k f (s.set i z)):=by
 have hn:∀ y c,lk f0 y=some c->y≠100/\y<200:=λy c h=>⟨λe=>(by rw[m y (.inl e)] at h;cases h),Nat.lt_of_not_le λe=>by rw[m y (.inr (.inr e))] at h;cases h⟩
 refine(EntH.frame (f0:=f0) (mm:=a) (Qrw (X:={ X with g0:=λ_=>none }) (E1:=E1) (E:=E) (k:=k) q C A (λ_=>rfl) hi d g hrest) n (λ_ _ _=>rfl) ?_ ?_ u).ent B;rintro y ⟨c,w⟩;obtain⟨t,F⟩:=hn y c w;refine⟨?_,?_⟩;rw[Qbf,oh t,oh om];rw[Qd9 t,oh om];intro y x h;rw[Qbf] at h;split at h;cases h;exact m 100 (.inl rfl);split at h;rename_i c;cases h;split;exact p;exact m _ (.inr (.inr om));cases h
theorem Qs5{f0:List (Nat×Ct)}(Q:Out f0){xs:List (List α)}{b:Nat}{p:Int}{l1:List (Nat×Ly)}(L:mkM b ([]:List α) p=some xs)(hl:SubL l1 l):Ent X l ((100,.sl E1 1 (xs.map λ_=>nilL))::f0) l1 (f0++rowM E1 E k f xs):=by
 obtain⟨n,rfl⟩:∃ n,xs=List.replicate n []:=by unfold mkM at L;split at L;cases L;exact⟨_,rfl⟩;cases L
 rw[show((List.replicate n ([]:List α)).map λ_=>nilL)=(List.replicate n ()).map λ_=>nilL by simp];intro a w γ hi;let ys:List (Nat×Nat×Nat):=(List.range n).map λj=>(200+j,E,k)
 have S:∀(s:List Nat),Qg6 (lk ((100,Ct.sl E1 1 ((List.replicate n ()).map λ_=>nilL))::f0)) (s.map λj=>(200+j,E,k)):=by
  intro s
  induction s with
  | nil=>trivial
  | cons j s K=>
    refine⟨?_,K⟩;show lk _ (200+j)=none;rw[lk_ne om];exact Q _ (.inr (.inr om))
 have T:∀ m:Nat,nodupB (((List.range m).map λj=>(200+j,E,k)).map (·.1))=true:=by
  intro m;have B:∀(s:List Nat),s.Nodup->nodupB ((s.map λj=>(200+j,E,k)).map (·.1))=true:=by
   intro s
   induction s with
   | nil=>intro _;rfl
   | cons j s K=>
     intro h;rw[List.nodup_cons] at h;simp only[yz,nodupB,K h.2,Bool.and_true,yu,List.any_eq_false,xd];rintro x ⟨e,⟨i,hi,rfl⟩,rfl⟩ C;have:=oj C;have:j=i:=by simp only[] at this;omega
     subst this;exact h.1 hi
  exact B _ List.nodup_range
 obtain⟨γ',t,W,h3,h4⟩:=hi.nils ys (S _) (T n);have I:∀ j,j<n->γ' (200+j)=some (.slice none 0 0):=λj hj=>h3 (200+j,E,k) (xd.2 ⟨j,ud.2 hj,rfl⟩);have enil:nilM ys=(List.range n).map λj=>(200+j,Ct.sl E k []):=by simp[nilM,ys,va,Function.comp_def]
 have F:∀ y,lk (f0++rowM E1 E k f (List.replicate n ([]:List α))) y=if y=100 then some (.sl E1 1 (((List.range n).map λj=>200+j).map Ly.own)) else match lk (nilM ys) y with | some c=>some c | none=>lk f0 y:=by intro y;rw[Qb0];by_cases c:y=100;subst c;rw[oi rfl,Q 100 (.inl rfl)];show some _=_;rw[yt];rw[oh c,Qd9 c,enil,Qbz];simp only[ud,yt];by_cases g:200<=y/\y - 200<n;rw[oi g,oi g,Q y (.inr (.inr g.1))];rw[show(List.replicate n ([]:List α)).getD (y - 200) []=[] by rw[yn,List.getElem?_replicate,oi g.2];rfl];rfl;rw[oh g,oh g];cases lk f0 y<;>rfl
 have r:∀ y,up (lk ((100,Ct.sl E1 1 ((List.replicate n ()).map λ_=>nilL))::f0)) (nilM ys) y=if y=100 then some (.sl E1 1 ((List.replicate n ()).map λ_=>nilL)) else match lk (nilM ys) y with | some c=>some c | none=>lk f0 y:=by
  intro y;by_cases c:y=100;subst c;rw[oi rfl];simp only[up];rw[enil,Qbz,oh om];rfl;rw[oh c];simp only[up];cases hq:lk (nilM ys) y with
  | some _=>rfl
  | none=>rw[lk_ne c]
 generalize hU:up (lk ((100,Ct.sl E1 1 ((List.replicate n ()).map λ_=>nilL))::f0)) (nilM ys)=U at t r;have q:∀ y c,lk (f0++rowM E1 E k f (List.replicate n ([]:List α))) y=some c->∃ c0,U y=some c0/\(c.alive=true->c0.alive=true):=by intro y c A;rw[F] at A;rw[r];split at A;rename_i e;rw[oi e];exact⟨_,rfl,λ_=>rfl⟩;rename_i e;rw[oh e];exact⟨c,A,λh=>h⟩
 have J:∀ b,Ow γ' (lk (f0++rowM E1 E k f (List.replicate n ([]:List α)))) b->Ow γ' U b:=by rintro b ⟨y,c,v,g1,H,g3,g4⟩;obtain⟨c0,O,P⟩:=q y c g1;exact⟨y,c0,v,O,P H,g3,g4⟩
 have Y:∀ b,X.S γ' (lk (f0++rowM E1 E k f (List.replicate n ([]:List α)))) b->X.S γ' U b:=λb h=>orM h (λx=>x) (J b);refine⟨γ',{ t with fresh:=?_,cts:=?_,apart:=?_,mine:=?_,sts:=?_ }⟩;intro y hy;refine t.fresh y ?_;rw[F] at hy;rw[r];split at hy;cases hy;rename_i e;rw[oh e];exact hy;intro y c A;rw[F] at A;split at A;rename_i e;subst e;cases A;obtain⟨v,cs,a1,a2,a3,a4⟩:=t.cts 100 (.sl E1 1 ((List.replicate n ()).map λ_=>nilL)) (by rw[r,oi rfl]);refine⟨v,cs,a1,by simpa using a2,?_,Qkb⟩
 have B:∀(m:Nat) (g:Nat->Nat) (cs:List Value),(∀ j,j<m->γ' (g j)=some (.slice none 0 0))->Ly.holds w (X.S γ' U) γ' ((List.replicate m ()).map λ_=>nilL) cs ->
  Ly.holds w (X.S γ' (lk (f0++rowM E1 E k f (List.replicate n ([]:List α))))) γ' (((List.range m).map g).map Ly.own) cs:=by
  intro m
  induction m with
  | zero=>intro g cs _ h;exact h
  | succ m K=>
    intro g cs Z h;rw[uj,yz] at h;obtain⟨c1,V,rfl,⟨u,rfl,rfl⟩,W⟩:=h;rw[List.range_succ_eq_map,yz,yz,va (g:=g)];exact⟨_,V,rfl,⟨_,rfl,Z 0 om,rfl⟩,K (g ∘ Nat.succ) V (λj hj=>Z (j+1) om) W⟩
 exact B n (λj=>200+j) cs I a3;rename_i e;have:=t.cts y c (by rw[r,oh e];exact A);exact this.mono (Kp.refl _ _) (λb C=>.inl (Y b C)) (Ng.refl _) (λ_ _ _ _=>rfl);intro y y' c c' v v' b g1 H g3 g4 O P g7 g8;obtain⟨d,e1,e2⟩:=q y c g1;obtain⟨d',M,N⟩:=q y' c' g3;exact t.apart y y' d d' v v' b e1 (e2 H) M (N g4) O P g7 g8;intro b C;exact t.mine b (J b C);intro d ly hd;obtain⟨v,g1,H⟩:=t.sts d ly (hl.lk d ly hd);exact⟨v,g1,Ly.val_mono (Kp.refl _ _) (λb C=>.inl (Y b C)) (Ng.refl _) ly v H⟩
theorem Qji{α:Type}{s:List α}{i:Nat}{r:α}(h:s[i]?=some r):s.set i r=s:=by apply List.ext_getElem?;intro j;rw[List.getElem?_set];by_cases e:i=j;subst e;rw[oi rfl,h];split;rfl;rename_i a;rw[ol om] at h;exact h;rw[oh e]
theorem Qry{f0:List (Nat×Ct)}(q:Out f0)(n:lk f0 7=none)(t:∀ x,IF (f x))(g:∀ id v,X.g0 id=some v->∃ c,lk f0 id=some c){s:List (List α)}{i:Nat}{r:List α}{e:List (Nat×Ct)}(m:s[i]?=some r)
 (a:lk e 100=some (.sl E1 1 (((List.range s.length).map λj=>if j=i then 7 else 200+j).map Ly.own))) (d:lk e 7=some (.sl E k (r.map f)))
 (hrest:∀ y,200<=y->lk e y=lk (rowM7 E1 E k f s i r) y) (p:∀ y c,lk f0 y=some c->∃ c0,lk e y=some c0/\RnC1 [] c0 c)
 (u:RnL (idn f0++namS s.length λj=>if j=i then 7 else 200+j) l l'):Ent X l e l' (f0++rowM E1 E k f s):=by
 have hi:i<s.length:=by rcases xn i s.length with h | h;exact h;rw[ol h] at m;cases m
 have hs:((List.range s.length).map λj=>if j=i then 7 else 200+j).set i 7=(List.range s.length).map λj=>if j=i then 7 else 200+j:=Qji (by rw[xo,vz hi];simp)
 have:=Qhe (E1:=E1) (E:=E) (k:=k) (f:=f) q 7 rfl n t g (r:=r) (z:=r) hi (by rw[hs];exact a) d hrest p u;rw[Qji m] at this;exact this
def sam7(n i:Nat):List (Nat×Nat):=(100,100)::(7,7)::((List.range n).filter λj=>!decide (j=i)).map λj=>(200+j,200+j)
theorem Qbg{n i y:Nat}:lk (sam7 n i) y=if y=100\/y=7\/(200<=y/\(y - 200<n/\y - 200≠i)) then some y else none:=by
 unfold sam7;by_cases a:y=100;subst a;rw[lk_eq,oi (.inl rfl)];rw[lk_ne a];by_cases d:y=7;subst d;rw[lk_eq,oi (.inr (.inl rfl))];rw[lk_ne d,Qbz];simp only[vi,ud];by_cases c:200<=y/\(y - 200<n/\y - 200≠i)
 rw[oi ⟨c.1,c.2.1,by simp[c.2.2]⟩,oi (.inr (.inr c)),show 200+(y - 200)=y by omega];rw[oh λg=>c ⟨g.1,g.2.1,by simpa using g.2.2⟩,oh (λg=>g.elim a λg=>g.elim d c)]
theorem Qml{f0:List (Nat×Ct)}(t:Out f0)(w:∀ x,IF (f x))(u:∀ id v,X.g0 id=some v->∃ c,lk f0 id=some c){s:List (List α)}{i:Nat}{r r0:List α}{a:List (Nat×Ct)}
 (d:lk a 100=some (.sl E1 1 (((List.range s.length).map λj=>if j=i then 7 else 200+j).map Ly.own))) (g:lk a 7=some (.sl E k (r.map f)))
 (hrest:∀ y,200<=y->lk a y=lk (rowM7 E1 E k f s i r0) y) (C:∀ y c,lk f0 y=some c->∃ c0,lk a y=some c0/\RnC1 [] c0 c)
 (H:RnL (idn f0++sam7 s.length i) l l'):Ent X l a l' (f0++rowM7 E1 E k f s i r):=by
 have hn:∀ y c,lk f0 y=some c->y≠100/\y≠7/\y<200:=λy c h=>⟨λe=>(by rw[t y (.inl e)] at h;cases h),λe=>(by rw[t y (.inr (.inl e))] at h;cases h),Nat.lt_of_not_le λe=>by rw[t y (.inr (.inr e))] at h;cases h⟩
 have I:∀ y,200<=y->lk (rowM7 E1 E k f s i r0) y=lk (rowM7 E1 E k f s i r) y:=λy h=>by rw[Xb om om,Xb om om]
 have hk:EntH { X with g0:=λ_=>none } (sam7 s.length i) a (rowM7 E1 E k f s i r):=by refine⟨?_,λid v h=>(by cases h),?_,?_⟩;intro y K x c B p q _ _ _ _;rw[Qbg] at p q;split at p;split at q;cases p;cases q;rfl;cases q;cases p;intro y x h;rw[Qbg] at h;split at h;rename_i c;rcases c with c | c | c;subst c;exact⟨_,rfl⟩;subst c;exact⟨_,rfl⟩;rw[Xb om om,oi c];exact⟨_,rfl⟩;cases h;intro y B h;by_cases m:y=100;subst m;cases h;refine⟨100,_,by rw[Qbg,oi (.inl rfl)],d,.inl ⟨rfl,rfl,oa,?_,λ_=>Qkb⟩⟩;refine Qia λj A=>?_;have A:=ud.1 A;rw[Qbg];by_cases e:j=i;subst e;rw[oi rfl];rfl;rw[oh e,oi (.inr (.inr ⟨om,om,om⟩))];by_cases n:y=7;subst n;cases h;exact⟨7,_,by rw[Qbg,oi (.inr (.inl rfl))],g,.inl (rc_sl (Qfm w r))⟩;rw[Xb m n] at h;split at h;rename_i c;cases h;refine⟨y,_,by rw[Qbg,oi (.inr (.inr c))],?_,.inl (rc_sl (Qfm w _))⟩;rw[hrest y c.1,Xb m n,oi c];cases h
 refine(EntH.frame (f0:=f0) (mm:=a) hk u (λ_ _ _=>rfl) ?_ ?_ C).ent H;rintro y ⟨c,F⟩;obtain⟨m,n,J⟩:=hn y c F;refine⟨?_,?_⟩;rw[Qbg,oh om];rw[Xb m n,oh om];intro y x h;rw[Qbg] at h;split at h;rename_i c;cases h;exact t _ om;cases h
end rows
end Go.Proofs.YtmnlcblemgjeeaaGreatDoor
