import Derived.Test.YtmnalemmhfjacaaGreatDoorSB
namespace Go.Proofs.YtmnalemmhfjacaaGreatDoor
open Go Go.RowKit
theorem entG{X:Cx}{l l' m m'}(σ:List (Nat×Nat))(T:∀ y i x c e,lk σ y=some x->lk σ i=some x->lk m' y=some c->c.alive=true->lk m' i=some e->e.alive=true->y=i)(hk:KeepS σ X.g0)
 (hs:∀ y x,lk σ y=some x->∃ c,lk m' y=some c) (A:∀ y e,lk m' y=some e->∃ x c,lk σ y=some x/\lk m x=some c/\RnC1 σ c e) (S:RnL σ l l'):Ent X l m l' m':=by
 intro a w γ hi;let γ':Nm:=λy=>match lk σ y with | some x=>γ x | none=>none
 have n:∀ y x,lk σ y=some x->γ' y=γ x:=λy x h=>by simp only[γ',h]
 have q:∀ b,Ow γ' (lk m') b->Ow γ (lk m) b:=by rintro b ⟨y,e,v,j,s,t,u⟩;obtain⟨x,c,g1,g,g3⟩:=A y e j;exact⟨x,c,v,g,g3.al s,by rw[<-n y x g1];exact t,u⟩
 have L:∀ b,X.S γ' (lk m') b->X.S γ (lk m) b:=λb h=>orM h (λx=>x) (q b);refine⟨γ',{ hi with keep:=?_,fresh:=?_,cts:=?_,apart:=?_,mine:=?_,sts:=?_ }⟩;intro id v B;rw[n id id (hk id v B)];exact hi.keep id v B;intro y U;cases h:lk σ y with
 | none=>simp only[γ',h]
 | some x=>obtain⟨c,M⟩:=hs y x h;rw[U] at M;cases M
 intro y e H;obtain⟨x,c,g1,g,g3⟩:=A y e H;have h0:=hi.cts x c g;have j:V7 w (X.S γ' (lk m')) γ x c:=h0.mono (Kp.refl _ _) (λb hb=>.inl (L b hb)) (Ng.refl _) (λ_ _ _ _=>rfl);exact j.rn1 n g1 g3;intro y i c e v v' b j s t u J K P Q;obtain⟨x,d,g1,g,g3⟩:=A y c j;obtain⟨N,O,p,C,F⟩:=A i e t;rw[n y x g1] at J;rw[n i N p] at K;have:=hi.apart x N d O v v' b g (g3.al s) C (F.al u) J K P Q;subst this;exact T y i x c e g1 p j s t u;intro b hb;exact hi.mine b (q b hb);intro d I hd;obtain⟨ly,g1,g⟩:=S.get d I hd;obtain⟨v,B,r⟩:=hi.sts d ly g1;exact⟨v,B,(g w _ γ γ' n).2 v (Ly.val_mono (Kp.refl _ _) (λb hb=>.inl (L b hb)) (Ng.refl _) ly v r)⟩
theorem lk_ne{β:Type}{i y:Nat}{x:β}{m:List (Nat×β)}(h:y≠i):lk ((i,x)::m) y=lk m y:=by simp only[lk];cases hb:Nat.beq i y;rfl;exact absurd (ou hb).symm h
theorem lk_eq{β:Type}{y:Nat}{x:β}{m:List (Nat×β)}:lk ((y,x)::m) y=some x:=by simp only[lk,Nat.beq_refl];rfl
def rowC{α:Type}(E k:Nat)(f:α->Ly)(n:Nat)(s:Nat->List α):List (Nat×Ct):=(List.range n).map λj=>(200+j,.sl E k ((s j).map f))
theorem Qlh{β:Type}{F:Nat->β}:∀(a:List Nat) (y:Nat),lk (a.map λj=>(200+j,F j)) y=if 200<=y/\y - 200∈a then some (F (y - 200)) else none
 | [],y=>by simp[lk]
 | j::a,y=>by simp only[xp];by_cases e:y=200+j;subst e;rw[lk_eq,oi ⟨om,by rw[show 200+j - 200=j by omega];exact .head _⟩,show 200+j - 200=j by omega];rw[lk_ne e,Qlh a y];by_cases c:200<=y/\y - 200∈a;rw[oi c,oi ⟨c.1,.tail _ c.2⟩];rw[oh c,oh λg=>c ⟨g.1,by rcases xj.1 g.2 with h | h;exact absurd om e;exact h⟩]
theorem Q89{α:Type}{E k:Nat}{f:α->Ly}{n:Nat}{s:Nat->List α}{y:Nat}:lk (rowC E k f n s) y=if 200<=y/\y - 200<n then some (.sl E k ((s (y - 200)).map f)) else none:=by unfold rowC;rw[Qlh];simp only[vv]
def rowM{α:Type}(E1 E k:Nat)(f:α->Ly)(s:List (List α)):List (Nat×Ct):=(100,.sl E1 1 (((List.range s.length).map λj=>200+j).map Ly.own))::rowC E k f s.length λj=>s.getD j []
def rowM7{α:Type}(E1 E k:Nat)(f:α->Ly)(s:List (List α))(i:Nat)(r:List α):List (Nat×Ct):=
 (100,.sl E1 1 (((List.range s.length).map λj=>if j=i then 7 else 200+j).map Ly.own))::(7,.sl E k (r.map f))::((List.range s.length).filter λj=>!decide (j=i)).map λj=>(200+j,.sl E k ((s.getD j []).map f))
theorem Qlb{α:Type}{E1 E k:Nat}{f:α->Ly}{s:List (List α)}{y:Nat}(h:y≠100):lk (rowM E1 E k f s) y=if 200<=y/\y - 200<s.length then some (.sl E k ((s.getD (y - 200) []).map f)) else none:=by unfold rowM;rw[lk_ne h];exact Q89
theorem Qoq{α:Type}{E1 E k:Nat}{f:α->Ly}{s:List (List α)}{i:Nat}{r:List α}{y:Nat}(h:y≠100)(a:y≠7):lk (rowM7 E1 E k f s i r) y=if 200<=y/\(y - 200<s.length/\y - 200≠i) then some (.sl E k ((s.getD (y - 200) []).map f)) else none:=by
 unfold rowM7;rw[lk_ne h,lk_ne a,Qlh];simp only[wh,vv];by_cases c:200<=y/\(y - 200<s.length/\y - 200≠i)
 rw[oi c,oi ⟨c.1,c.2.1,by simp[c.2.2]⟩];rw[oh c,oh λg=>c ⟨g.1,g.2.1,by simpa using g.2.2⟩]
def namS(n:Nat)(h:Nat->Nat):List (Nat×Nat):=(100,100)::(List.range n).map λj=>(200+j,h j)
theorem Qnr{n:Nat}{h:Nat->Nat}{y:Nat}:lk (namS n h) y=if y=100 then some 100 else if 200<=y/\y - 200<n then some (h (y - 200)) else none:=by unfold namS;by_cases e:y=100;subst e;rw[lk_eq,oi rfl];rw[lk_ne e,oh e,Qlh];simp only[vv]
theorem Qvz{σ:List (Nat×Nat)}{g h:Nat->Nat}:∀ {a:List Nat},(∀ j∈a,lk σ (h j)=some (g j))->Rns σ ((a.map g).map Ly.own) ((a.map h).map Ly.own)
 | [],_=>Vz
 | _::_,d=>J0 (V8 (d _ (.head _))) (Qvz λj e=>d j (.tail _ e))
theorem Qzm{l:List Nat}:∀ ly∈l.map Ly.own,ly.sz=1:=λly h=>by obtain⟨i,_,rfl⟩:=xa.1 h;rfl
section rows
variable {X:Cx}{R:Type}{md:Option R}{G:R->Act->World->Prop}{l l':List (Nat×Ly)}{α:Type}{f:α->Ly}{E1 E k:Nat}
theorem Qv0(a:∀ x,IF (f x))(r:List α):IFs (r.map f):=Vg a r
theorem Q7f(A:∀ x,IF (f x))(t:∀ id,X.g0 id=none){s:List (List α)}{i:Nat}{r:List α}(hr:s[i]?=some r)(F:RnL ((100,100)::(7,200+i)::((List.range s.length).filter λj=>!decide (j=i)).map λj=>(200+j,200+j)) l l'):Ent X l (rowM E1 E k f s) l' (rowM7 E1 E k f s i r):=by
 have hi:i<s.length:=by rcases xc i s.length with h | h;exact h;rw[xn h] at hr;cases hr
 have u:s.getD i []=r:=by rw[oq,hr];rfl
 let σ:List (Nat×Nat):=(100,100)::(7,200+i)::((List.range s.length).filter λj=>!decide (j=i)).map λj=>(200+j,200+j)
 have hσ:∀ y,lk σ y=if y=100 then some 100 else if y=7 then some (200+i) else if 200<=y/\(y - 200<s.length/\y - 200≠i) then some y else none:=by
  intro y;show lk ((100,100)::(7,200+i)::((List.range s.length).filter λj=>!decide (j=i)).map λj=>(200+j,200+j)) y=_;by_cases a:y=100;subst a;rw[lk_eq,oi rfl];rw[lk_ne a,oh a];by_cases d:y=7;subst d;rw[lk_eq,oi rfl];rw[lk_ne d,oh d,Qlh];simp only[wh,vv];by_cases c:200<=y/\(y - 200<s.length/\y - 200≠i)
  rw[oi c,oi ⟨c.1,c.2.1,by simp[c.2.2]⟩,show 200+(y - 200)=y by omega];rw[oh c,oh λg=>c ⟨g.1,g.2.1,by simpa using g.2.2⟩]
 have w:∀ y x,lk σ y=some x->(y=100/\x=100)\/(y=7/\x=200+i)\/(200<=y/\y - 200≠i/\x=y):=by
  intro y x h;rw[hσ] at h;by_cases a:y=100;rw[oi a] at h;exact .inl ⟨a,(Option.some.inj h).symm⟩;rw[oh a] at h;by_cases d:y=7;rw[oi d] at h;exact .inr (.inl ⟨d,(Option.some.inj h).symm⟩);rw[oh d] at h;by_cases c:200<=y/\(y - 200<s.length/\y - 200≠i)
  rw[oi c] at h;exact .inr (.inr ⟨c.1,c.2.2,(Option.some.inj h).symm⟩);rw[oh c] at h;cases h
 refine entG σ ?_ (λid v h=>by rw[t id] at h;cases h) ?_ ?_ F;intro y H x c C p q _ _ _ _;rcases w y x p with p | p | p<;>rcases w H x q with q | q | q<;>omega;intro y x h;rw[hσ] at h;split at h;rename_i e;subst e;exact⟨_,rfl⟩;split at h;rename_i e;subst e;exact⟨_,rfl⟩;split at h;rename_i m n c;rw[Qoq m n,oi c];exact⟨_,rfl⟩;cases h;intro y C h;by_cases m:y=100;subst m;cases h;refine⟨100,_,by rw[hσ,oi rfl],rfl,.inl ⟨rfl,rfl,oa,?_,λ_=>Qzm⟩⟩;refine Qvz λj B=>?_;have B:=vv.1 B;rw[hσ];by_cases e:j=i;subst e;rw[oi rfl];rfl;rw[oh e,oh om,oh om,oi ⟨om,om,om⟩];by_cases n:y=7;subst n;cases h;refine⟨200+i,_,by rw[hσ,oh om,oi rfl],?_,.inl (rc_sl (Qv0 A r))⟩;rw[Qlb om,oi om,show 200+i - 200=i by omega,u];rw[Qoq m n] at h;split at h;rename_i c;cases h;refine⟨y,_,by rw[hσ,oh m,oh n,oi c],?_,.inl (rc_sl (Qv0 A _))⟩;rw[Qlb m,oi ⟨c.1,c.2.1⟩];cases h
theorem Q7g(q:Nat)(t:(Nat.blt q 200 && !Nat.beq q 100)=true)(H:∀ x,IF (f x))(A:∀ id,X.g0 id=none){s:List (List α)}{i:Nat}{r z:List α}{u:List (Nat×Ct)}(hi:i<s.length)(m:lk u 100=some (.sl E1 1 ((((List.range s.length).map λj=>if j=i then 7 else 200+j).set i q).map Ly.own)))(n:lk u q=some (.sl E k (z.map f)))
 (hrest:∀ y,200<=y->lk u y=lk (rowM7 E1 E k f s i r) y) (I:RnL (namS s.length λj=>if j=i then q else 200+j) l l'):Ent X l u l' (rowM E1 E k f (s.set i z)):=by
 have J:q<200/\q≠100:=by simp only[yg,uj,Nat.blt_eq] at t;exact⟨t.1,λe=>by rw[e] at t;exact absurd t.2 oy⟩
 refine entG (namS s.length λj=>if j=i then q else 200+j) ?_ (λid v h=>by rw[A id] at h;cases h) ?_ ?_ I;intro y K x c F d p _ _ _ _;have B:∀ y x,lk (namS s.length λj=>if j=i then q else 200+j) y=some x->(y=100/\x=100)\/(y - 200=i/\200<=y/\x=q)\/(200<=y/\y - 200≠i/\x=y):=by intro y x h;rw[Qnr] at h;by_cases w:y=100;rw[oi w] at h;exact .inl ⟨w,(Option.some.inj h).symm⟩;rw[oh w] at h;by_cases c:200<=y/\y - 200<s.length;rw[oi c] at h;have h:=(Option.some.inj h).symm;by_cases e:y - 200=i;rw[oi e] at h;exact .inr (.inl ⟨e,c.1,h⟩);rw[oh e] at h;exact .inr (.inr ⟨c.1,e,om⟩);rw[oh c] at h;cases h
 rcases B y x d with d | d | d<;>rcases B K x p with p | p | p<;>omega;intro y x h;rw[Qnr] at h;split at h;rename_i e;subst e;exact⟨_,rfl⟩;split at h;rename_i a c;rw[Qlb a,vk,oi c];exact⟨_,rfl⟩;cases h;intro y F h;by_cases a:y=100;subst a;cases h;refine⟨100,_,by rw[Qnr,oi rfl],m,.inl ⟨rfl,rfl,oa,?_,λ_=>Qzm⟩⟩;have e:((List.range s.length).map λj=>if j=i then 7 else 200+j).set i q=(List.range s.length).map λj=>if j=i then q else 200+j:=by
  apply uv;simp;intro j d p;rw[List.getElem_set];by_cases c:i=j;subst c;simp;rw[oh c];simp only[vo,vp];rw[oh (λe=>c e.symm),oh (λe=>c e.symm)]
 rw[e,vk];refine Qvz λj C=>?_;have C:=vv.1 C;rw[Qnr,oh om,oi om,show 200+j - 200=j by omega];rw[Qlb a,vk] at h;split at h;rename_i c;cases h;refine⟨if y - 200=i then q else y,.sl E k (((s.set i z).getD (y - 200) []).map f),?_,?_,.inl (rc_sl (Qv0 H _))⟩;rw[Qnr,oh a,oi c];by_cases e:y - 200=i;rw[oi e,oi e];rw[oh e,oh e,show 200+(y - 200)=y by omega];by_cases e:y - 200=i;rw[oi e,n,e];rw[show(s.set i z).getD i []=z by rw[oq,List.getElem?_set,oi rfl,oi hi];rfl];rw[oh e,hrest y c.1,Qoq a om,oi ⟨c.1,c.2,e⟩];rw[show(s.set i z).getD (y - 200) []=s.getD (y - 200) [] by rw[oq,oq,List.getElem?_set,oh (λg=>e g.symm)]];cases h
abbrev nilL:Ly:=.cell (cpX (.slice none 0 0) rfl)
theorem Q9a:Zr nilL [.slice none 0 0]:=λ_ _ _=>⟨_,rfl,rfl⟩
theorem Q9b{xs:List (List α)}{b:Nat}{p:Int}{l1:List (Nat×Ly)}(K:mkM b ([]:List α) p=some xs)(hl:SubL l1 l):Ent X l [(100,.sl E1 1 (xs.map λ_=>nilL))] l1 (rowM E1 E k f xs):=by
 obtain⟨n,rfl⟩:∃ n,xs=List.replicate n []:=by unfold mkM at K;split at K;cases K;exact⟨_,rfl⟩;cases K
 rw[show((List.replicate n ([]:List α)).map λ_=>nilL)=(List.replicate n ()).map λ_=>nilL by simp];intro a w γ hi;let ys:List (Nat×Nat×Nat):=(List.range n).map λj=>(200+j,E,k)
 have Q:∀(s:List Nat),Qqe (lk [(100,Ct.sl E1 1 ((List.replicate n ()).map λ_=>nilL))]) (s.map λj=>(200+j,E,k)):=by
  intro s
  induction s with
  | nil=>trivial
  | cons j s J=>
    refine⟨?_,J⟩;show lk _ (200+j)=none;rw[lk_ne om];rfl
 have S:∀ m:Nat,nodupB (((List.range m).map λj=>(200+j,E,k)).map (·.1))=true:=by
  intro m;have B:∀(s:List Nat),s.Nodup->nodupB ((s.map λj=>(200+j,E,k)).map (·.1))=true:=by
   intro s
   induction s with
   | nil=>intro _;rfl
   | cons j s J=>
     intro h;rw[List.nodup_cons] at h;simp only[xp,nodupB,J h.2,Bool.and_true,uj,List.any_eq_false,xa];rintro x ⟨e,⟨i,hi,rfl⟩,rfl⟩ hb;have:=ou hb;have:j=i:=by simp only[] at this;omega
     subst this;exact h.1 hi
  exact B _ List.nodup_range
 obtain⟨γ',t,V,h3,h4⟩:=hi.nils ys (Q _) (S n);have H:∀ j,j<n->γ' (200+j)=some (.slice none 0 0):=λj Z=>h3 (200+j,E,k) (xa.2 ⟨j,vv.2 Z,rfl⟩);have C:∀ y,lk (rowM E1 E k f (List.replicate n ([]:List α))) y=if y=100 then some (.sl E1 1 (((List.range n).map λj=>200+j).map Ly.own)) else lk (nilM ys) y:=by
  intro y;by_cases c:y=100;subst c;rw[oi rfl];show some _=_;rw[yf];rw[oh c,Qlb c];have e:nilM ys=(List.range n).map λj=>(200+j,Ct.sl E k []):=by simp[nilM,ys,uc,Function.comp_def]
  rw[e,Qlh];simp only[vv,yf];by_cases g:200<=y/\y - 200<n;rw[oi g,oi g];rw[show(List.replicate n ([]:List α)).getD (y - 200) []=[] by rw[oq,gg,oi g.2];rfl];rfl;rw[oh g,oh g]
 have r:∀ y,up (lk [(100,Ct.sl E1 1 ((List.replicate n ()).map λ_=>nilL))]) (nilM ys) y=if y=100 then some (.sl E1 1 ((List.replicate n ()).map λ_=>nilL)) else lk (nilM ys) y:=by
  intro y;have e:nilM ys=(List.range n).map λj=>(200+j,Ct.sl E k []):=by simp[nilM,ys,uc,Function.comp_def]
  by_cases c:y=100;subst c;rw[oi rfl];simp only[up];rw[e,Qlh,oh om];rfl;rw[oh c];simp only[up];cases hq:lk (nilM ys) y with
  | some _=>rfl
  | none=>
    rw[lk_ne c];rfl
 generalize hU:up (lk [(100,Ct.sl E1 1 ((List.replicate n ()).map λ_=>nilL))]) (nilM ys)=U at t r;have q:∀ y c,lk (rowM E1 E k f (List.replicate n ([]:List α))) y=some c->∃ c0,U y=some c0/\(c.alive=true->c0.alive=true):=by intro y c A;rw[C] at A;rw[r];split at A;rename_i e;rw[oi e];exact⟨_,rfl,λ_=>rfl⟩;rename_i e;rw[oh e];exact⟨c,A,λh=>h⟩
 have I:∀ b,Ow γ' (lk (rowM E1 E k f (List.replicate n ([]:List α)))) b->Ow γ' U b:=by rintro b ⟨y,c,v,g1,F,g3,g4⟩;obtain⟨c0,O,P⟩:=q y c g1;exact⟨y,c0,v,O,P F,g3,g4⟩
 have W:∀ b,X.S γ' (lk (rowM E1 E k f (List.replicate n ([]:List α)))) b->X.S γ' U b:=λb h=>orM h (λx=>x) (I b);refine⟨γ',{ t with fresh:=?_,cts:=?_,apart:=?_,mine:=?_,sts:=?_ }⟩;intro y L;refine t.fresh y ?_;rw[C] at L;rw[r];split at L;cases L;rename_i e;rw[oh e];exact L;intro y c A;rw[C] at A;split at A;rename_i e;subst e;cases A;obtain⟨v,cs,a1,a2,a3,a4⟩:=t.cts 100 (.sl E1 1 ((List.replicate n ()).map λ_=>nilL)) (by rw[r,oi rfl]);refine⟨v,cs,a1,by simpa using a2,?_,Qzm⟩
 have B:∀(m:Nat) (g:Nat->Nat) (cs:List Value),(∀ j,j<m->γ' (g j)=some (.slice none 0 0))->Ly.holds w (X.S γ' U) γ' ((List.replicate m ()).map λ_=>nilL) cs ->
  Ly.holds w (X.S γ' (lk (rowM E1 E k f (List.replicate n ([]:List α))))) γ' (((List.range m).map g).map Ly.own) cs:=by
  intro m
  induction m with
  | zero=>intro g cs _ h;exact h
  | succ m J=>
    intro g cs Y h;rw[ug,xp] at h;obtain⟨c1,T,rfl,⟨u,rfl,rfl⟩,V⟩:=h;rw[List.range_succ_eq_map,xp,xp,uc (g:=g)];exact⟨_,T,rfl,⟨_,rfl,Y 0 om,rfl⟩,J (g ∘ Nat.succ) T (λj Z=>Y (j+1) om) V⟩
 exact B n (λj=>200+j) cs H a3;rename_i e;have:=t.cts y c (by rw[r,oh e];exact A);exact this.mono (Kp.refl _ _) (λb hb=>.inl (W b hb)) (Ng.refl _) (λ_ _ _ _=>rfl);intro y y' c c' v v' b g1 F g3 g4 O P g7 g8;obtain⟨d,e1,e2⟩:=q y c g1;obtain⟨d',M,N⟩:=q y' c' g3;exact t.apart y y' d d' v v' b e1 (e2 F) M (N g4) O P g7 g8;intro b hb;exact t.mine b (I b hb);intro d ly hd;obtain⟨v,g1,F⟩:=t.sts d ly (hl.lk d ly hd);exact⟨v,g1,Ly.val_mono (Kp.refl _ _) (λb hb=>.inl (W b hb)) (Ng.refl _) ly v F⟩
theorem Q46{w:World}{S S':Nat->Prop}{γ:Nm}{id E k:Nat}{ls:List Ly}{v:Value}(B:V7 w S γ id (.sl E k ls))(F:γ id=some v)(i:IFs ls)(A:∀ b,S' b->S b)(hb:∀ b,blkOf v=some b->b<w.heap.size/\¬ S' b):(cpL k ls).p w S' v:=by
 obtain⟨u,cs,a,⟨_,t⟩,x,y⟩:=B;rw[F] at a;injection a with a
 subst a;have e:Ly.holds w S' (λ_=>none) ls cs:=(i w S' γ (λ_=>none)).1 _ (Ly.holds_mono (Kp.refl _ _) (λb hb=>.inl (A b hb)) (Ng.refl _) ls cs x);rcases t with ⟨rfl,C⟩ | ⟨g,cap,cur,rfl,_,p,q,r,H,s⟩;exact .inl ⟨rfl,xm C⟩;obtain⟨m,n⟩:=hb g rfl;refine .inr (.inl ⟨g,0,cap,cs,rfl,q,r,m,n,λj u d=>?_,e,y⟩);rw[Wg p,<-xt,xz];rw[<-s,yh] at d;split at d;exact d;cases d
theorem Q7h(hf:∀ x,IF (f x))(N:∀ id,X.g0 id=none){s:List (List α)}(d:Nat)(hd:lk l d=some (.own 100))
 (K:Sq X ((d,sli 1 (s.map λr=>sli k (r.map f)))::l') [] md G) (hl:SubL l' l) (O:∀ e∈l',IF e.2):Sq X l (rowM E1 E k f s) md G:=by
 intro r a w γ hr hi;refine K r a w (λ_=>none) hr ?_;have L:∀ b,X.S (λ_=>none) (lk []) b->X.S0 b:=λb h=>h.elim (λx=>x) (λ⟨_,_,_,h,_⟩=>by cases h);have t:∀ b,X.S (λ_=>none) (lk []) b->X.S γ (lk (rowM E1 E k f s)) b:=λb h=>.inl (L b h)
 have A:∀ j,j<s.length->lk (rowM E1 E k f s) (200+j)=some (.sl E k ((s.getD j []).map f)):=λj p=>by rw[Qlb om,oi om,show 200+j - 200=j by omega]
 refine { hi with keep:=λid v h=>(by rw[N id] at h;cases h),fresh:=λ_ _=>rfl,cts:=λ_ _ h=>(by cases h),apart:=λ_ _ _ _ _ _ _ h=>(by cases h),mine:=λb h=>h.elim (λ_ h=>h.elim λ_ h=>h.elim λ_ h=>by cases h.1),sts:=?_ };intro i ly n;simp only[lk] at n;cases hb:Nat.beq d i;rw[hb] at n;obtain⟨v,J,C⟩:=hi.sts i ly (hl.lk i ly n);refine⟨v,J,?_⟩;have y:∀(l:List (Nat×Ly)),lk l i=some ly->∃ e∈l,e.2=ly:=by
  intro l
  induction l with
  | nil=>intro h;cases h
  | cons e l P=>
    intro h;obtain⟨i0,x⟩:=e;simp only[lk] at h;cases hb:Nat.beq i0 i;rw[hb] at h;obtain⟨e,M,h⟩:=P h;exact⟨e,.tail _ M,h⟩;rw[hb] at h;cases h;exact⟨_,.head _,rfl⟩
 obtain⟨e,M,rfl⟩:=y l' n;exact((O e M) w _ γ (λ_=>none)).2 v (Ly.val_mono (Kp.refl _ _) (λb hb=>.inl (t b hb)) (Ng.refl _) e.2 v C);rw[hb] at n;cases n;have:=ou hb;subst this;obtain⟨v,J,C,h3⟩:=hi.sts d _ hd;refine⟨v,J,?_⟩;obtain⟨u,cs,B,⟨e2,S⟩,e4,e5⟩:=hi.cts 100 (.sl E1 1 (((List.range s.length).map λj=>200+j).map Ly.own)) rfl;rw[C] at B;injection B with B
 subst B
 have own100:∀ b,blkOf v=some b->b<w.heap.size/\¬ X.S0 b:=λb hb=>by obtain⟨_,H,g3⟩:=hi.mine b ⟨100,_,v,rfl,rfl,C,hb⟩;exact⟨H,g3⟩
 have I:∀(m:Nat) (g:Nat->Nat) (s':List (List α)) (cs:List Value),s'.length=m->(∀ j,j<m->∃ r,s'[j]?=some r/\lk (rowM E1 E k f s) (g j)=some (.sl E k (r.map f))) ->
  Ly.holds w (X.S γ (lk (rowM E1 E k f s))) γ (((List.range m).map g).map Ly.own) cs->Ly.holds w (X.S (λ_=>none) (lk [])) (λ_=>none) (s'.map λr=>sli k (r.map f)) cs:=by
  intro m
  induction m with
  | zero=>
    intro g s' cs F _ h;have:s'=[]:=xm F;subst this;exact h
  | succ m P=>
    intro g s' cs F U h;rw[List.range_succ_eq_map,xp,xp,uc (g:=g)] at h;obtain⟨c1,Q,rfl,⟨u,rfl,T,_⟩,h6⟩:=h;cases s' with
    | nil=>simp at F
    | cons r s'=>
      obtain⟨r',V,W⟩:=U 0 om;simp only[gh] at V;cases V;refine⟨_,Q,rfl,⟨u,rfl,?_⟩,P (g ∘ Nat.succ) s' Q (by simpa using F) (λj p=>?_) h6⟩;refine Q46 (hi.cts _ _ W) T (Vg hf r) t λb hb=>?_;obtain⟨_,H,g3⟩:=hi.mine b ⟨_,_,u,W,rfl,T,hb⟩;exact⟨H,λh=>g3 (L b h)⟩;obtain⟨r2,Y,q4⟩:=U (j+1) om;simp only[List.getElem?_cons_succ] at Y;exact⟨r2,Y,q4⟩
 have hh:=I s.length (λj=>200+j) s cs rfl (λj p=>⟨s[j],ol p,by rw[A j p,oq,ol p];rfl⟩) e4;have q:(s.map λr=>sli k (r.map f)).length=s.length:=xr _;simp only[xr,List.length_range] at e2 S;rcases S with ⟨rfl,hn⟩ | ⟨g,cap,cur,rfl,_,f2,f3,f4,f5,f6⟩;exact .inl ⟨rfl,xm (by rw[q];exact hn)⟩;obtain⟨Z,b2⟩:=own100 g rfl;refine .inr (.inl ⟨g,0,cap,cs,by rw[q],by rw[q];exact f3,f4,Z,λh=>b2 (L g h),λj u p=>?_,hh,λly n=>?_⟩);rw[Wg f2,<-xt,xz];rw[<-f6,yh] at p;split at p;exact p;cases p;obtain⟨r,_,rfl⟩:=xa.1 n;rfl
theorem entS{m:List (Nat×Ct)}(h:SubL l' l):Ent X l m l' m:=λ_ _ γ hi=>⟨γ,{ hi with sts:=λd ly hd=>hi.sts d ly (h.lk d ly hd) }⟩
theorem lenRw{st:Nat->Option Ly}{mm:Nat->Option Ct}{d x T ty pos af id}{s:List (List α)}(a:X.P.underlying T=some (.slice E1))(e:mm id=some (.sl E1 1 (((List.range s.length).map λj=>200+j).map Ly.own)))(hd:Nat.blt d X.N=true)(g:OpdF st x (.own id)):
 OpOk X st mm ⟨some d,.call { callee:=.builtin .len,args:=#[x],argTypes:=#[T] },ty,pos,af,none⟩ [(d,i64 s.length)] []:=by
 have h:=lenO (f:=Ly.own) (X:=X) (st:=st) (mm:=mm) (ty:=ty) (pos:=pos) (af:=af) a e hd g;rw[xr,List.length_range] at h;exact h
theorem rwI{s:List (List α)}{i:Nat}{r:List α}(h:getI s (i:Int)=some r):s[i]?=some r:=by simpa [getI] using h
theorem rwLt{s:List (List α)}{i:Nat}{r:List α}(h:getI s (i:Int)=some r):i<s.length:=by have h:=rwI h;rcases xc i s.length with a | a;exact a;rw[xn a] at h;cases h
theorem rw7I{s:List (List α)}{i:Nat}{r:List α}(h:getI s (i:Int)=some r):getI ((List.range s.length).map λj=>if j=i then 7 else 200+j) (i:Int)=some 7:=by have a:=rwLt h;simp[getI,xy,List.getElem?_range a]
theorem Q7i{i y:Nat}{c:Ct}{m:List (Nat×Ct)}(hb:Nat.beq i y=false)(h:lk m y=none):lk ((i,c)::m) y=none:=by rw[lk_ne (λe=>by rw[e,Nat.beq_refl] at hb;cases hb)];exact h
theorem Qrw{i y:Nat}{c:Ct}{m:List (Nat×Ct)}(hb:Nat.blt i 200=true)(h:200<=y):lk ((i,c)::m) y=lk m y:=by rw[Nat.blt_eq] at hb;exact lk_ne om
theorem rw7N{s:List (List α)}{i y:Nat}{r:List α}(h:(Nat.blt y 200 && (!Nat.beq y 100 && !Nat.beq y 7))=true):lk (rowM7 E1 E k f s i r) y=none:=by simp only[yg,uj,Nat.blt_eq] at h;obtain⟨g,a,d⟩:=h;rw[Qoq (λe=>by rw[e] at a;exact absurd a oy) (λe=>by rw[e] at d;exact absurd d oy),oh om]
end rows
end Go.Proofs.YtmnalemmhfjacaaGreatDoor
