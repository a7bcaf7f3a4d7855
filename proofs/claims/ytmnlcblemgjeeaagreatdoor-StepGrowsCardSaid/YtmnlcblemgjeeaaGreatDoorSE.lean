import Derived.Test.YtmnlcblemgjeeaaGreatDoorSB
namespace Go.Proofs.YtmnlcblemgjeeaaGreatDoor
open Go Go.RowKit
theorem entG{X:Cx}{l l' m m'}(σ:List (Nat×Nat))(hn:∀ y i x c e,lk σ y=some x->lk σ i=some x->lk m' y=some c->c.alive=true->lk m' i=some e->e.alive=true->y=i)(hk:KeepS σ X.g0)
 (hs:∀ y x,lk σ y=some x->∃ c,lk m' y=some c) (hm:∀ y e,lk m' y=some e->∃ x c,lk σ y=some x/\lk m x=some c/\RnC1 σ c e) (S:RnL σ l l'):Ent X l m l' m':=by
 intro a w γ hi;let γ':Nm:=λy=>match lk σ y with | some x=>γ x | none=>none
 have n:∀ y x,lk σ y=some x->γ' y=γ x:=λy x h=>by simp only[γ',h]
 have r:∀ b,Ow γ' (lk m') b->Ow γ (lk m) b:=by rintro b ⟨y,e,v,j,t,u,A⟩;obtain⟨x,c,g1,g,g3⟩:=hm y e j;exact⟨x,c,v,g,g3.al t,by rw[<-n y x g1];exact u,A⟩
 have L:∀ b,X.S γ' (lk m') b->X.S γ (lk m) b:=λb h=>orM h (λx=>x) (r b);refine⟨γ',{ hi with keep:=?_,fresh:=?_,cts:=?_,apart:=?_,mine:=?_,sts:=?_ }⟩;intro id v B;rw[n id id (hk id v B)];exact hi.keep id v B;intro y hy;cases h:lk σ y with
 | none=>simp only[γ',h]
 | some x=>obtain⟨c,M⟩:=hs y x h;rw[hy] at M;cases M
 intro y e H;obtain⟨x,c,g1,g,g3⟩:=hm y e H;have h0:=hi.cts x c g;have j:Jw w (X.S γ' (lk m')) γ x c:=h0.mono (Kp.refl _ _) (λb q=>.inl (L b q)) (Ng.refl _) (λ_ _ _ _=>rfl);exact j.rn1 n g1 g3;intro y i c e v v' b j t u A J K P Q;obtain⟨x,d,g1,g,g3⟩:=hm y c j;obtain⟨N,O,p,C,F⟩:=hm i e u;rw[n y x g1] at J;rw[n i N p] at K;have:=hi.apart x N d O v v' b g (g3.al t) C (F.al A) J K P Q;subst this;exact hn y i x c e g1 p j t u A;intro b q;exact hi.mine b (r b q);intro d I hd;obtain⟨ly,g1,g⟩:=S.get d I hd;obtain⟨v,B,s⟩:=hi.sts d ly g1;exact⟨v,B,(g w _ γ γ' n).2 v (Ly.val_mono (Kp.refl _ _) (λb q=>.inl (L b q)) (Ng.refl _) ly v s)⟩
structure EntH(X:Cx)(σ:List (Nat×Nat))(m m':List (Nat×Ct)):Prop where
 hn:∀ y y' x c c',lk σ y=some x->lk σ y'=some x->lk m' y=some c->c.alive=true->lk m' y'=some c'->c'.alive=true->y=y'
 hk:KeepS σ X.g0
 hs:∀ y x,lk σ y=some x->∃ c,lk m' y=some c
 hm:∀ y c',lk m' y=some c'->∃ x c,lk σ y=some x/\lk m x=some c/\RnC1 σ c c'
theorem EntH.ent{X:Cx}{l l' m m'}{σ:List (Nat×Nat)}(h:EntH X σ m m')(a:RnL σ l l'):Ent X l m l' m':=entG σ h.hn h.hk h.hs h.hm a
theorem lk_ne{β:Type}{i y:Nat}{x:β}{m:List (Nat×β)}(h:y≠i):lk ((i,x)::m) y=lk m y:=by simp only[lk];cases a:Nat.beq i y;rfl;exact absurd (oj a).symm h
theorem lk_eq{β:Type}{y:Nat}{x:β}{m:List (Nat×β)}:lk ((y,x)::m) y=some x:=by simp only[lk,Nat.beq_refl];rfl
def rowC{α:Type}(E k:Nat)(f:α->Ly)(n:Nat)(s:Nat->List α):List (Nat×Ct):=(List.range n).map λj=>(200+j,.sl E k ((s j).map f))
theorem Qbz{β:Type}{F:Nat->β}:∀(a:List Nat) (y:Nat),lk (a.map λj=>(200+j,F j)) y=if 200<=y/\y - 200∈a then some (F (y - 200)) else none
 | [],y=>by simp[lk]
 | j::a,y=>by simp only[yz];by_cases e:y=200+j;subst e;rw[lk_eq,oi ⟨om,by rw[show 200+j - 200=j by omega];exact .head _⟩,show 200+j - 200=j by omega];rw[lk_ne e,Qbz a y];by_cases c:200<=y/\y - 200∈a;rw[oi c,oi ⟨c.1,.tail _ c.2⟩];rw[oh c,oh λg=>c ⟨g.1,by rcases yh.1 g.2 with h | h;exact absurd om e;exact h⟩]
theorem Qt7{α:Type}{E k:Nat}{f:α->Ly}{n:Nat}{s:Nat->List α}{y:Nat}:lk (rowC E k f n s) y=if 200<=y/\y - 200<n then some (.sl E k ((s (y - 200)).map f)) else none:=by unfold rowC;rw[Qbz];simp only[ud]
def rowM{α:Type}(E1 E k:Nat)(f:α->Ly)(s:List (List α)):List (Nat×Ct):=(100,.sl E1 1 (((List.range s.length).map λj=>200+j).map Ly.own))::rowC E k f s.length λj=>s.getD j []
def rowM7{α:Type}(E1 E k:Nat)(f:α->Ly)(s:List (List α))(i:Nat)(r:List α):List (Nat×Ct):=
 (100,.sl E1 1 (((List.range s.length).map λj=>if j=i then 7 else 200+j).map Ly.own))::(7,.sl E k (r.map f))::((List.range s.length).filter λj=>!decide (j=i)).map λj=>(200+j,.sl E k ((s.getD j []).map f))
theorem Qd9{α:Type}{E1 E k:Nat}{f:α->Ly}{s:List (List α)}{y:Nat}(h:y≠100):lk (rowM E1 E k f s) y=if 200<=y/\y - 200<s.length then some (.sl E k ((s.getD (y - 200) []).map f)) else none:=by unfold rowM;rw[lk_ne h];exact Qt7
theorem Xb{α:Type}{E1 E k:Nat}{f:α->Ly}{s:List (List α)}{i:Nat}{r:List α}{y:Nat}(h:y≠100)(a:y≠7):lk (rowM7 E1 E k f s i r) y=if 200<=y/\(y - 200<s.length/\y - 200≠i) then some (.sl E k ((s.getD (y - 200) []).map f)) else none:=by
 unfold rowM7;rw[lk_ne h,lk_ne a,Qbz];simp only[vi,ud];by_cases c:200<=y/\(y - 200<s.length/\y - 200≠i)
 rw[oi c,oi ⟨c.1,c.2.1,by simp[c.2.2]⟩];rw[oh c,oh λg=>c ⟨g.1,g.2.1,by simpa using g.2.2⟩]
def namS(n:Nat)(h:Nat->Nat):List (Nat×Nat):=(100,100)::(List.range n).map λj=>(200+j,h j)
theorem Qbf{n:Nat}{h:Nat->Nat}{y:Nat}:lk (namS n h) y=if y=100 then some 100 else if 200<=y/\y - 200<n then some (h (y - 200)) else none:=by unfold namS;by_cases e:y=100;subst e;rw[lk_eq,oi rfl];rw[lk_ne e,oh e,Qbz];simp only[ud]
theorem Qia{σ:List (Nat×Nat)}{g h:Nat->Nat}:∀ {a:List Nat},(∀ j∈a,lk σ (h j)=some (g j))->Rns σ ((a.map g).map Ly.own) ((a.map h).map Ly.own)
 | [],_=>Ki
 | _::_,d=>Jc (J3 (d _ (.head _))) (Qia λj e=>d j (.tail _ e))
theorem Qkb{l:List Nat}:∀ ly∈l.map Ly.own,ly.sz=1:=λly h=>by obtain⟨i,_,rfl⟩:=xd.1 h;rfl
section rows
variable {X:Cx}{R:Type}{md:Option R}{G:R->Act->World->Prop}{l l':List (Nat×Ly)}{α:Type}{f:α->Ly}{E1 E k:Nat}
theorem Qfm(a:∀ x,IF (f x))(r:List α):IFs (r.map f):=Je a r
theorem Qrv(B:∀ x,IF (f x))(t:∀ id,X.g0 id=none){s:List (List α)}{i:Nat}{r:List α}(u:s[i]?=some r):EntH X ((100,100)::(7,200+i)::((List.range s.length).filter λj=>!decide (j=i)).map λj=>(200+j,200+j)) (rowM E1 E k f s) (rowM7 E1 E k f s i r):=by
 have hi:i<s.length:=by rcases xn i s.length with h | h;exact h;rw[ol h] at u;cases u
 have w:s.getD i []=r:=by rw[yn,u];rfl
 let σ:List (Nat×Nat):=(100,100)::(7,200+i)::((List.range s.length).filter λj=>!decide (j=i)).map λj=>(200+j,200+j)
 have hσ:∀ y,lk σ y=if y=100 then some 100 else if y=7 then some (200+i) else if 200<=y/\(y - 200<s.length/\y - 200≠i) then some y else none:=by
  intro y;show lk ((100,100)::(7,200+i)::((List.range s.length).filter λj=>!decide (j=i)).map λj=>(200+j,200+j)) y=_;by_cases a:y=100;subst a;rw[lk_eq,oi rfl];rw[lk_ne a,oh a];by_cases d:y=7;subst d;rw[lk_eq,oi rfl];rw[lk_ne d,oh d,Qbz];simp only[vi,ud];by_cases c:200<=y/\(y - 200<s.length/\y - 200≠i)
  rw[oi c,oi ⟨c.1,c.2.1,by simp[c.2.2]⟩,show 200+(y - 200)=y by omega];rw[oh c,oh λg=>c ⟨g.1,g.2.1,by simpa using g.2.2⟩]
 have A:∀ y x,lk σ y=some x->(y=100/\x=100)\/(y=7/\x=200+i)\/(200<=y/\y - 200≠i/\x=y):=by
  intro y x h;rw[hσ] at h;by_cases a:y=100;rw[oi a] at h;exact .inl ⟨a,(Option.some.inj h).symm⟩;rw[oh a] at h;by_cases d:y=7;rw[oi d] at h;exact .inr (.inl ⟨d,(Option.some.inj h).symm⟩);rw[oh d] at h;by_cases c:200<=y/\(y - 200<s.length/\y - 200≠i)
  rw[oi c] at h;exact .inr (.inr ⟨c.1,c.2.2,(Option.some.inj h).symm⟩);rw[oh c] at h;cases h
 refine⟨?_,(λid v h=>by rw[t id] at h;cases h),?_,?_⟩;intro y H x c F p q _ _ _ _;rcases A y x p with p | p | p<;>rcases A H x q with q | q | q<;>omega;intro y x h;rw[hσ] at h;split at h;rename_i e;subst e;exact⟨_,rfl⟩;split at h;rename_i e;subst e;exact⟨_,rfl⟩;split at h;rename_i m n c;rw[Xb m n,oi c];exact⟨_,rfl⟩;cases h;intro y F h;by_cases m:y=100;subst m;cases h;refine⟨100,_,by rw[hσ,oi rfl],rfl,.inl ⟨rfl,rfl,oa,?_,λ_=>Qkb⟩⟩;refine Qia λj C=>?_;have C:=ud.1 C;rw[hσ];by_cases e:j=i;subst e;rw[oi rfl];rfl;rw[oh e,oh om,oh om,oi ⟨om,om,om⟩];by_cases n:y=7;subst n;cases h;refine⟨200+i,_,by rw[hσ,oh om,oi rfl],?_,.inl (rc_sl (Qfm B r))⟩;rw[Qd9 om,oi om,show 200+i - 200=i by omega,w];rw[Xb m n] at h;split at h;rename_i c;cases h;refine⟨y,_,by rw[hσ,oh m,oh n,oi c],?_,.inl (rc_sl (Qfm B _))⟩;rw[Qd9 m,oi ⟨c.1,c.2.1⟩];cases h
theorem Qrw(q:Nat)(t:(Nat.blt q 200 && !Nat.beq q 100)=true)(H:∀ x,IF (f x))(A:∀ id,X.g0 id=none){s:List (List α)}{i:Nat}{r z:List α}{u:List (Nat×Ct)}(hi:i<s.length)(m:lk u 100=some (.sl E1 1 ((((List.range s.length).map λj=>if j=i then 7 else 200+j).set i q).map Ly.own)))(n:lk u q=some (.sl E k (z.map f)))
 (hrest:∀ y,200<=y->lk u y=lk (rowM7 E1 E k f s i r) y):EntH X (namS s.length λj=>if j=i then q else 200+j) u (rowM E1 E k f (s.set i z)):=by
 have I:q<200/\q≠100:=by simp only[xq,yu,Nat.blt_eq] at t;exact⟨t.1,λe=>by rw[e] at t;exact absurd t.2 oy⟩
 refine⟨?_,(λid v h=>by rw[A id] at h;cases h),?_,?_⟩;intro y J x c F d p _ _ _ _;have B:∀ y x,lk (namS s.length λj=>if j=i then q else 200+j) y=some x->(y=100/\x=100)\/(y - 200=i/\200<=y/\x=q)\/(200<=y/\y - 200≠i/\x=y):=by intro y x h;rw[Qbf] at h;by_cases w:y=100;rw[oi w] at h;exact .inl ⟨w,(Option.some.inj h).symm⟩;rw[oh w] at h;by_cases c:200<=y/\y - 200<s.length;rw[oi c] at h;have h:=(Option.some.inj h).symm;by_cases e:y - 200=i;rw[oi e] at h;exact .inr (.inl ⟨e,c.1,h⟩);rw[oh e] at h;exact .inr (.inr ⟨c.1,e,om⟩);rw[oh c] at h;cases h
 rcases B y x d with d | d | d<;>rcases B J x p with p | p | p<;>omega;intro y x h;rw[Qbf] at h;split at h;rename_i e;subst e;exact⟨_,rfl⟩;split at h;rename_i a c;rw[Qd9 a,wg,oi c];exact⟨_,rfl⟩;cases h;intro y F h;by_cases a:y=100;subst a;cases h;refine⟨100,_,by rw[Qbf,oi rfl],m,.inl ⟨rfl,rfl,oa,?_,λ_=>Qkb⟩⟩;have e:((List.range s.length).map λj=>if j=i then 7 else 200+j).set i q=(List.range s.length).map λj=>if j=i then q else 200+j:=by
  apply List.ext_getElem;simp;intro j d p;rw[List.getElem_set];by_cases c:i=j;subst c;simp;rw[oh c];simp only[List.getElem_map,List.getElem_range];rw[oh (λe=>c e.symm),oh (λe=>c e.symm)]
 rw[e,wg];refine Qia λj C=>?_;have C:=ud.1 C;rw[Qbf,oh om,oi om,show 200+j - 200=j by omega];rw[Qd9 a,wg] at h;split at h;rename_i c;cases h;refine⟨if y - 200=i then q else y,.sl E k (((s.set i z).getD (y - 200) []).map f),?_,?_,.inl (rc_sl (Qfm H _))⟩;rw[Qbf,oh a,oi c];by_cases e:y - 200=i;rw[oi e,oi e];rw[oh e,oh e,show 200+(y - 200)=y by omega];by_cases e:y - 200=i;rw[oi e,n,e];rw[show(s.set i z).getD i []=z by rw[yn,List.getElem?_set,oi rfl,oi hi];rfl];rw[oh e,hrest y c.1,Xb a om,oi ⟨c.1,c.2,e⟩];rw[show(s.set i z).getD (y - 200) []=s.getD (y - 200) [] by rw[yn,yn,List.getElem?_set,oh (λg=>e g.symm)]];cases h
abbrev nilL:Ly:=.cell (cpX (.slice none 0 0) rfl)
theorem Qt8:Zr nilL [.slice none 0 0]:=λ_ _ _=>⟨_,rfl,rfl⟩
theorem entS{m:List (Nat×Ct)}(h:SubL l' l):Ent X l m l' m:=λ_ _ γ hi=>⟨γ,{ hi with sts:=λd ly hd=>hi.sts d ly (h.lk d ly hd) }⟩
theorem lenRw{st:Nat->Option Ly}{mm:Nat->Option Ct}{d x T ty pos af id}{s:List (List α)}(a:X.P.underlying T=some (.slice E1))(hm:mm id=some (.sl E1 1 (((List.range s.length).map λj=>200+j).map Ly.own)))(hd:Nat.blt d X.N=true)(e:OpdF st x (.own id)):
 OpOk X st mm ⟨some d,.call { callee:=.builtin .len,args:=#[x],argTypes:=#[T] },ty,pos,af,none⟩ [(d,i64 s.length)] []:=by
 have h:=lenO (f:=Ly.own) (X:=X) (st:=st) (mm:=mm) (ty:=ty) (pos:=pos) (af:=af) a hm hd e;rw[xb,List.length_range] at h;exact h
theorem rwI{s:List (List α)}{i:Nat}{r:List α}(h:getI s (i:Int)=some r):s[i]?=some r:=by simpa [getI] using h
theorem rwLt{s:List (List α)}{i:Nat}{r:List α}(h:getI s (i:Int)=some r):i<s.length:=by have h:=rwI h;rcases xn i s.length with a | a;exact a;rw[ol a] at h;cases h
theorem rw7I{s:List (List α)}{i:Nat}{r:List α}(h:getI s (i:Int)=some r):getI ((List.range s.length).map λj=>if j=i then 7 else 200+j) (i:Int)=some 7:=by have a:=rwLt h;simp[getI,xo,vz a]
theorem K4{i y:Nat}{c:Ct}{m:List (Nat×Ct)}(a:Nat.beq i y=false)(h:lk m y=none):lk ((i,c)::m) y=none:=by rw[lk_ne (λe=>by rw[e,Nat.beq_refl] at a;cases a)];exact h
theorem Ji{i y:Nat}{c:Ct}{m:List (Nat×Ct)}(a:Nat.blt i 200=true)(h:200<=y):lk ((i,c)::m) y=lk m y:=by rw[Nat.blt_eq] at a;exact lk_ne om
theorem rw7N{s:List (List α)}{i y:Nat}{r:List α}(h:(Nat.blt y 200 && (!Nat.beq y 100 && !Nat.beq y 7))=true):lk (rowM7 E1 E k f s i r) y=none:=by simp only[xq,yu,Nat.blt_eq] at h;obtain⟨g,a,d⟩:=h;rw[Xb (λe=>by rw[e] at a;exact absurd a oy) (λe=>by rw[e] at d;exact absurd d oy),oh om]
end rows
end Go.Proofs.YtmnlcblemgjeeaaGreatDoor
