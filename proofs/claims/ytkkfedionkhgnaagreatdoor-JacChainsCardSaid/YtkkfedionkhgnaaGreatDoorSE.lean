import Derived.Test.YtkkfedionkhgnaaGreatDoorSB
namespace Go.Proofs.YtkkfedionkhgnaaGreatDoor
open Go Go.RowKit
theorem entG{X:Cx}{l l' m m'}(σ:List (Nat×Nat))(hn:∀ y y' x c c',lk σ y=some x->lk σ y'=some x->lk m' y=some c->c.alive=true->lk m' y'=some c'->c'.alive=true->y=y')(hk:KeepS σ X.g0)
 (hs:∀ y x,lk σ y=some x->∃ c,lk m' y=some c) (hm:∀ y c',lk m' y=some c'->∃ x c,lk σ y=some x∧lk m x=some c∧RnC1 σ c c') (hl:RnL σ l l'):Ent X l m l' m':=by
 intro a w γ hi;let γ':Nm:=λy=>match lk σ y with | some x=>γ x | none=>none
 have hg:∀ y x,lk σ y=some x->γ' y=γ x:=λy x h=>by simp only[γ',h]
 have how:∀ b,Ow γ' (lk m') b->Ow γ (lk m) b:=by rintro b ⟨y,c',v,h1,h2,h3,h4⟩;obtain⟨x,c,g1,g2,g3⟩:=hm y c' h1;exact⟨x,c,v,g2,g3.al h2,by rw[←hg y x g1];exact h3,h4⟩
 have hS:∀ b,X.S γ' (lk m') b->X.S γ (lk m) b:=λb h=>orM h (λx=>x) (how b);refine⟨γ',{ hi with keep:=?_,fresh:=?_,cts:=?_,apart:=?_,mine:=?_,sts:=?_ }⟩;intro id v hv;rw[hg id id (hk id v hv)];exact hi.keep id v hv;intro y hy;cases h:lk σ y with
 | none=>simp only[γ',h]
 | some x=>obtain⟨c,hc⟩:=hs y x h;rw[hy] at hc;cases hc
 intro y c' hc';obtain⟨x,c,g1,g2,g3⟩:=hm y c' hc';have h0:=hi.cts x c g2;have h1:Va w (X.S γ' (lk m')) γ x c:=h0.mono (Kp.refl _ _) (λb hb=>.inl (hS b hb)) (Ng.refl _) (λ_ _ _ _=>rfl);exact h1.rn1 hg g1 g3;intro y y' c c' v v' b h1 h2 h3 h4 h5 h6 h7 h8;obtain⟨x,d,g1,g2,g3⟩:=hm y c h1;obtain⟨x',d',g1',g2',g3'⟩:=hm y' c' h3;rw[hg y x g1] at h5;rw[hg y' x' g1'] at h6;have:=hi.apart x x' d d' v v' b g2 (g3.al h2) g2' (g3'.al h4) h5 h6 h7 h8;subst this;exact hn y y' x c c' g1 g1' h1 h2 h3 h4;intro b hb;exact hi.mine b (how b hb);intro d ly' hd;obtain⟨ly,g1,g2⟩:=hl.get d ly' hd;obtain⟨v,hv,hval⟩:=hi.sts d ly g1;exact⟨v,hv,(g2 w _ γ γ' hg).2 v (Ly.val_mono (Kp.refl _ _) (λb hb=>.inl (hS b hb)) (Ng.refl _) ly v hval)⟩
theorem lk_ne{β:Type}{i y:Nat}{x:β}{m:List (Nat×β)}(h:y≠i):lk ((i,x)::m) y=lk m y:=by simp only[lk];cases hb:Nat.beq i y;rfl;exact absurd (Nat.eq_of_beq_eq_true hb).symm h
theorem lk_eq{β:Type}{y:Nat}{x:β}{m:List (Nat×β)}:lk ((y,x)::m) y=some x:=by simp only[lk,Nat.beq_refl];rfl
def rowC{α:Type}(E k:Nat)(f:α->Ly)(n:Nat)(s:Nat->List α):List (Nat×Ct):=(List.range n).map λj=>(200+j,.sl E k ((s j).map f))
theorem Qku{β:Type}{F:Nat->β}:∀(js:List Nat) (y:Nat),lk (js.map λj=>(200+j,F j)) y=if 200≤y∧y - 200∈js then some (F (y - 200)) else none
 | [],y=>by simp[lk]
 | j::js,y=>by simp only[List.map_cons];by_cases e:y=200+j;subst e;rw[lk_eq,if_pos ⟨by omega,by rw[show 200+j - 200=j by omega];exact .head _⟩,show 200+j - 200=j by omega];rw[lk_ne e,Qku js y];by_cases c:200≤y∧y - 200∈js;rw[if_pos c,if_pos ⟨c.1,.tail _ c.2⟩];rw[if_neg c,if_neg λg=>c ⟨g.1,by rcases List.mem_cons.1 g.2 with h | h;exact absurd (by omega) e;exact h⟩]
theorem Q49{α:Type}{E k:Nat}{f:α->Ly}{n:Nat}{s:Nat->List α}{y:Nat}:lk (rowC E k f n s) y=if 200≤y∧y - 200<n then some (.sl E k ((s (y - 200)).map f)) else none:=by unfold rowC;rw[Qku];simp only[List.mem_range]
def rowM{α:Type}(E1 E k:Nat)(f:α->Ly)(s:List (List α)):List (Nat×Ct):=(100,.sl E1 1 (((List.range s.length).map λj=>200+j).map Ly.own))::rowC E k f s.length λj=>s.getD j []
def rowM7{α:Type}(E1 E k:Nat)(f:α->Ly)(s:List (List α))(i:Nat)(r:List α):List (Nat×Ct):=
 (100,.sl E1 1 (((List.range s.length).map λj=>if j=i then 7 else 200+j).map Ly.own))::(7,.sl E k (r.map f))::((List.range s.length).filter λj=>!decide (j=i)).map λj=>(200+j,.sl E k ((s.getD j []).map f))
theorem Qkk{α:Type}{E1 E k:Nat}{f:α->Ly}{s:List (List α)}{y:Nat}(h:y≠100):lk (rowM E1 E k f s) y=if 200≤y∧y - 200<s.length then some (.sl E k ((s.getD (y - 200) []).map f)) else none:=by unfold rowM;rw[lk_ne h];exact Q49
theorem Qok{α:Type}{E1 E k:Nat}{f:α->Ly}{s:List (List α)}{i:Nat}{r:List α}{y:Nat}(h:y≠100)(h7:y≠7):lk (rowM7 E1 E k f s i r) y=if 200≤y∧(y - 200<s.length∧y - 200≠i) then some (.sl E k ((s.getD (y - 200) []).map f)) else none:=by
 unfold rowM7;rw[lk_ne h,lk_ne h7,Qku];simp only[List.mem_filter,List.mem_range];by_cases c:200≤y∧(y - 200<s.length∧y - 200≠i)
 rw[if_pos c,if_pos ⟨c.1,c.2.1,by simp[c.2.2]⟩];rw[if_neg c,if_neg λg=>c ⟨g.1,g.2.1,by simpa using g.2.2⟩]
def namS(n:Nat)(h:Nat->Nat):List (Nat×Nat):=(100,100)::(List.range n).map λj=>(200+j,h j)
theorem Qni{n:Nat}{h:Nat->Nat}{y:Nat}:lk (namS n h) y=if y=100 then some 100 else if 200≤y∧y - 200<n then some (h (y - 200)) else none:=by unfold namS;by_cases e:y=100;subst e;rw[lk_eq,if_pos rfl];rw[lk_ne e,if_neg e,Qku];simp only[List.mem_range]
theorem Qui{σ:List (Nat×Nat)}{g h:Nat->Nat}:∀ {js:List Nat},(∀ j∈js,lk σ (h j)=some (g j))->Rns σ ((js.map g).map Ly.own) ((js.map h).map Ly.own)
 | [],_=>Kg
 | _::_,hh=>Q9 (J9 (hh _ (.head _))) (Qui λj hj=>hh j (.tail _ hj))
theorem Qxs{l:List Nat}:∀ ly∈l.map Ly.own,ly.sz=1:=λly h=>by obtain⟨i,_,rfl⟩:=List.mem_map.1 h;rfl
section rows
variable {X:Cx}{R:Type}{md:Option R}{G:R->Act->World->Prop}{l l':List (Nat×Ly)}{α:Type}{f:α->Ly}{E1 E k:Nat}
theorem Quj(hf:∀ x,IF (f x))(r:List α):IFs (r.map f):=Ja hf r
theorem Q31(hf:∀ x,IF (f x))(hg0:∀ id,X.g0 id=none){s:List (List α)}{i:Nat}{r:List α}(hr:s[i]?=some r)(hl:RnL ((100,100)::(7,200+i)::((List.range s.length).filter λj=>!decide (j=i)).map λj=>(200+j,200+j)) l l'):Ent X l (rowM E1 E k f s) l' (rowM7 E1 E k f s i r):=by
 have hi:i<s.length:=by rcases Nat.lt_or_ge i s.length with h | h;exact h;rw[List.getElem?_eq_none h] at hr;cases hr
 have hr2:s.getD i []=r:=by rw[List.getD_eq_getElem?_getD,hr];rfl
 let σ:List (Nat×Nat):=(100,100)::(7,200+i)::((List.range s.length).filter λj=>!decide (j=i)).map λj=>(200+j,200+j)
 have hσ:∀ y,lk σ y=if y=100 then some 100 else if y=7 then some (200+i) else if 200≤y∧(y - 200<s.length∧y - 200≠i) then some y else none:=by
  intro y;show lk ((100,100)::(7,200+i)::((List.range s.length).filter λj=>!decide (j=i)).map λj=>(200+j,200+j)) y=_;by_cases e1:y=100;subst e1;rw[lk_eq,if_pos rfl];rw[lk_ne e1,if_neg e1];by_cases e2:y=7;subst e2;rw[lk_eq,if_pos rfl];rw[lk_ne e2,if_neg e2,Qku];simp only[List.mem_filter,List.mem_range];by_cases c:200≤y∧(y - 200<s.length∧y - 200≠i)
  rw[if_pos c,if_pos ⟨c.1,c.2.1,by simp[c.2.2]⟩,show 200+(y - 200)=y by omega];rw[if_neg c,if_neg λg=>c ⟨g.1,g.2.1,by simpa using g.2.2⟩]
 have hc:∀ y x,lk σ y=some x->(y=100∧x=100)∨(y=7∧x=200+i)∨(200≤y∧y - 200≠i∧x=y):=by
  intro y x h;rw[hσ] at h;by_cases e1:y=100;rw[if_pos e1] at h;exact .inl ⟨e1,(Option.some.inj h).symm⟩;rw[if_neg e1] at h;by_cases e2:y=7;rw[if_pos e2] at h;exact .inr (.inl ⟨e2,(Option.some.inj h).symm⟩);rw[if_neg e2] at h;by_cases c:200≤y∧(y - 200<s.length∧y - 200≠i)
  rw[if_pos c] at h;exact .inr (.inr ⟨c.1,c.2.2,(Option.some.inj h).symm⟩);rw[if_neg c] at h;cases h
 refine entG σ ?_ (λid v h=>by rw[hg0 id] at h;cases h) ?_ ?_ hl;intro y y' x c c' h1 h2 _ _ _ _;rcases hc y x h1 with h1 | h1 | h1<;>rcases hc y' x h2 with h2 | h2 | h2<;>omega;intro y x h;rw[hσ] at h;split at h;rename_i e;subst e;exact⟨_,rfl⟩;split at h;rename_i e;subst e;exact⟨_,rfl⟩;split at h;rename_i n1 n2 c;rw[Qok n1 n2,if_pos c];exact⟨_,rfl⟩;cases h;intro y c' h;by_cases n1:y=100;subst n1;cases h;refine⟨100,_,by rw[hσ,if_pos rfl],rfl,.inl ⟨rfl,rfl,by simp,?_,λ_=>Qxs⟩⟩;refine Qui λj hj=>?_;have hj:=List.mem_range.1 hj;rw[hσ];by_cases e:j=i;subst e;rw[if_pos rfl];rfl;rw[if_neg e,if_neg (by omega),if_neg (by omega),if_pos ⟨by omega,by omega,by omega⟩];by_cases n2:y=7;subst n2;cases h;refine⟨200+i,_,by rw[hσ,if_neg (by omega),if_pos rfl],?_,.inl (rc_sl (Quj hf r))⟩;rw[Qkk (by omega),if_pos (by omega),show 200+i - 200=i by omega,hr2];rw[Qok n1 n2] at h;split at h;rename_i c;cases h;refine⟨y,_,by rw[hσ,if_neg n1,if_neg n2,if_pos c],?_,.inl (rc_sl (Quj hf _))⟩;rw[Qkk n1,if_pos ⟨c.1,c.2.1⟩];cases h
theorem Q32(q:Nat)(hq:(Nat.blt q 200 && !Nat.beq q 100)=true)(hf:∀ x,IF (f x))(hg0:∀ id,X.g0 id=none){s:List (List α)}{i:Nat}{r z:List α}{m0:List (Nat×Ct)}(hi:i<s.length)(h100:lk m0 100=some (.sl E1 1 ((((List.range s.length).map λj=>if j=i then 7 else 200+j).set i q).map Ly.own)))(h101:lk m0 q=some (.sl E k (z.map f)))
 (hrest:∀ y,200≤y->lk m0 y=lk (rowM7 E1 E k f s i r) y) (hl:RnL (namS s.length λj=>if j=i then q else 200+j) l l'):Ent X l m0 l' (rowM E1 E k f (s.set i z)):=by
 have hq1:q<200∧q≠100:=by simp only[Bool.and_eq_true,Bool.not_eq_true',Nat.blt_eq] at hq;exact⟨hq.1,λe=>by rw[e] at hq;exact absurd hq.2 (by decide)⟩
 refine entG (namS s.length λj=>if j=i then q else 200+j) ?_ (λid v h=>by rw[hg0 id] at h;cases h) ?_ ?_ hl;intro y y' x c c' h1 h2 _ _ _ _;have hc:∀ y x,lk (namS s.length λj=>if j=i then q else 200+j) y=some x->(y=100∧x=100)∨(y - 200=i∧200≤y∧x=q)∨(200≤y∧y - 200≠i∧x=y):=by intro y x h;rw[Qni] at h;by_cases e1:y=100;rw[if_pos e1] at h;exact .inl ⟨e1,(Option.some.inj h).symm⟩;rw[if_neg e1] at h;by_cases c:200≤y∧y - 200<s.length;rw[if_pos c] at h;have h:=(Option.some.inj h).symm;by_cases e:y - 200=i;rw[if_pos e] at h;exact .inr (.inl ⟨e,c.1,h⟩);rw[if_neg e] at h;exact .inr (.inr ⟨c.1,e,by omega⟩);rw[if_neg c] at h;cases h
 rcases hc y x h1 with h1 | h1 | h1<;>rcases hc y' x h2 with h2 | h2 | h2<;>omega;intro y x h;rw[Qni] at h;split at h;rename_i e;subst e;exact⟨_,rfl⟩;split at h;rename_i n1 c;rw[Qkk n1,List.length_set,if_pos c];exact⟨_,rfl⟩;cases h;intro y c' h;by_cases n1:y=100;subst n1;cases h;refine⟨100,_,by rw[Qni,if_pos rfl],h100,.inl ⟨rfl,rfl,by simp,?_,λ_=>Qxs⟩⟩;have e:((List.range s.length).map λj=>if j=i then 7 else 200+j).set i q=(List.range s.length).map λj=>if j=i then q else 200+j:=by
  apply List.ext_getElem;simp;intro j h1 h2;rw[List.getElem_set];by_cases c:i=j;subst c;simp;rw[if_neg c];simp only[List.getElem_map,List.getElem_range];rw[if_neg (λe=>c e.symm),if_neg (λe=>c e.symm)]
 rw[e,List.length_set];refine Qui λj hj=>?_;have hj:=List.mem_range.1 hj;rw[Qni,if_neg (by omega),if_pos (by omega),show 200+j - 200=j by omega];rw[Qkk n1,List.length_set] at h;split at h;rename_i c;cases h;refine⟨if y - 200=i then q else y,.sl E k (((s.set i z).getD (y - 200) []).map f),?_,?_,.inl (rc_sl (Quj hf _))⟩;rw[Qni,if_neg n1,if_pos c];by_cases e:y - 200=i;rw[if_pos e,if_pos e];rw[if_neg e,if_neg e,show 200+(y - 200)=y by omega];by_cases e:y - 200=i;rw[if_pos e,h101,e];rw[show(s.set i z).getD i []=z by rw[List.getD_eq_getElem?_getD,List.getElem?_set,if_pos rfl,if_pos hi];rfl];rw[if_neg e,hrest y c.1,Qok n1 (by omega),if_pos ⟨c.1,c.2,e⟩];rw[show(s.set i z).getD (y - 200) []=s.getD (y - 200) [] by rw[List.getD_eq_getElem?_getD,List.getD_eq_getElem?_getD,List.getElem?_set,if_neg (λg=>e g.symm)]];cases h
abbrev nilL:Ly:=.cell (cpX (.slice none 0 0) rfl)
theorem Q5a:Zr nilL [.slice none 0 0]:=λ_ _ _=>⟨_,rfl,rfl⟩
theorem Q5b{xs:List (List α)}{b:Nat}{p:Int}{l1:List (Nat×Ly)}(hx:mkM b ([]:List α) p=some xs)(hl:SubL l1 l):Ent X l [(100,.sl E1 1 (xs.map λ_=>nilL))] l1 (rowM E1 E k f xs):=by
 obtain⟨n,rfl⟩:∃ n,xs=List.replicate n []:=by unfold mkM at hx;split at hx;cases hx;exact⟨_,rfl⟩;cases hx
 rw[show((List.replicate n ([]:List α)).map λ_=>nilL)=(List.replicate n ()).map λ_=>nilL by simp];intro a w γ hi;let ys:List (Nat×Nat×Nat):=(List.range n).map λj=>(200+j,E,k)
 have hfr:∀(js:List Nat),Qp2 (lk [(100,Ct.sl E1 1 ((List.replicate n ()).map λ_=>nilL))]) (js.map λj=>(200+j,E,k)):=by
  intro js
  induction js with
  | nil=>trivial
  | cons j js ih=>
    refine⟨?_,ih⟩;show lk _ (200+j)=none;rw[lk_ne (by omega)];rfl
 have hnd:∀ m:Nat,nodupB (((List.range m).map λj=>(200+j,E,k)).map (·.1))=true:=by
  intro m;have gen:∀(js:List Nat),js.Nodup->nodupB ((js.map λj=>(200+j,E,k)).map (·.1))=true:=by
   intro js
   induction js with
   | nil=>intro _;rfl
   | cons j js ih=>
     intro h;rw[List.nodup_cons] at h;simp only[List.map_cons,nodupB,ih h.2,Bool.and_true,Bool.not_eq_true',List.any_eq_false,List.mem_map];rintro x ⟨e,⟨i,hi,rfl⟩,rfl⟩ hb;have:=Nat.eq_of_beq_eq_true hb;have:j=i:=by simp only[] at this;omega
     subst this;exact h.1 hi
  exact gen _ List.nodup_range
 obtain⟨γ',h1,h2,h3,h4⟩:=hi.nils ys (hfr _) (hnd n);have hnil:∀ j,j<n->γ' (200+j)=some (.slice none 0 0):=λj hj=>h3 (200+j,E,k) (List.mem_map.2 ⟨j,List.mem_range.2 hj,rfl⟩);have hmm:∀ y,lk (rowM E1 E k f (List.replicate n ([]:List α))) y=if y=100 then some (.sl E1 1 (((List.range n).map λj=>200+j).map Ly.own)) else lk (nilM ys) y:=by
  intro y;by_cases c:y=100;subst c;rw[if_pos rfl];show some _=_;rw[List.length_replicate];rw[if_neg c,Qkk c];have e:nilM ys=(List.range n).map λj=>(200+j,Ct.sl E k []):=by simp[nilM,ys,List.map_map,Function.comp_def]
  rw[e,Qku];simp only[List.mem_range,List.length_replicate];by_cases g:200≤y∧y - 200<n;rw[if_pos g,if_pos g];rw[show(List.replicate n ([]:List α)).getD (y - 200) []=[] by rw[List.getD_eq_getElem?_getD,List.getElem?_replicate,if_pos g.2];rfl];rfl;rw[if_neg g,if_neg g]
 have hup:∀ y,up (lk [(100,Ct.sl E1 1 ((List.replicate n ()).map λ_=>nilL))]) (nilM ys) y=if y=100 then some (.sl E1 1 ((List.replicate n ()).map λ_=>nilL)) else lk (nilM ys) y:=by
  intro y;have e:nilM ys=(List.range n).map λj=>(200+j,Ct.sl E k []):=by simp[nilM,ys,List.map_map,Function.comp_def]
  by_cases c:y=100;subst c;rw[if_pos rfl];simp only[up];rw[e,Qku,if_neg (by omega)];rfl;rw[if_neg c];simp only[up];cases hq:lk (nilM ys) y with
  | some _=>rfl
  | none=>
    rw[lk_ne c];rfl
 generalize hU:up (lk [(100,Ct.sl E1 1 ((List.replicate n ()).map λ_=>nilL))]) (nilM ys)=U at h1 hup;have halv:∀ y c,lk (rowM E1 E k f (List.replicate n ([]:List α))) y=some c->∃ c0,U y=some c0∧(c.alive=true->c0.alive=true):=by intro y c hc;rw[hmm] at hc;rw[hup];split at hc;rename_i e;rw[if_pos e];exact⟨_,rfl,λ_=>rfl⟩;rename_i e;rw[if_neg e];exact⟨c,hc,λh=>h⟩
 have how:∀ b,Ow γ' (lk (rowM E1 E k f (List.replicate n ([]:List α)))) b->Ow γ' U b:=by rintro b ⟨y,c,v,g1,g2,g3,g4⟩;obtain⟨c0,g5,g6⟩:=halv y c g1;exact⟨y,c0,v,g5,g6 g2,g3,g4⟩
 have hS:∀ b,X.S γ' (lk (rowM E1 E k f (List.replicate n ([]:List α)))) b->X.S γ' U b:=λb h=>orM h (λx=>x) (how b);refine⟨γ',{ h1 with fresh:=?_,cts:=?_,apart:=?_,mine:=?_,sts:=?_ }⟩;intro y hy;refine h1.fresh y ?_;rw[hmm] at hy;rw[hup];split at hy;cases hy;rename_i e;rw[if_neg e];exact hy;intro y c hc;rw[hmm] at hc;split at hc;rename_i e;subst e;cases hc;obtain⟨v,cs,a1,a2,a3,a4⟩:=h1.cts 100 (.sl E1 1 ((List.replicate n ()).map λ_=>nilL)) (by rw[hup,if_pos rfl]);refine⟨v,cs,a1,by simpa using a2,?_,Qxs⟩
 have gen:∀(m:Nat) (g:Nat->Nat) (cs:List Value),(∀ j,j<m->γ' (g j)=some (.slice none 0 0))->Ly.holds w (X.S γ' U) γ' ((List.replicate m ()).map λ_=>nilL) cs →
  Ly.holds w (X.S γ' (lk (rowM E1 E k f (List.replicate n ([]:List α))))) γ' (((List.range m).map g).map Ly.own) cs:=by
  intro m
  induction m with
  | zero=>intro g cs _ h;exact h
  | succ m ih=>
    intro g cs hg h;rw[List.replicate_succ,List.map_cons] at h;obtain⟨c1,c2,rfl,⟨u,rfl,rfl⟩,h2⟩:=h;rw[List.range_succ_eq_map,List.map_cons,List.map_cons,List.map_map (g:=g)];exact⟨_,c2,rfl,⟨_,rfl,hg 0 (by omega),rfl⟩,ih (g ∘ Nat.succ) c2 (λj hj=>hg (j+1) (by omega)) h2⟩
 exact gen n (λj=>200+j) cs hnil a3;rename_i e;have:=h1.cts y c (by rw[hup,if_neg e];exact hc);exact this.mono (Kp.refl _ _) (λb hb=>.inl (hS b hb)) (Ng.refl _) (λ_ _ _ _=>rfl);intro y y' c c' v v' b g1 g2 g3 g4 g5 g6 g7 g8;obtain⟨d,e1,e2⟩:=halv y c g1;obtain⟨d',e1',e2'⟩:=halv y' c' g3;exact h1.apart y y' d d' v v' b e1 (e2 g2) e1' (e2' g4) g5 g6 g7 g8;intro b hb;exact h1.mine b (how b hb);intro d ly hd;obtain⟨v,g1,g2⟩:=h1.sts d ly (hl.lk d ly hd);exact⟨v,g1,Ly.val_mono (Kp.refl _ _) (λb hb=>.inl (hS b hb)) (Ng.refl _) ly v g2⟩
theorem Q2a{w:World}{S S':Nat->Prop}{γ:Nm}{id E k:Nat}{ls:List Ly}{v:Value}(hc:Va w S γ id (.sl E k ls))(hv:γ id=some v)(hif:IFs ls)(hS:∀ b,S' b->S b)(hb:∀ b,blkOf v=some b->b<w.heap.size∧¬ S' b):(cpL k ls).p w S' v:=by
 obtain⟨u,cs,h1,⟨_,h2⟩,h3,h4⟩:=hc;rw[hv] at h1;injection h1 with h1
 subst h1;have h3':Ly.holds w S' (λ_=>none) ls cs:=(hif w S' γ (λ_=>none)).1 _ (Ly.holds_mono (Kp.refl _ _) (λb hb=>.inl (hS b hb)) (Ng.refl _) ls cs h3);rcases h2 with ⟨rfl,hn⟩ | ⟨g,cap,cur,rfl,_,e2,e3,e4,e5,e6⟩;exact .inl ⟨rfl,List.eq_nil_of_length_eq_zero hn⟩;obtain⟨b1,b2⟩:=hb g rfl;refine .inr (.inl ⟨g,0,cap,cs,rfl,e3,e4,b1,b2,λj u hj=>?_,h3',h4⟩);rw[J6 e2,←Array.getElem?_toList,Nat.zero_add];rw[←e6,List.getElem?_take] at hj;split at hj;exact hj;cases hj
theorem Q33(hf:∀ x,IF (f x))(hg0:∀ id,X.g0 id=none){s:List (List α)}(d:Nat)(hd:lk l d=some (.own 100))
 (K:Sq X ((d,sli 1 (s.map λr=>sli k (r.map f)))::l') [] md G) (hl:SubL l' l) (hnm:∀ e∈l',IF e.2):Sq X l (rowM E1 E k f s) md G:=by
 intro r a w γ hr hi;refine K r a w (λ_=>none) hr ?_;have hS:∀ b,X.S (λ_=>none) (lk []) b->X.S0 b:=λb h=>h.elim (λx=>x) (λ⟨_,_,_,h,_⟩=>by cases h);have hS2:∀ b,X.S (λ_=>none) (lk []) b->X.S γ (lk (rowM E1 E k f s)) b:=λb h=>.inl (hS b h)
 have hrow:∀ j,j<s.length->lk (rowM E1 E k f s) (200+j)=some (.sl E k ((s.getD j []).map f)):=λj hj=>by rw[Qkk (by omega),if_pos (by omega),show 200+j - 200=j by omega]
 refine { hi with keep:=λid v h=>(by rw[hg0 id] at h;cases h),fresh:=λ_ _=>rfl,cts:=λ_ _ h=>(by cases h),apart:=λ_ _ _ _ _ _ _ h=>(by cases h),mine:=λb h=>h.elim (λ_ h=>h.elim λ_ h=>h.elim λ_ h=>by cases h.1),sts:=?_ };intro i ly hly;simp only[lk] at hly;cases hb:Nat.beq d i;rw[hb] at hly;obtain⟨v,h1,h2⟩:=hi.sts i ly (hl.lk i ly hly);refine⟨v,h1,?_⟩;have hmem:∀(l:List (Nat×Ly)),lk l i=some ly->∃ e∈l,e.2=ly:=by
  intro l
  induction l with
  | nil=>intro h;cases h
  | cons e l ih=>
    intro h;obtain⟨i0,x⟩:=e;simp only[lk] at h;cases hb:Nat.beq i0 i;rw[hb] at h;obtain⟨e,he,h⟩:=ih h;exact⟨e,.tail _ he,h⟩;rw[hb] at h;cases h;exact⟨_,.head _,rfl⟩
 obtain⟨e,he,rfl⟩:=hmem l' hly;exact((hnm e he) w _ γ (λ_=>none)).2 v (Ly.val_mono (Kp.refl _ _) (λb hb=>.inl (hS2 b hb)) (Ng.refl _) e.2 v h2);rw[hb] at hly;cases hly;have:=Nat.eq_of_beq_eq_true hb;subst this;obtain⟨v,h1,h2,h3⟩:=hi.sts d _ hd;refine⟨v,h1,?_⟩;obtain⟨u,cs,e1,⟨e2,e3⟩,e4,e5⟩:=hi.cts 100 (.sl E1 1 (((List.range s.length).map λj=>200+j).map Ly.own)) rfl;rw[h2] at e1;injection e1 with e1
 subst e1
 have own100:∀ b,blkOf v=some b->b<w.heap.size∧¬ X.S0 b:=λb hb=>by obtain⟨_,g2,g3⟩:=hi.mine b ⟨100,_,v,rfl,rfl,h2,hb⟩;exact⟨g2,g3⟩
 have gen:∀(m:Nat) (g:Nat->Nat) (s':List (List α)) (cs:List Value),s'.length=m->(∀ j,j<m->∃ r,s'[j]?=some r∧lk (rowM E1 E k f s) (g j)=some (.sl E k (r.map f))) →
  Ly.holds w (X.S γ (lk (rowM E1 E k f s))) γ (((List.range m).map g).map Ly.own) cs->Ly.holds w (X.S (λ_=>none) (lk [])) (λ_=>none) (s'.map λr=>sli k (r.map f)) cs:=by
  intro m
  induction m with
  | zero=>
    intro g s' cs hm _ h;have:s'=[]:=List.eq_nil_of_length_eq_zero hm;subst this;exact h
  | succ m ih=>
    intro g s' cs hm hg h;rw[List.range_succ_eq_map,List.map_cons,List.map_cons,List.map_map (g:=g)] at h;obtain⟨c1,c2,rfl,⟨u,rfl,h4,_⟩,h6⟩:=h;cases s' with
    | nil=>simp at hm
    | cons r s'=>
      obtain⟨r',q1,q2⟩:=hg 0 (by omega);simp only[List.getElem?_cons_zero] at q1;cases q1;refine⟨_,c2,rfl,⟨u,rfl,?_⟩,ih (g ∘ Nat.succ) s' c2 (by simpa using hm) (λj hj=>?_) h6⟩;refine Q2a (hi.cts _ _ q2) h4 (Ja hf r) hS2 λb hb=>?_;obtain⟨_,g2,g3⟩:=hi.mine b ⟨_,_,u,q2,rfl,h4,hb⟩;exact⟨g2,λh=>g3 (hS b h)⟩;obtain⟨r2,q3,q4⟩:=hg (j+1) (by omega);simp only[List.getElem?_cons_succ] at q3;exact⟨r2,q3,q4⟩
 have hh:=gen s.length (λj=>200+j) s cs rfl (λj hj=>⟨s[j],List.getElem?_eq_getElem hj,by rw[hrow j hj,List.getD_eq_getElem?_getD,List.getElem?_eq_getElem hj];rfl⟩) e4;have hln:(s.map λr=>sli k (r.map f)).length=s.length:=List.length_map _;simp only[List.length_map,List.length_range] at e2 e3;rcases e3 with ⟨rfl,hn⟩ | ⟨g,cap,cur,rfl,_,f2,f3,f4,f5,f6⟩;exact .inl ⟨rfl,List.eq_nil_of_length_eq_zero (by rw[hln];exact hn)⟩;obtain⟨b1,b2⟩:=own100 g rfl;refine .inr (.inl ⟨g,0,cap,cs,by rw[hln],by rw[hln];exact f3,f4,b1,λh=>b2 (hS g h),λj u hj=>?_,hh,λly hly=>?_⟩);rw[J6 f2,←Array.getElem?_toList,Nat.zero_add];rw[←f6,List.getElem?_take] at hj;split at hj;exact hj;cases hj;obtain⟨r,_,rfl⟩:=List.mem_map.1 hly;rfl
theorem entS{m:List (Nat×Ct)}(h:SubL l' l):Ent X l m l' m:=λa w γ hi=>⟨γ,{ hi with sts:=λd ly hd=>hi.sts d ly (h.lk d ly hd) }⟩
theorem lenRw{st:Nat->Option Ly}{mm:Nat->Option Ct}{d x T ty pos af id}{s:List (List α)}(hT:X.P.underlying T=some (.slice E1))(hm:mm id=some (.sl E1 1 (((List.range s.length).map λj=>200+j).map Ly.own)))(hd:Nat.blt d X.N=true)(hx:OpdF st x (.own id)):
 OpOk X st mm ⟨some d,.call { callee:=.builtin .len,args:=#[x],argTypes:=#[T] },ty,pos,af,none⟩ [(d,i64 s.length)] []:=by
 have h:=lenO (f:=Ly.own) (X:=X) (st:=st) (mm:=mm) (ty:=ty) (pos:=pos) (af:=af) hT hm hd hx;rw[List.length_map,List.length_range] at h;exact h
theorem rwI{s:List (List α)}{i:Nat}{r:List α}(h:getI s (i:Int)=some r):s[i]?=some r:=by simpa [getI] using h
theorem rwLt{s:List (List α)}{i:Nat}{r:List α}(h:getI s (i:Int)=some r):i<s.length:=by have h:=rwI h;rcases Nat.lt_or_ge i s.length with h' | h';exact h';rw[List.getElem?_eq_none h'] at h;cases h
theorem rw7I{s:List (List α)}{i:Nat}{r:List α}(h:getI s (i:Int)=some r):getI ((List.range s.length).map λj=>if j=i then 7 else 200+j) (i:Int)=some 7:=by have hl:=rwLt h;simp[getI,List.getElem?_map,List.getElem?_range hl]
theorem Q34{i y:Nat}{c:Ct}{m:List (Nat×Ct)}(hb:Nat.beq i y=false)(h:lk m y=none):lk ((i,c)::m) y=none:=by rw[lk_ne (λe=>by rw[e,Nat.beq_refl] at hb;cases hb)];exact h
theorem Qrd{i y:Nat}{c:Ct}{m:List (Nat×Ct)}(hb:Nat.blt i 200=true)(h:200≤y):lk ((i,c)::m) y=lk m y:=by rw[Nat.blt_eq] at hb;exact lk_ne (by omega)
theorem rw7N{s:List (List α)}{i y:Nat}{r:List α}(h:(Nat.blt y 200 && (!Nat.beq y 100 && !Nat.beq y 7))=true):lk (rowM7 E1 E k f s i r) y=none:=by simp only[Bool.and_eq_true,Bool.not_eq_true',Nat.blt_eq] at h;obtain⟨h1,h2,h3⟩:=h;rw[Qok (λe=>by rw[e] at h2;exact absurd h2 (by decide)) (λe=>by rw[e] at h3;exact absurd h3 (by decide)),if_neg (by omega)]
end rows
end Go.Proofs.YtkkfedionkhgnaaGreatDoor
