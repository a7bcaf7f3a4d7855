import Derived.Orders
import Derived.Deep.AppendSrc
import Derived.Test.YthdbapalogijdaaGreatDoorGw
namespace Go.Proofs.YthdbapalogijdaaGreatDoor
open Go
theorem nt{a b c d:Prop}(h:a\/b)(f:a->c)(g:b->d):c\/d:=ol
def Kp(S:Nat->Prop)(w w':World):Prop:=
 w.heap.size<=w'.heap.size/\∀ b,b<w.heap.size->¬ S b->w'.heap[b]?=w.heap[b]?
theorem Kp.refl(S:Nat->Prop)(w:World):Kp S w w:=⟨xe _,oh⟩
structure CP where
 p:World->(Nat->Prop)->Value->Prop
 one:∀ {w S v},p w S v->v.oneCell'=true
 mono:∀ {w S v w' S'},p w S v->Kp S w w'->(∀ b,S' b->S b\/w.heap.size<=b)->p w' S' v
inductive Ly where
 | cell (p:CP)
 | agg (l:List Ly)
 | own (id:Nat)
 | ptr (id off:Nat)
 | ref (ly:Ly)
 | por (id:Nat)
 | win (id off len:Nat)
 | ifc (T:Nat) (ly:Ly)
 | clo (f:Nat) (l:Bf)
 | bnd (f:Nat) (l:List Ly)
 | tup (l:List Ly)
 | any
def aC:Value->Option Nat
 | .slice (some a) _ _=>some a.block
 | .pointer (some a)=>some a.block
 | .map (some r)=>some r
 | .chan (some r)=>some r
 | _=>none
def kj(γ:Nat->Option Value)(id off len:Nat)(v:Value):Prop:=∃ v0,γ id=some v0/\((v=.slice none 0 0/\v0=.slice none 0 0/\len=0)\/∃ g cap o,aC v0=some g/\v=.slice (some ⟨g,o,none⟩) len cap/\(0<len->o=off)/\len<=cap/\cap<=maxLen)
def gb(γ:Nat->Option Value):Bf->List Value->Prop
 | [],[]=>True
 | id::l,v::us=>γ id=some v/\v.oneCell'=true/\gb γ l us
 | _,_=>False
def kk(γ:Nat->Option Value)(f:Nat)(l:Bf)(v:Value):Prop:=∃ us:List Value,v=.func (.func f) #[] us.toArray/\gb γ l us
abbrev Nm:=Nat->Option Value
mutual
def Ly.hold(w:World)(S:Nat->Prop)(γ:Nm):Ly->List Value->Prop
 | .cell p,cs=>∃ v,cs=[v]/\p.p w S v
 | .agg l,cs=>Ly.holds w S γ l cs
 | .own id,cs=>∃ v,cs=[v]/\γ id=some v/\v.oneCell'=true
 | .ptr id off,cs=>∃ v0 g,γ id=some v0/\aC v0=some g/\cs=[.pointer (some ⟨g,off,none⟩)]
 | .ref ly,cs=>∃ b o us,cs=[.pointer (some ⟨b,o,none⟩)]/\b<w.heap.size/\¬ S b/\(∀ j u,us[j]?=some u->w.cell? ⟨b,o+j,none⟩=some u)/\Ly.hold w S γ ly us
 | .por id,cs=>∃ v,cs=[v]/\(v=.pointer none\/∃ v0 g,γ id=some v0/\aC v0=some g/\v=.pointer (some ⟨g,0,none⟩))
 | .win id off len,cs=>∃ v,cs=[v]/\kj γ id off len v
 | .ifc _ _,_=>False
 | .clo f l,cs=>∃ v,cs=[v]/\kk γ f l v
 | .bnd _ _,_=>False
 | .tup _,_=>False
 | .any,_=>False
def Ly.holds(w:World)(S:Nat->Prop)(γ:Nm):List Ly->List Value->Prop
 | [],cs=>cs=[]
 | ly::l,cs=>∃ c1 c2,cs=c1++c2/\Ly.hold w S γ ly c1/\Ly.holds w S γ l c2
end
mutual
def Ly.val(w:World)(S:Nat->Prop)(γ:Nm):Ly->Value->Prop
 | .agg l,v=>∃ cs,v=.agg cs/\Ly.holds w S γ l cs.toList
 | .tup l,v=>∃ vs,v=.tuple vs/\Ly.vals w S γ l vs.toList
 | .any,_=>True
 | .cell p,v=>p.p w S v
 | .own id,v=>γ id=some v/\v.oneCell'=true
 | .ptr id off,v=>∃ v0 g,γ id=some v0/\aC v0=some g/\v=.pointer (some ⟨g,off,none⟩)
 | .ref ly,v=>Ly.hold w S γ (.ref ly) [v]
 | .por id,v=>v=.pointer none\/∃ v0 g,γ id=some v0/\aC v0=some g/\v=.pointer (some ⟨g,0,none⟩)
 | .win id off len,v=>kj γ id off len v
 | .ifc T ly,v=>∃ u,v=.iface T u/\Ly.val w S γ ly u
 | .clo f l,v=>kk γ f l v
 | .bnd f l,v=>∃ us:List Value,v=.func (.func f) us.toArray #[]/\Ly.vals w S γ l us
def Ly.vals(w:World)(S:Nat->Prop)(γ:Nm):List Ly->List Value->Prop
 | [],vs=>vs=[]
 | ly::l,vs=>∃ v r,vs=v::r/\Ly.val w S γ ly v/\Ly.vals w S γ l r
end
mutual
def Ly.sz:Ly->Nat
 | .agg l=>Ly.szs l
 | _=>1
def Ly.szs:List Ly->Nat
 | []=>0
 | ly::l=>ly.sz+Ly.szs l
end
mutual
theorem Ly.hold_sz{w S γ}:∀(ly:Ly) (cs:List Value),ly.hold w S γ cs->cs.length=ly.sz
 | .cell p,cs,h=>by obtain⟨v,rfl,_⟩:=h;rfl
 | .agg l,cs,h=>by simpa [Ly.sz] using Ly.holds_sz l cs (by simpa [Ly.hold] using h)
 | .own id,cs,h=>by obtain⟨v,rfl,_⟩:=h;rfl
 | .ptr id off,cs,h=>by obtain⟨_,g,_,_,rfl⟩:=h;rfl
 | .ref ly,cs,h=>by obtain⟨b,o,us,rfl,_⟩:=h;rfl
 | .por id,cs,h=>by obtain⟨v,rfl,_⟩:=h;rfl
 | .win id off len,cs,h=>by obtain⟨v,rfl,_⟩:=h;rfl
 | .ifc _ _,_,h=>by grind[Ly.hold]
 | .clo _ _,cs,h=>by obtain⟨v,rfl,_⟩:=h;rfl
 | .bnd _ _,_,h=>by grind[Ly.hold]
 | .tup _,_,h=>by grind[Ly.hold]
 | .any,_,h=>by grind[Ly.hold]
theorem Ly.holds_sz{w S γ}:∀(l:List Ly) (cs:List Value),Ly.holds w S γ l cs->cs.length=Ly.szs l
 | [],cs,h=>by grind[Ly.holds,Ly.szs]
 | ly::l,cs,h=>by obtain⟨c1,c2,rfl,d,e⟩:=h;simp[Ly.szs,Ly.hold_sz ly c1 d,Ly.holds_sz l c2 e]
end
theorem Kp.cell{S:Nat->Prop}{w w':World}(h:Kp S w w'){b o:Nat}{v:Value}(d:¬ S b)(f:w.cell? ⟨b,o,none⟩=some v):
 w'.cell? ⟨b,o,none⟩=some v:=by
 have e:b<w.heap.size:=by grind[World.cell?]
 rw[World.cell?_of_block (w:=w) (h.2 b e d)];exact f
theorem Kp.trans{S S':Nat->Prop}{a b c:World}(h:Kp S a b)(k:Kp S' b c)(f:∀ x,S' x->S x\/a.heap.size<=x):Kp S a c:=
 ⟨xz h.1 k.1,λx d e=>by
  rw[k.2 x (xr d h.1) ol]
  exact h.2 x d e⟩
def Ng(γ γ':Nm):Prop:=∀ id v,γ id=some v->γ' id=some v
theorem Ng.refl(γ:Nm):Ng γ γ:=λ_ _ h=>h
theorem kj.mono{γ γ':Nm}(f:Ng γ γ'){id off len:Nat}{v:Value}(h:kj γ id off len v):kj γ' id off len v:=by obtain⟨v0,d,e⟩:=h;exact⟨v0,f _ _ d,e⟩
theorem gb.mono{γ γ':Nm}(d:Ng γ γ'):∀ {l:Bf}{us:List Value},gb γ l us->gb γ' l us
 | [],[],_=>trivial
 | _::_,_::_,h=>⟨d _ _ h.1,h.2.1,gb.mono d h.2.2⟩
 | [],_::_,h=>h.elim
 | _::_,[],h=>h.elim
theorem kk.mono{γ γ':Nm}(g:Ng γ γ'){f:Nat}{l:Bf}{v:Value}(h:kk γ f l v):kk γ' f l v:=by obtain⟨us,d,e⟩:=h;exact⟨us,d,e.mono g⟩
theorem kk.one{γ:Nm}{f:Nat}{l:Bf}{v:Value}(h:kk γ f l v):v.oneCell'=true:=by obtain⟨us,rfl,_⟩:=h;rfl
theorem kj.one{γ:Nm}{id off len:Nat}{v:Value}(h:kj γ id off len v):v.oneCell'=true:=by obtain⟨v0,_,⟨rfl,_⟩ | ⟨g,cap,o,_,rfl,_⟩⟩:=h<;>rfl
mutual
theorem Ly.hold_mono{w w':World}{S S':Nat->Prop}{γ γ':Nm}(hk:Kp S w w')(k:∀ b,S' b->S b\/w.heap.size<=b)(e:Ng γ γ'):
 ∀(ly:Ly) (cs:List Value),ly.hold w S γ cs->ly.hold w' S' γ' cs
 | .cell p,cs,h=>by obtain⟨v,rfl,A⟩:=h;exact⟨v,rfl,p.mono A hk k⟩
 | .agg l,cs,h=>by simp only[Ly.hold] at h |-;exact Ly.holds_mono hk k e l cs h
 | .own id,cs,h=>by obtain⟨v,rfl,d,i⟩:=h;exact⟨v,rfl,e _ _ d,i⟩
 | .ptr id off,cs,h=>by obtain⟨v0,g,d,i,rfl⟩:=h;exact⟨v0,g,e _ _ d,i,rfl⟩
 | .ref ly,cs,h=>by obtain⟨b,o,us,rfl,s,n,t,d⟩:=h;refine⟨b,o,us,rfl,xr s hk.1,λq=>(k b q).elim n (λh''=>by omega),λj u y=>hk.cell n (t j u y),Ly.hold_mono hk k e ly us d⟩
 | .por id,cs,h=>by obtain⟨v,rfl,h⟩:=h;exact⟨v,rfl,nt h (λx=>x) (λ⟨v0,g,d,i,r⟩=>⟨v0,g,e _ _ d,i,r⟩)⟩
 | .win id off len,cs,h=>by obtain⟨v,rfl,h⟩:=h;exact⟨v,rfl,h.mono e⟩
 | .ifc _ _,_,h=>by grind[Ly.hold]
 | .clo f l,cs,h=>by obtain⟨v,rfl,h⟩:=h;exact⟨v,rfl,h.mono e⟩
 | .bnd _ _,_,h=>by grind[Ly.hold]
 | .tup _,_,h=>by grind[Ly.hold]
 | .any,_,h=>by grind[Ly.hold]
theorem Ly.holds_mono{w w':World}{S S':Nat->Prop}{γ γ':Nm}(hk:Kp S w w')(e:∀ b,S' b->S b\/w.heap.size<=b)(d:Ng γ γ'):
 ∀(l:List Ly) (cs:List Value),Ly.holds w S γ l cs->Ly.holds w' S' γ' l cs
 | [],cs,h=>h
 | ly::l,cs,h=>by obtain⟨c1,c2,rfl,f,g⟩:=h;exact⟨c1,c2,rfl,Ly.hold_mono hk e d ly c1 f,Ly.holds_mono hk e d l c2 g⟩
end
mutual
theorem Ly.val_mono{w w':World}{S S':Nat->Prop}{γ γ':Nm}(hk:Kp S w w')(e:∀ b,S' b->S b\/w.heap.size<=b)(d:Ng γ γ'):
 ∀(ly:Ly) (v:Value),ly.val w S γ v->ly.val w' S' γ' v
 | .agg l,v,h=>by simp only[Ly.val] at h |-;obtain⟨cs,rfl,h⟩:=h;exact⟨cs,rfl,Ly.holds_mono hk e d l _ h⟩
 | .tup l,v,h=>by simp only[Ly.val] at h |-;obtain⟨vs,rfl,h⟩:=h;exact⟨vs,rfl,Ly.vals_mono hk e d l _ h⟩
 | .any,v,h=>by simp[Ly.val]
 | .cell p,v,h=>by simp only[Ly.val] at h |-;exact p.mono h hk e
 | .own id,v,h=>by simp only[Ly.val] at h |-;exact⟨d _ _ h.1,h.2⟩
 | .ptr id off,v,h=>by simp only[Ly.val] at h |-;obtain⟨v0,g,i,j,rfl⟩:=h;exact⟨v0,g,d _ _ i,j,rfl⟩
 | .ref ly,v,h=>by grind[Ly.val,Ly.hold_mono]
 | .por id,v,h=>by simp only[Ly.val] at h |-;exact nt h (λx=>x) (λ⟨v0,g,i,j,k⟩=>⟨v0,g,d _ _ i,j,k⟩)
 | .win id off len,v,h=>by simp only[Ly.val] at h |-;exact h.mono d
 | .ifc T ly,v,h=>by simp only[Ly.val] at h |-;obtain⟨u,rfl,h⟩:=h;exact⟨u,rfl,Ly.val_mono hk e d ly u h⟩
 | .clo f l,v,h=>by simp only[Ly.val] at h |-;exact h.mono d
 | .bnd f l,v,h=>by simp only[Ly.val] at h |-;obtain⟨us,rfl,h⟩:=h;exact⟨us,rfl,Ly.vals_mono hk e d l us h⟩
theorem Ly.vals_mono{w w':World}{S S':Nat->Prop}{γ γ':Nm}(hk:Kp S w w')(e:∀ b,S' b->S b\/w.heap.size<=b)(d:Ng γ γ'):
 ∀(l:List Ly) (vs:List Value),Ly.vals w S γ l vs->Ly.vals w' S' γ' l vs
 | [],vs,h=>by grind[Ly.vals]
 | ly::l,vs,h=>by simp only[Ly.vals] at h |-;obtain⟨v,r,rfl,f,g⟩:=h;exact⟨v,r,rfl,Ly.val_mono hk e d ly v f,Ly.vals_mono hk e d l r g⟩
end
def Ly.lies:Ly->Bool
 | .tup _=>false
 | .any=>false
 | .ifc _ _=>false
 | .bnd _ _=>false
 | _=>true
def Ly.isN:Ly->Bool
 | .agg _=>true
 | _=>false
theorem Ly.hold_of_val{w S γ}{ly:Ly}{v:Value}(k:ly.lies=true)(h:ly.val w S γ v):ly.hold w S γ v.cells.toList:=by
 cases ly<;>simp[Ly.lies] at k<;>simp only[Ly.val] at h
 case cell p=>
  have:=p.one h;cases v<;>simp[Value.oneCell'] at this<;>exact⟨_,rfl,h⟩
 case agg l=>obtain⟨cs,rfl,h⟩:=h;grind[Ly.hold,Value.cells]
 case own id=>
  obtain⟨e,i⟩:=h;cases v<;>simp[Value.oneCell'] at i<;>exact⟨_,rfl,e,rfl⟩
 case ptr id off=>obtain⟨v0,g,e,i,rfl⟩:=h;exact⟨v0,g,e,i,rfl⟩
 case ref ly=>
  have d:=h;obtain⟨b,o,us,j,_⟩:=h;simp at j;subst j;exact d
 case por id=>
  rcases h with rfl | ⟨v0,g,e,i,rfl⟩
  . exact⟨_,rfl,.inl rfl⟩
  . exact⟨_,rfl,ol⟩
 case win id off len=>
  have d:=h.one;cases v<;>simp[Value.oneCell'] at d<;>exact⟨_,rfl,h⟩
 case clo f l=>
  have d:=h.one;cases v<;>simp[Value.oneCell'] at d<;>exact⟨_,rfl,h⟩
theorem Ly.val_of_hold1{w S γ}{ly:Ly}{v:Value}(d:ly.isN=false)(h:ly.hold w S γ [v]):ly.val w S γ v:=by
 cases ly<;>simp[Ly.isN] at d
 all_goals simp_all[Ly.val,Ly.hold]
mutual
theorem Ly.oneCell_of_hold{w S γ}:∀(ly:Ly) (cs:List Value),ly.hold w S γ cs->∀ u∈cs,u.oneCell'=true
 | .cell p,cs,h=>by obtain⟨v,rfl,j⟩:=h;intro u d;simp at d;subst d;exact p.one j
 | .agg l,cs,h=>by simp only[Ly.hold] at h;exact Ly.oneCell_of_holds l cs h
 | .own id,cs,h=>by obtain⟨v,rfl,e,i⟩:=h;grind
 | .ptr id off,cs,h=>by obtain⟨_,g,e,_,rfl⟩:=h;intro u d;simp at d;subst d;rfl
 | .ref ly,cs,h=>by obtain⟨b,o,us,rfl,_⟩:=h;intro u d;simp at d;subst d;rfl
 | .por id,cs,h=>by obtain⟨v,rfl,h⟩:=h;intro u d;simp at d;subst d;rcases h with rfl | ⟨v0,g,e,i,rfl⟩<;>rfl
 | .win id off len,cs,h=>by obtain⟨v,rfl,h⟩:=h;intro u d;simp at d;subst d;exact h.one
 | .ifc _ _,_,h=>by grind[Ly.hold]
 | .clo f l,cs,h=>by obtain⟨v,rfl,h⟩:=h;intro u d;simp at d;subst d;exact h.one
 | .bnd _ _,_,h=>by grind[Ly.hold]
 | .tup _,_,h=>by grind[Ly.hold]
 | .any,_,h=>by grind[Ly.hold]
theorem Ly.oneCell_of_holds{w S γ}:∀(l:List Ly) (cs:List Value),Ly.holds w S γ l cs->∀ u∈cs,u.oneCell'=true
 | [],cs,h=>by grind[Ly.holds]
 | ly::l,cs,h=>by obtain⟨c1,c2,rfl,d,e⟩:=h;intro u f;rcases yz.1 f with h | h;exact Ly.oneCell_of_hold ly c1 d u h;exact Ly.oneCell_of_holds l c2 e u h
end
end Go.Proofs.YthdbapalogijdaaGreatDoor
namespace Go.Proofs.YthdbapalogijdaaGreatDoor
open Go
inductive Ct where
 | sl (E k:Nat) (ls:List Ly)
 | bx (E:Nat) (ly:Ly)
 | ob (o:Obj)
 | ch (o:Obj)
 | mp (ks:List Value) (ls:List Ly)
 | gone
def Ct.alive:Ct->Bool
 | .gone=>false
 | _=>true
def lk{α:Type}:List (Nat×α)->Nat->Option α
 | [],_=>none
 | (i,a)::l,j=>cond (Nat.beq i j) (some a) (lk l j)
def up{α:Type}(st:Nat->Option α)(el:List (Nat×α)):Nat->Option α:=λd=>match lk el d with
 | some x=>some x
 | none=>st d
theorem Jm4{α:Type}(st:Nat->Option α):up st []=st:=rfl
theorem co{α:Type}(l el:List (Nat×α)):up (lk l) el=lk (el++l):=by
 funext d
 induction el with
 | nil=>rfl
 | cons e el f=>
   grind[up,lk]
theorem Xb{α:Type}(st:Nat->Option α)(d:Nat)(x:α)(i:Nat):up st [(d,x)] i=if d=i then some x else st i:=by simp only[up,lk];by_cases h:d=i;simp_all;grind[Nat.eq_of_beq_eq_true]
def Ow(γ:Nm)(mm:Nat->Option Ct)(b:Nat):Prop:=∃ id c v,mm id=some c/\c.alive=true/\γ id=some v/\aC v=some b
def qD:Value->Prop
 | .int k x=>k.min<=x/\x<=k.max
 | _=>True
def Mv(f:Array MapEntry)(d:Nat):Prop:=(f.toList.map (·.born)).Nodup/\(∀ e∈f.toList,e.born<d)/\∀ e∈f.toList,qD e.key
def Xk(w:World)(S:Nat->Prop)(γ:Nm)(id:Nat):Ct->Prop
 | .sl E k ls=>∃ v cs,γ id=some v/\w.ownsRow 0 E k v ls.length cs/\Ly.holds w S γ ls cs/\∀ ly∈ls,ly.sz=k
 | .bx E ly=>∃ g aH,γ id=some (.pointer (some ⟨g,0,none⟩))/\w.heap[g]?=some (.cells aH E (0,0))/\Ly.hold w S γ ly aH.toList
 | .ob o=>∃ g,γ id=some (.pointer (some ⟨g,0,none⟩))/\w.heap[g]?=some o
 | .ch o=>∃ g,γ id=some (.chan (some g))/\w.heap[g]?=some o
 | .mp f ls=>∃ g e d,γ id=some (.map (some g))/\w.heap[g]?=some (.map e d)/\e.toList.map (·.key)=f/\Ly.vals w S γ ls (e.toList.map (·.val))/\Mv e d
 | .gone=>True
structure Cx where
 P:Program
 N:Nat
 w0:World
 S0:Nat->Prop
 M:Nat->Prop
 g0:Nm
 df:List Deferred
def Cx.S(X:Cx)(γ:Nm)(mm:Nat->Option Ct)(b:Nat):Prop:=X.S0 b\/Ow γ mm b
def jD(w:World)(S:Nat->Prop):Prop:=(∀ b,b<gN->¬ S b/\b<w.heap.size)/\GF w
structure bq(X:Cx)(st:Nat->Option Ly)(mm:Nat->Option Ct)(a:Act)(w:World)(γ:Nm):Prop where
 size:a.tmps.size=X.N
 defs:a.defers=X.df
 s0:∀ b,X.S0 b->b<X.w0.heap.size
 gx:jD X.w0 (λb=>X.S0 b\/X.M b)
 keep:Ng X.g0 γ
 os:w.os=X.w0.os
 tape:w.tape=X.w0.tape
 output:w.output=X.w0.output
 grow:X.w0.heap.size<=w.heap.size
 old:∀ b,b<X.w0.heap.size->¬ X.M b->w.heap[b]?=X.w0.heap[b]?
 fresh:∀ id,mm id=none->γ id=none
 cts:∀ id c,mm id=some c->Xk w (X.S γ mm) γ id c
 apart:∀ id id' c c' v v' b,mm id=some c->c.alive=true->mm id'=some c'->c'.alive=true->γ id=some v->γ id'=some v'->aC v=some b->aC v'=some b->id=id'
 mine:∀ b,Ow γ mm b->(X.w0.heap.size<=b\/X.M b)/\b<w.heap.size/\¬ X.S0 b
 sts:∀ d ly,st d=some ly->∃ v,a.tmps[d]?=some v/\ly.val w (X.S γ mm) γ v
def Sq{R:Type}(X:Cx)(l:List (Nat×Ly))(m:List (Nat×Ct))(md:Option R)(G:R->Act->World->Prop):Prop:=
 ∀ r a w γ,md=some r->bq X (lk l) (lk m) a w γ->G r a w
def ax(X:Cx)(st:Nat->Option Ly)(mm:Nat->Option Ct)(o:Oper)(el:List (Nat×Ly))(em:List (Nat×Ct)):Prop:=
 ∀ a w γ K Q,bq X st mm a w γ->(∀ d w' γ',bq X (up st el) (up mm em) d w' γ'->K d w')->o.wp X.P a w K Q
theorem Xk.mono{w w':World}{S S':Nat->Prop}{γ γ':Nm}{id:Nat}{c:Ct}(h:Xk w S γ id c)(hk:Kp S w w')(y:∀ b,S' b->S b\/w.heap.size<=b)(i:Ng γ γ')
 (f:∀ v b,γ id=some v->aC v=some b->w'.heap[b]?=w.heap[b]?):Xk w' S' γ' id c:=by
 cases c with
 | gone=>trivial
 | sl E k ls=>
   obtain⟨v,cs,d,u,t,x⟩:=h;refine⟨v,cs,i _ _ d,?_,by grind[Ly.holds_mono],x⟩;obtain⟨n,p⟩:=u;refine⟨n,?_⟩;rcases p with p | ⟨g,cap,aH,rfl,hg',e,r⟩;grind;exact .inr ⟨g,cap,aH,rfl,hg',by rw[f _ g d rfl];exact e,r⟩
 | bx E ly=>
   obtain⟨g,aH,d,e,t⟩:=h;exact⟨g,aH,i _ _ d,by rw[f _ g d rfl];exact e,by grind[Ly.hold_mono]⟩
 | ob o=>
   obtain⟨g,d,e⟩:=h;exact⟨g,i _ _ d,by rw[f _ g d rfl];exact e⟩
 | ch o=>
   obtain⟨g,d,e⟩:=h;exact⟨g,i _ _ d,by rw[f _ g d rfl];exact e⟩
 | mp A ls=>
   obtain⟨g,q,j,d,e,n,p,s⟩:=h;exact⟨g,q,j,i _ _ d,by rw[f _ g d rfl];exact e,n,by grind[Ly.vals_mono],s⟩
namespace bq
variable {X:Cx}{st:Nat->Option Ly}{mm:Nat->Option Ct}{a:Act}{w:World}{γ:Nm}
theorem gw(h:bq X st mm a w γ){S:Nat->Prop}(g:∀ b,S b->X.S γ mm b):jD w S:=
 ⟨λb d=>⟨λi=>by
  obtain⟨g1,j⟩:=h.gx.1 b d;rcases g b i with f | f
  . grind
  . rcases(h.mine b f).1 with e | e
    all_goals grind,xr (h.gx.1 b d).2 h.grow⟩,
  yV h.gx.2 h.grow λb d=>h.old b (h.gx.1 b d).2 λe=>(h.gx.1 b d).1 (.inr e)⟩
theorem put(h:bq X st mm a w γ){d:Nat}{v:Value}{ly:Ly}(hd:d<X.N)(g:ly.val w (X.S γ mm) γ v):
 bq X (up st [(d,ly)]) mm (a.put (some d) v) w γ:=
 { h with
   size:=by simpa [Act.put] using h.size
   defs:=by simpa [Act.put] using h.defs
   sts:=by
    intro i f hi;rw[Xb] at hi;by_cases e:d=i;subst e;simp at hi;subst hi;exact⟨v,by simp[Act.put,h.size,hd],g⟩;simp[e] at hi;obtain⟨u,k,j⟩:=h.sts i f hi
    grind[Act.put] }
theorem ext(h:bq X st mm a w γ){w':World}(j:w'.os=w.os)(u:w'.tape=w.tape)(i:w'.output=w.output)(hk:Kp (λ_=>False) w w'):bq X st mm a w' γ:=by
 have g:Kp (X.S γ mm) w w':=⟨hk.1,λb e _=>hk.2 b e (λh=>h)⟩
 refine { h with os:=j.trans h.os,tape:=u.trans h.tape,output:=i.trans h.output,grow:=xz h.grow hk.1,old:=?_,cts:=?_,mine:=?_,sts:=?_ };intro b e s;rw[hk.2 b (xr e h.grow) (λh=>h)];exact h.old b e s;intro id c n;by_cases f:c.alive=true;refine(h.cts id c n).mono g ol (Ng.refl _) ?_;intro v b k e;exact hk.2 b (h.mine b ⟨id,c,v,n,f,k,e⟩).2.1 (λh=>h);cases c<;>simp[Ct.alive] at f;trivial;intro b e;obtain⟨p,q,r⟩:=h.mine b e;exact⟨p,xr q hk.1,r⟩;intro d ly hd;obtain⟨v,k,t⟩:=h.sts d ly hd;exact⟨v,k,Ly.val_mono g ol (Ng.refl _) ly v t⟩
def gset(γ:Nm)(y:Nat)(v:Value):Nm:=λi=>if y=i then some v else γ i
theorem new(h:bq X st mm a w γ){w':World}(N:w'.os=w.os)(ht:w'.tape=w.tape)(E:w'.output=w.output)(hk:Kp (λ_=>False) w w')
 {y:Nat}{ct:Ct}{v:Value}(hy:mm y=none) (L:ct.alive=true)
 (Y:∀ S γ',(∀ b,X.S γ mm b->S b)->(∀ b,S b->X.S γ mm b\/w.heap.size<=b)->Ng γ γ'->γ' y=some v->Xk w' S γ' y ct)
 (B:∀ b,aC v=some b->w.heap.size<=b/\b<w'.heap.size) :
 bq X st (up mm [(y,ct)]) a w' (gset γ y v):=by
 have P:=h.ext N ht E hk;have Z:γ y=none:=h.fresh y hy;have C:Ng γ (gset γ y v):=by intro i u H;grind[gset]
 have F:∀ b,Ow (gset γ y v) (up mm [(y,ct)]) b↔Ow γ mm b\/aC v=some b:=by
  intro b;constructor;rintro⟨id,c,u,f,r,j,n⟩;rw[Xb] at f;by_cases g:y=id;grind[gset];simp[g] at f;simp[gset,g] at j;exact .inl ⟨id,c,u,f,r,j,n⟩;rintro(⟨id,c,u,f,r,j,n⟩ | n);have g:y≠id:=ol
  exact⟨id,c,u,by grind[Xb],r,by grind[gset],n⟩;exact⟨y,ct,v,by grind[Xb],L,by simp[gset],n⟩
 have V:∀ b,X.S (gset γ y v) (up mm [(y,ct)]) b->X.S γ mm b\/w.heap.size<=b:=by rintro b (e | e);exact .inl (.inl e);rcases(F b).1 e with f | f;exact .inl (.inr f);grind
 have W:∀ b,X.S γ mm b->X.S (gset γ y v) (up mm [(y,ct)]) b:=by rintro b (e | e);exact .inl e;exact .inr ol
 have M:Kp (X.S γ mm) w w':=⟨hk.1,λb B _=>hk.2 b B (λh=>h)⟩
 refine { P with keep:=λi u H=>C i u (h.keep i u H),fresh:=?_,cts:=?_,apart:=?_,mine:=?_,sts:=?_ };intro id g;rw[Xb] at g;by_cases k:y=id;grind;simp[k] at g;simp[gset,k,h.fresh id g];intro id c I;rw[Xb] at I;by_cases k:y=id;grind[gset];simp[k] at I;by_cases p:c.alive=true;refine(h.cts id c I).mono M V C ?_;intro u b H e;exact hk.2 b (h.mine b ⟨id,c,u,I,p,H,e⟩).2.1 (λh=>h);cases c<;>simp[Ct.alive] at p;trivial;intro id q c O u T b f r j n s t J K;rw[Xb] at f j;by_cases x:y=id<;>by_cases A:y=q;omega;subst x;simp[A] at j;simp[gset] at s;subst s;simp[gset,A] at t;have:=(B b J).1;have:=(h.mine b ⟨q,O,T,j,n,t,K⟩).2.1;omega;subst A;simp[x] at f;simp[gset] at t;subst t;simp[gset,x] at s;have:=(B b K).1;have:=(h.mine b ⟨id,c,u,f,r,s,J⟩).2.1;omega;simp[x] at f;simp[A] at j;simp[gset,x] at s;simp[gset,A] at t;exact h.apart id q c O u T b f r j n s t J K;intro b e;rcases(F b).1 e with f | f;exact P.mine b f;obtain⟨g1,U⟩:=B b f;exact⟨.inl (xz h.grow g1),U,λhs=>by have:=h.s0 b hs;have:=h.grow;omega⟩;intro d ly hd;obtain⟨u,H,hl⟩:=h.sts d ly hd;grind[Ly.val_mono]
theorem setc(h:bq X st mm a w γ){w':World}(M:w'.os=w.os)(ht:w'.tape=w.tape)(E:w'.output=w.output){id:Nat}{c ct:Ct}(q:mm id=some c)(H:c.alive=true)
 {v:Value}(N:γ id=some v) {J:Nat}(t:aC v=some J) (hk:Kp (λb=>b=J) w w')
 (K:ct.alive=true) (Y:Xk w' (X.S γ mm) γ id ct):bq X st (up mm [(id,ct)]) a w' γ:=by
 have hmine:=h.mine J ⟨id,c,v,q,H,N,t⟩;have F:∀ b,Ow γ (up mm [(id,ct)]) b↔Ow γ mm b:=by intro b;constructor;rintro⟨i,j,u,r,y,p,A⟩;rw[Xb] at r;by_cases e:id=i;subst e;exact⟨id,c,u,q,H,p,A⟩;simp[e] at r;exact⟨i,j,u,r,y,p,A⟩;rintro⟨i,j,u,r,y,p,A⟩;by_cases e:id=i;subst e;exact⟨id,ct,u,by grind[Xb],K,p,A⟩;exact⟨i,j,u,by grind[Xb],y,p,A⟩
 have B:X.S γ (up mm [(id,ct)])=X.S γ mm:=by funext b;exact propext ⟨λh=>nt h (λx=>x) (F b).1,λh=>nt h (λx=>x) (F b).2⟩
 have C:Kp (X.S γ mm) w w':=⟨hk.1,λb s hn=>hk.2 b s (λe=>hn (.inr ⟨id,c,v,q,H,N,e ▸ t⟩))⟩
 refine { h with os:=M.trans h.os,tape:=ht.trans h.tape,output:=E.trans h.output,grow:=xz h.grow hk.1,old:=?_,fresh:=?_,cts:=?_,apart:=?_,mine:=?_,sts:=?_ };intro b s W;rw[hk.2 b (xr s h.grow) ol];exact h.old b s W;intro i hi;rw[Xb] at hi;by_cases e:id=i;grind;simp[e] at hi;exact h.fresh i hi;intro i j g;rw[B];rw[Xb] at g;by_cases e:id=i;grind;simp[e] at g;by_cases f:j.alive=true;refine(h.cts i j g).mono C ol (Ng.refl _) ?_;intro u b I s;refine hk.2 b (h.mine b ⟨i,j,u,g,f,I,s⟩).2.1 (λL=>e ?_);subst L;exact h.apart id i c j v u b q H g f N I t s;cases j<;>simp[Ct.alive] at f;trivial;intro i O c1 c2 u u' b r y p A S T U V;rw[Xb] at r p;have g1:∃ k,mm i=some k/\k.alive=true:=by
  grind
 have P:∃ n,mm O=some n/\n.alive=true:=ol
 obtain⟨k,m1,a1⟩:=g1;obtain⟨n,m2,a2⟩:=P;exact h.apart i O k n u u' b m1 a1 m2 a2 S T U V;intro b s;obtain⟨r,y,p⟩:=h.mine b ol;exact⟨r,xr y hk.1,p⟩;intro d ly hd;rw[B];obtain⟨u,I,Z⟩:=h.sts d ly hd;exact⟨u,I,Ly.val_mono C ol (Ng.refl _) ly u Z⟩
theorem drop(h:bq X st mm a w γ)(id:Nat):bq X st (up mm [(id,.gone)]) a w γ:=by
 have k:∀ b,Ow γ (up mm [(id,.gone)]) b->Ow γ mm b:=by rintro b ⟨i,n,u,g,p,j,q⟩;rw[Xb] at g;by_cases e:id=i;grind[Ct.alive];simp[e] at g;exact⟨i,n,u,g,p,j,q⟩
 have B:∀ b,X.S γ (up mm [(id,.gone)]) b->X.S γ mm b:=λb h=>nt h (λx=>x) (k b);refine { h with fresh:=?_,cts:=?_,apart:=?_,mine:=?_,sts:=?_ };intro i hi;rw[Xb] at hi;by_cases e:id=i;grind;simp[e] at hi;exact h.fresh i hi;intro i n f;rw[Xb] at f;by_cases e:id=i;simp[e] at f;subst f;trivial;simp[e] at f;exact(h.cts i n f).mono (Kp.refl _ _) ol (Ng.refl _) oh;intro i r c1 c2 u A b g p j q;rw[Xb] at g j;by_cases e:id=i;grind[Ct.alive];by_cases s:id=r;grind[Ct.alive];simp[e] at g;simp[s] at j;exact h.apart i r c1 c2 u A b g p j q;intro b t;exact h.mine b (k b t);intro d ly hd;obtain⟨u,y,v⟩:=h.sts d ly hd;exact⟨u,y,Ly.val_mono (Kp.refl _ _) ol (Ng.refl _) ly u v⟩
end bq
end Go.Proofs.YthdbapalogijdaaGreatDoor
namespace Go.Proofs.YthdbapalogijdaaGreatDoor
open Go Go.RowKit
def l7(b:Bool):CP where
 p:=λ_ _ v=>v=.bool b
 one:=by intro _ _ v h;subst h;rfl
 mono:=ol
def bl(b:Bool):Ly:=.cell (l7 b)
def gX(k:IntKind)(x:Int):CP where
 p:=λ_ _ v=>v=.int k x/\k.min<=x/\x<=k.max
 one:=by intro _ _ v h;obtain⟨rfl,_⟩:=h;rfl
 mono:=ol
def ab(x:Int):Ly:=.cell (gX .i64 x)
def iU:List (Nat×Ly)->List (Nat×Ly)->Prop
 | [],_=>True
 | (d,ly)::r,l=>lk l d=some ly/\iU r l
theorem iU.lk{l' l:List (Nat×Ly)}(h:iU l' l):∀ d ly,Go.Proofs.YthdbapalogijdaaGreatDoor.lk l' d=some ly->Go.Proofs.YthdbapalogijdaaGreatDoor.lk l d=some ly:=by
 induction l' with
 | nil=>intro d ly h;cases h
 | cons e r g=>
   obtain⟨i,x⟩:=e;intro d ly hd;simp only[Go.Proofs.YthdbapalogijdaaGreatDoor.lk] at hd;cases f:Nat.beq i d;rw[f] at hd;exact g h.2 d ly hd;rw[f] at hd;have:i=d:=oo
   subst this;simp at hd;subst hd;exact h.1
def pq:List (Nat×Ct)->List (Nat×Ct)->List (Nat×Ct)->Prop
 | [],_,_=>True
 | (d,_)::r,m,m'=>lk m d=lk m' d/\pq r m m'
def Hs(m m':List (Nat×Ct)):Prop:=pq m m m'/\pq m' m m'
theorem Mw:∀(r m m':List (Nat×Ct)) (d:Nat),pq r m m'->lk r d≠none->lk m d=lk m' d
 | [],_,_,_,_,h=>absurd rfl h
 | (i,x)::r,m,m',d,h,hd=>by simp only[lk] at hd;cases e:Nat.beq i d;rw[e] at hd;exact Mw r m m' d h.2 hd;have:i=d:=xy e;subst this;exact h.1
theorem Hs.eq{m m':List (Nat×Ct)}(h:Hs m m'):lk m=lk m':=by funext d;by_cases e:lk m d=none;by_cases f:lk m' d=none;grind;exact Mw m' m m' d h.2 f;exact Mw m m m' d h.1 e
def k7(X:Cx)(l:List (Nat×Ly))(m:List (Nat×Ct))(l':List (Nat×Ly))(m':List (Nat×Ct)):Prop:=
 ∀ a w γ,bq X (lk l) (lk m) a w γ->∃ γ',bq X (lk l') (lk m') a w γ'
theorem Mx{X:Cx}{l l' m m'}(h:iU l' l)(e:Hs m m'):k7 X l m l' m':=λa w γ hi=>
 ⟨γ,by rw[<-e.eq];exact { hi with sts:=λd ly hd=>hi.sts d ly (h.lk d ly hd) }⟩
def Rn(σ:List (Nat×Nat))(ly d:Ly):Prop:=∀ w S (γ γ':Nm),(∀ y x,lk σ y=some x->γ' y=γ x) ->
 (∀ cs,ly.hold w S γ cs->d.hold w S γ' cs)/\(∀ v,ly.val w S γ v->d.val w S γ' v)
def kl(σ:List (Nat×Nat))(l l':List Ly):Prop:=∀ w S (γ γ':Nm),(∀ y x,lk σ y=some x->γ' y=γ x) ->
 (∀ cs,Ly.holds w S γ l cs->Ly.holds w S γ' l' cs)/\(∀ v,Ly.vals w S γ l v->Ly.vals w S γ' l' v)
def IF(ly:Ly):Prop:=∀ w S (γ γ':Nm),(∀ cs,ly.hold w S γ cs->ly.hold w S γ' cs)/\(∀ v,ly.val w S γ v->ly.val w S γ' v)
def it(l:List Ly):Prop:=∀ w S (γ γ':Nm),(∀ cs,Ly.holds w S γ l cs->Ly.holds w S γ' l cs)/\(∀ v,Ly.vals w S γ l v->Ly.vals w S γ' l v)
theorem nu(p:CP):IF (.cell p):=λw S γ γ'=>⟨λcs h=>h,by grind[Ly.val]⟩
theorem My:IF .any:=λw S γ γ'=>⟨λcs h=>h,by grind[Ly.val]⟩
theorem iu:it []:=λw S γ γ'=>⟨λcs h=>h,by grind[Ly.vals]⟩
theorem Ka{ly l}(e:IF ly)(f:it l):it (ly::l):=λw S γ γ'=>
 ⟨λcs h=>by obtain⟨c1,c2,rfl,g1,d⟩:=h;exact⟨c1,c2,rfl,(e w S γ γ').1 _ g1,(f w S γ γ').1 _ d⟩,
  λv h=>by
   simp only[Ly.vals] at h |-
   obtain⟨u,r,rfl,g1,d⟩:=h;exact⟨u,r,rfl,(e w S γ γ').2 _ g1,(f w S γ γ').2 _ d⟩⟩
theorem Ju{α:Type}{f:α->Ly}(h:∀ x,IF (f x)):∀ xs:List α,it (xs.map f)
 | []=>iu
 | x::xs=>Ka (h x) (Ju h xs)
theorem l8{l}(h:it l):IF (.agg l):=λw S γ γ'=>
 ⟨λcs g=>by simp only[Ly.hold] at g |-;exact(h w S γ γ').1 cs g,
  λv g=>by simp only[Ly.val] at g |-;obtain⟨cs,rfl,g⟩:=g;exact⟨cs,rfl,(h w S γ γ').1 _ g⟩⟩
theorem qE{l}(h:it l):IF (.tup l):=λw S γ γ'=>
 ⟨by grind[Ly.hold],
  λv g=>by simp only[Ly.val] at g |-;obtain⟨cs,rfl,g⟩:=g;exact⟨cs,rfl,(h w S γ γ').2 _ g⟩⟩
theorem Jm5{ly}(h:IF ly):IF (.ref ly):=λw S γ γ'=>by
 have j:∀ cs,(Ly.ref ly).hold w S γ cs->(Ly.ref ly).hold w S γ' cs:=by rintro cs ⟨b,o,us,d,e,f,g,i⟩;exact⟨b,o,us,d,e,f,g,(h w S γ γ').1 _ i⟩
 grind[Ly.val]
theorem au{σ ly}(h:IF ly):Rn σ ly ly:=λw S γ γ' _=>h w S γ γ'
theorem K1{σ y x}(h:lk σ y=some x):Rn σ (.own x) (.own y):=λw S γ γ' e=>by have:=e y x h;exact⟨λcs g=>by obtain⟨v,rfl,g1,d⟩:=g;exact⟨v,rfl,ol,d⟩,by grind[Ly.val]⟩
theorem tu{σ y x off}(h:lk σ y=some x):Rn σ (.ptr x off) (.ptr y off):=λw S γ γ' e=>by have:=e y x h;exact⟨λcs g=>by obtain⟨v0,b,g1,d⟩:=g;exact⟨v0,b,ol,d⟩,by grind[Ly.val]⟩
theorem jQ{σ y x}(h:lk σ y=some x):Rn σ (.por x) (.por y):=λw S γ γ' d=>by
 have:=d y x h
 exact⟨λcs g=>by
  obtain⟨v,rfl,g⟩:=g;exact⟨v,rfl,ol⟩,
  by grind[Ly.val]⟩
theorem Vi{σ}:kl σ [] []:=λw S γ γ' _=>⟨λcs h=>h,by grind[Ly.vals]⟩
theorem Je{σ ly d l l'}(g:Rn σ ly d)(i:kl σ l l'):kl σ (ly::l) (d::l'):=λw S γ γ' e=>
 ⟨λcs h=>by obtain⟨c1,c2,rfl,g1,f⟩:=h;exact⟨c1,c2,rfl,(g w S γ γ' e).1 _ g1,(i w S γ γ' e).1 _ f⟩,
  λv h=>by
   simp only[Ly.vals] at h |-
   obtain⟨u,r,rfl,g1,f⟩:=h;exact⟨u,r,rfl,(g w S γ γ' e).2 _ g1,(i w S γ γ' e).2 _ f⟩⟩
theorem Jm6{σ l}(h:it l):kl σ l l:=λw S γ γ' _=>h w S γ γ'
theorem gY{σ l l'}(h:kl σ l l'):Rn σ (.agg l) (.agg l'):=λw S γ γ' d=>
 ⟨λcs g=>by simp only[Ly.hold] at g |-;exact(h w S γ γ' d).1 cs g,
  λv g=>by simp only[Ly.val] at g |-;obtain⟨cs,rfl,g⟩:=g;exact⟨cs,rfl,(h w S γ γ' d).1 _ g⟩⟩
theorem jR{σ l l'}(h:kl σ l l'):Rn σ (.tup l) (.tup l'):=λw S γ γ' d=>
 ⟨by grind[Ly.hold],
  λv g=>by simp only[Ly.val] at g |-;obtain⟨cs,rfl,g⟩:=g;exact⟨cs,rfl,(h w S γ γ' d).2 _ g⟩⟩
def gV(σ:List (Nat×Nat)):Ct->Ct->Prop
 | .sl E k ls,.sl E' i d=>E=E'/\k=i/\ls.length=d.length/\kl σ ls d/\((∀ ly∈ls,ly.sz=k)->∀ ly∈d,ly.sz=k)
 | .bx E ly,.bx E' f=>E=E'/\Rn σ ly f
 | .ob o,.ob g=>o=g
 | .ch o,.ch g=>o=g
 | .mp j ls,.mp e d=>j=e/\ls=d/\it ls
 | _,_=>False
theorem aW{σ E k ls}(h:it ls):gV σ (.sl E k ls) (.sl E k ls):=⟨rfl,rfl,rfl,Jm6 h,λh=>h⟩
theorem k9{σ d ls}(h:it ls):gV σ (.mp d ls) (.mp d ls):=⟨rfl,rfl,h⟩
theorem ld{σ o}:gV σ (.ob o) (.ob o):=rfl
theorem lf{σ o}:gV σ (.ch o) (.ch o):=rfl
theorem cx{σ E ly d}(h:Rn σ ly d):gV σ (.bx E ly) (.bx E d):=⟨rfl,h⟩
def km(σ:List (Nat×Nat))(c d:Ct):Prop:=gV σ c d\/d=.gone
theorem Mz{σ c d}(h:gV σ c d):km σ c d:=.inl h
theorem UM{σ c}:km σ c .gone:=.inr rfl
def UN:Option Ct->Bool
 | some c=>c.alive
 | none=>false
def oy(σ:List (Nat×Nat))(m:List (Nat×Ct)):List (Nat×Nat):=σ.filter λe=>UN (lk m e.1)
theorem Ht{σ:List (Nat×Nat)}{m:List (Nat×Ct)}{y x c}(h:(y,x)∈σ)(e:lk m y=some c)(d:c.alive=true):(y,x)∈oy σ m:=
 List.mem_filter.2 (by grind[UN])
def oA(σ:List (Nat×Nat))(l:List (Nat×Ly)):List (Nat×Ly)->Prop
 | []=>True
 | (d,e)::r=>(∃ ly,lk l d=some ly/\Rn σ ly e)/\oA σ l r
def l9(σ:List (Nat×Nat))(m:List (Nat×Ct)):List (Nat×Ct)->Prop
 | []=>True
 | (y,d)::r=>(∃ x c,lk σ y=some x/\lk m x=some c/\km σ c d)/\l9 σ m r
def gc(m':List (Nat×Ct)):List (Nat×Nat)->Prop
 | []=>True
 | (y,_)::r=>(∃ c,lk m' y=some c)/\gc m' r
def aJ:Bf->Bool
 | []=>true
 | x::r=>!(r.any (Nat.beq x)) && aJ r
def ib(σ:List (Nat×Nat))(g0:Nm):Prop:=∀ id v,g0 id=some v->lk σ id=some id
theorem oA.get{σ l}:∀ {l'},oA σ l l'->∀ d e,lk l' d=some e->∃ ly,lk l d=some ly/\Rn σ ly e
 | [],_,d,e,h=>by cases h
 | (i,x)::r,g,d,e,h=>by simp only[lk] at h;cases f:Nat.beq i d;rw[f] at h;exact oA.get g.2 d e h;rw[f] at h;have:i=d:=xy f;subst this;simp at h;subst h;exact g.1
theorem l9.get{σ m}:∀ {m'},l9 σ m m'->∀ y g,lk m' y=some g->∃ x c,lk σ y=some x/\lk m x=some c/\km σ c g
 | [],_,d,e,h=>by cases h
 | (i,x)::r,j,d,e,h=>by simp only[lk] at h;cases f:Nat.beq i d;rw[f] at h;exact l9.get j.2 d e h;rw[f] at h;have:i=d:=xy f;subst this;simp at h;subst h;exact j.1
theorem gc.get{m'}:∀ {σ:List (Nat×Nat)},gc m' σ->∀ y x,lk σ y=some x->∃ c,lk m' y=some c
 | [],_,y,x,h=>by cases h
 | (i,f)::r,e,y,x,h=>by simp only[lk] at h;cases d:Nat.beq i y;rw[d] at h;exact gc.get e.2 y x h;have:i=y:=xy d;subst this;exact e.1
theorem kn{σ:List (Nat×Nat)}:∀ {y x},lk σ y=some x->(y,x)∈σ:=by
 induction σ with
 | nil=>intro y x h;cases h
 | cons e r d=>
   grind[lk,Nat.eq_of_beq_eq_true]
theorem MA:∀ {σ:List (Nat×Nat)},aJ (σ.map (·.2))=true->∀ {y g x},(y,x)∈σ->(g,x)∈σ->lk σ y=some x->lk σ g=some x->y=g
 | [],_,_,_,_,h,_,_,_=>by cases h
 | (i,p)::r,n,y,g,x,t,u,d,e=>by
   simp only[xt,aJ,xp,vk] at n;have j:∀ z,(z,p) ∉ r:=by intro z v;have:(r.map (·.2)).any (Nat.beq p)=true:=wh.2 ⟨p,ol,oh⟩;rw[this] at n;simp at n
   simp only[lk] at d e;cases k:Nat.beq i y<;>cases f:Nat.beq i g;rw[k] at d;rw[f] at e;exact MA n.2 (kn d) (kn e) d e;rw[f] at e;simp at e;subst e;rw[k] at d;exact absurd (kn d) (j y);rw[k] at d;simp at d;subst d;rw[f] at e;exact absurd (kn e) (j g);have q:i=y:=xy k;have s:i=g:=xy f;omega
theorem MB:∀ {σ:List (Nat×Nat)},aJ (σ.map (·.2))=true->∀ {y j x},(y,x)∈σ->(j,x)∈σ->y=j
 | [],_,_,_,_,h,_=>by cases h
 | (i,d)::r,f,y,j,x,n,p=>by
   simp only[xt,aJ,xp,vk] at f;have q:∀ z,(z,d) ∉ r:=by intro z t;have:(r.map (·.2)).any (Nat.beq d)=true:=wh.2 ⟨d,ol,oh⟩;rw[this] at f;simp at f
   rcases xk.1 n with e | k1<;>rcases xk.1 p with s | k;exact by grind
   have g:x=d:=ol
   rw[g] at k;exact by grind
   have g:x=d:=ol
   rw[g] at k1;exact by grind
   exact MB f.2 k1 k
theorem Xk.rn{w S γ γ' σ x y c n}(r:∀ y x,lk σ y=some x->γ' y=γ x)(A:lk σ y=some x)(h:Xk w S γ x c)(e:gV σ c n):Xk w S γ' y n:=by
 have u:=r y x A;cases c<;>cases n<;>simp only[gV] at e
 case sl.sl E k ls E' k' ls'=>
  obtain⟨rfl,rfl,C,i,B⟩:=e;obtain⟨v,cs,j,d,f,q⟩:=h;exact⟨v,cs,ol,ol,(i w S γ γ' r).1 _ f,B q⟩
 case bx.bx E ly E' ly'=>
  obtain⟨rfl,i⟩:=e;obtain⟨g,aH,j,d,f⟩:=h;exact⟨g,aH,ol,d,(i w S γ γ' r).1 _ f⟩
 case ob.ob o o'=>
  subst e;obtain⟨g,j,d⟩:=h;exact⟨g,ol,d⟩
 case ch.ch o o'=>
  subst e;obtain⟨g,j,d⟩:=h;exact⟨g,ol,d⟩
 case mp.mp ks ls ks' ls'=>
  obtain⟨rfl,rfl,i⟩:=e;obtain⟨g,s,p,j,d,f,q,t⟩:=h;exact⟨g,s,p,ol,d,f,(i w S γ γ').2 _ q,t⟩
theorem gV.alive{σ c d}(h:gV σ c d):c.alive=true/\d.alive=true:=by cases c<;>cases d<;>simp only[gV] at h<;>exact⟨rfl,rfl⟩
theorem km.al{σ c d}(h:km σ c d)(e:d.alive=true):c.alive=true:=by rcases h with h | rfl;exact h.alive.1;cases e
theorem Xk.rn1{w S γ γ' σ x y c e}(f:∀ y x,lk σ y=some x->γ' y=γ x)(g:lk σ y=some x)(h:Xk w S γ x c)(d:km σ c e):Xk w S γ' y e:=by rcases d with d | rfl;exact h.rn f g d;trivial
theorem CV{X:Cx}{l l' m m'}(σ:List (Nat×Nat))(O:aJ ((oy σ m').map (·.2))=true)(hk:ib σ X.g0)(P:gc m' σ)(q:l9 σ m m')(N:oA σ l l'):k7 X l m l' m':=by
 intro a w γ hi;let γ':Nm:=λy=>match lk σ y with | some x=>γ x | none=>none
 have j:∀ y x,lk σ y=some x->γ' y=γ x:=ol
 have k:∀ b,Ow γ' (lk m') b->Ow γ (lk m) b:=by rintro b ⟨y,f,v,i,u,A,p⟩;obtain⟨x,c,g1,e,g3⟩:=q.get y f i;exact⟨x,c,v,e,g3.al u,ol,p⟩
 have S:∀ b,X.S γ' (lk m') b->X.S γ (lk m) b:=λb h=>nt h (λx=>x) (k b);refine⟨γ',{ hi with keep:=?_,fresh:=?_,cts:=?_,apart:=?_,mine:=?_,sts:=?_ }⟩;intro id v r;rw[j id id (hk id v r)];exact hi.keep id v r;intro y U;cases h:lk σ y with
 | none=>grind
 | some x=>obtain⟨c,T⟩:=P.get y x h;grind
 intro y f B;obtain⟨x,c,g1,e,g3⟩:=q.get y f B;have h0:=hi.cts x c e;have i:Xk w (X.S γ' (lk m')) γ x c:=h0.mono (Kp.refl _ _) ol (Ng.refl _) oh;exact i.rn1 j g1 g3;intro y I c f v v' b i u A p E F K L;obtain⟨x,d,g1,e,g3⟩:=q.get y c i;obtain⟨H,J,g,s,t⟩:=q.get I f A;rw[j y x g1] at E;rw[j I H g] at F;have:=hi.apart x H d J v v' b e (g3.al u) s (t.al p) E F K L;subst this;exact MB O (by grind[Ht,kn]) (Ht (kn g) A p);intro b M;exact hi.mine b (k b M);intro d C hd;obtain⟨ly,g1,e⟩:=N.get d C hd;obtain⟨v,r,n⟩:=hi.sts d ly g1;exact⟨v,r,(e w _ γ γ' j).2 v (Ly.val_mono (Kp.refl _ _) ol (Ng.refl _) ly v n)⟩
inductive Lp (σ τ:Type) where
 | go (s:σ)
 | out (t:τ)
def ae{σ τ:Type}(f:σ->Option (Lp σ τ)):Nat->σ->Option τ
 | 0,_=>none
 | n+1,s=>(f s).bind fun | .go s'=>ae f n s' | .out t=>some t
def ao{α σ τ:Type}(f:Nat->α->σ->Option (Lp σ τ)):List α->Nat->σ->Option (Lp σ τ)
 | [],_,s=>some (.go s)
 | x::xs,i,s=>(f i x s).bind fun | .go s'=>ao f xs (i+1) s' | .out t=>some (.out t)
section rules
variable {R:Type}{X:Cx}{l:List (Nat×Ly)}{m:List (Nat×Ct)}{md:Option R}{Q:R->Exit->Act->World->Prop}{G:R->Act->World->Prop}
theorem bd{α:Type}{x:Option α}{f:α->Option R}(h:∀ y,x=some y->Sq X l m (f y) G):Sq X l m (x.bind f) G:=by
 intro r a w γ d hi;cases e:x with
 | none=>grind
 | some y=>rw[e] at d;exact h y e r a w γ d hi
theorem nv{l' m'}(h:k7 X l m l' m')(k:Sq X l' m' md G):Sq X l m md G:=by intro r a w γ e hi;obtain⟨γ',d⟩:=h a w γ hi;exact k r a w γ' e d
theorem join{σ:Type}{A:Option σ}{k:σ->Option R}{G':R->Act->World->Prop}(L:σ->List (Nat×Ly))(M:σ->List (Nat×Ct))
 (h:(∀ s,Sq X (L s) (M s) (k s) G')->Sq X l m (A.bind k) G) (J:∀ s,Sq X (L s) (M s) (k s) G'):Sq X l m (A.bind k) G:=h J
theorem MC{b:Bool}{d e:Option R}(f:b=true->Sq X l m d G)(g:b=false->Sq X l m e G):Sq X l m (bif b then d else e) G:=ol
theorem MD{b:Bool}{f g:Option R}(d:Nat)(hd:lk l d=some (bl b))(j:Sq X ((d,bl true)::l) m f G)(k:Sq X ((d,bl false)::l) m g G):Sq X l m (bif b then f else g) G:=by
 refine MC (λe=>?_) (λe=>?_)<;>subst e
 exact nv (λa w γ hi=>⟨γ,{ hi with sts:=λi ly h=>hi.sts i ly (by grind[lk,Nat.eq_of_beq_eq_true]) }⟩) j
 exact nv (λa w γ hi=>⟨γ,{ hi with sts:=λi ly h=>hi.sts i ly (by grind[lk,Nat.eq_of_beq_eq_true]) }⟩) k
def ac(st:Nat->Option Ly):Operand->Ly->Prop
 | .tmp t,ly=>st t=some ly
 | .const v,ly=>∀ w S γ,ly.val w S γ v
 | .func f,ly=>∀ w S γ,ly.val w S γ (.func (.func f) #[] #[])
 | .global g,ly=>∀ w S γ,ly.val w S γ (.pointer (some ⟨g,0,none⟩))
theorem ac.val{st mm a w γ}(hi:bq X st mm a w γ){x:Operand}{ly:Ly}(h:ac st x ly):ly.val w (X.S γ mm) γ (a.eval x):=by
 cases x with
 | tmp t=>obtain⟨v,e,d⟩:=hi.sts t ly h;simp_all[Act.eval]
 | const v=>exact h _ _ _
 | func f=>exact h _ _ _
 | global g=>exact h _ _ _
theorem qG{b:Bool}{c:Operand}{x y:Code}{f g:Option R}(k:ac (lk l) c (bl b))
 (i:Sq X l m f (λr=>x.wp X.P (Q r))) (j:Sq X l m g (λr=>y.wp X.P (Q r))) :
 Sq X l m (bif b then f else g) (λr=>(Code.cond c x y).wp X.P (Q r)):=by
 intro r a w γ e hi;have:=k.val hi;simp only[bl,Ly.val,l7] at this;refine wp_cond_split this (λd=>?_) (λd=>?_)<;>subst d;exact i r a w γ e hi;exact j r a w γ e hi
theorem CX(h:Sq X l m md (λr=>Q r .normal)):Sq X l m md (λr=>Code.skip.wp X.P (Q r)):=λr a w γ d hi=>wp_skip (h r a w γ d hi)
theorem CY{id:Nat}(h:Sq X l m md (λr=>Q r (.exit id))):Sq X l m md (λr=>(Code.exit id).wp X.P (Q r)):=λr a w γ d hi=>wp_exit (h r a w γ d hi)
theorem CZ(h:Sq X l m md (λr=>Q r .ret)):Sq X l m md (λr=>Code.ret.wp X.P (Q r)):=λr a w γ d hi=>wp_ret (h r a w γ d hi)
theorem ko{x y:Code}(h:Sq X l m md (λr=>x.wp X.P (Exit.then (y.wp X.P (Q r)) (Q r)))):Sq X l m md (λr=>(Code.seq x y).wp X.P (Q r)):=
 λr a w γ d hi=>wp_seq (h r a w γ d hi)
theorem ME{id:Nat}{c:Code}(h:Sq X l m md (λr=>c.wp X.P (Exit.inBlock id (Q r)))):Sq X l m md (λr=>(Code.block id c).wp X.P (Q r)):=
 λr a w γ d hi=>wp_block (h r a w γ d hi)
theorem ma{id:Nat}{ls:List Oper}(h:Sq X l m md (λr=>wpList X.P ⟨ls⟩ (Q r) ls)):Sq X l m md (λr=>(Code.region id ⟨ls⟩ false).wp X.P (Q r)):=
 λr a w γ d hi=>wp_region_list (h r a w γ d hi)
theorem mb{aG:Array Oper}(h:Sq X l m md (λr=>Q r .normal)):Sq X l m md (λr=>wpList X.P aG (Q r) []):=h
theorem sx{id:Nat}(h:Sq X l m md (λr=>Q r .normal)):Sq X l m md (λr=>Exit.inBlock id (Q r) (.exit id)):=
 λr a w γ d hi=>by simp only[Exit.inBlock,yt];exact h r a w γ d hi
theorem sxo{id d:Nat}(f:Nat.beq d id=false)(h:Sq X l m md (λr=>Q r (.exit d))):Sq X l m md (λr=>Exit.inBlock id (Q r) (.exit d)):=
 λr a w γ g hi=>by
  have:d≠id:=λe=>oo
  simp only[Exit.inBlock,oq this];exact h r a w γ g hi
theorem so{d op ty pos after}{aG:Array Oper}{rest:List Oper}{el em}(h:ax X (lk l) (lk m) ⟨d,op,ty,pos,after,none⟩ el em)
 (k:Sq X (el++l) (em++m) md (λr=>wpList X.P aG (Q r) rest)):Sq X l m md (λr=>wpList X.P aG (Q r) (⟨d,op,ty,pos,after,none⟩::rest)):=by
 intro r a w γ i hi;refine wpList_plain rfl λK f=>h a w γ K (Q r) hi λe w' γ' g=>f e w' (k r e w' γ' i ?_);grind[co]
theorem s1{d op ty pos after}{aG:Array Oper}{rest:List Oper}{e}(h:ax X (lk l) (lk m) ⟨d,op,ty,pos,after,none⟩ [e] [])
 (k:Sq X (e::l) m md (λr=>wpList X.P aG (Q r) rest)):Sq X l m md (λr=>wpList X.P aG (Q r) (⟨d,op,ty,pos,after,none⟩::rest)):=so h k
theorem C0{aG:Array Oper}{j d:Nat}{b:Bool}{st mm a w γ}(hi:bq X st mm a w γ)(g:((aG[j]?).bind (·.dst))=some d)(e:st d=some (bl b)):yielded aG a.tmps j=some b:=by obtain⟨v,f,i⟩:=hi.sts d _ e;grind[bl,Ly.val,l7,yielded]
theorem sg{d op ty pos after j b}{aG:Array Oper}{rest:List Oper}{el em}(f:Nat)(p:((aG[j]?).bind (·.dst))=some f)(q:lk l f=some (bl b))(h:ax X (lk l) (lk m) ⟨d,op,ty,pos,after,none⟩ el em)
 (k:Sq X (el++l) (em++m) md (λr=>wpList X.P aG (Q r) rest)):Sq X l m md (λr=>wpList X.P aG (Q r) (⟨d,op,ty,pos,after,some (j,b)⟩::rest)):=by
 intro r a w γ n hi;refine wpList_step λK g=>?_;rw[ot (by grind[Region.wanted,C0])];refine h a w γ K (Q r) hi λe w' γ' i=>g e w' (k r e w' γ' n ?_);grind[co]
theorem sp{d op ty pos after j b}{aG:Array Oper}{rest:List Oper}(e:Nat)(g:((aG[j]?).bind (·.dst))=some e)(n:lk l e=some (bl (!b)))(hd:Nat.blt d X.N=true)
 (k:Sq X ((d,.any)::l) m md (λr=>wpList X.P aG (Q r) rest)):Sq X l m md (λr=>wpList X.P aG (Q r) (⟨some d,op,ty,pos,after,some (j,b)⟩::rest)):=by
 intro r a w γ i hi;refine wpList_step λK f=>?_;rw[oq (by cases b<;>simp[Region.wanted,C0 hi g n])];refine f _ w (k r _ w γ i ?_);have:=hi.put (d:=d) (v:=undef) (ly:=.any) oo (by simp[Ly.val]);grind[co]
def iV{σ τ:Type}(X:Cx)(L:σ->List (Nat×Ly))(M:σ->List (Nat×Ct))(k:τ->Option R)(Q:R->Exit->Act->World->Prop):Lp σ τ->Exit->Act->World->Prop
 | .go s,e,a,w=>e=.normal/\∃ γ,bq X (lk (L s)) (lk (M s)) a w γ
 | .out t,e,a,w=>e≠.normal/\∀ r,k t=some r->Q r e a w
theorem UO{σ τ:Type}{L:σ->List (Nat×Ly)}{M:σ->List (Nat×Ct)}{k:τ->Option R}{s:σ}(h:k7 X l m (L s) (M s)):
 Sq X l m (some (Lp.go s)) (λo=>iV X L M k Q o .normal):=by
 intro o a w γ d hi;cases d;exact⟨rfl,h a w γ hi⟩
theorem pr{σ τ:Type}{L:σ->List (Nat×Ly)}{M:σ->List (Nat×Ct)}{k:τ->Option R}{t:τ}{e:Exit}(d:e≠.normal)(h:Sq X l m (k t) (λr=>Q r e)):
 Sq X l m (some (Lp.out t)) (λ(o:Lp σ τ)=>iV X L M k Q o e):=by
 intro o a w γ f hi;cases f;exact⟨d,λr g=>h r a w γ g hi⟩
theorem UP{P:Program}{Q:Exit->Act->World->Prop}{c:Code}(I:Nat->Act->World->Prop)
 (round:∀ n a w,I n a w->c.wp P (Exit.then (λg w'=>∃ i,i<n/\I i g w') Q) a w):∀ n a w,I n a w->(Code.loop c).wp P Q a w:=by
 intro r a0 w0 h0 b k cs;have key:∀ n a w,I n a w->∃ e g w',Q e g w'/\Arrives P (lone (b.at a (.code c::.inLoop c::k)) cs w) b k cs e g w':=by
  intro n
  induction n using Nat.strongRecOn with
  | _ n q=>
    intro a w j;obtain⟨e,a₁,w₁,f,d⟩:=round n a w j b (.inLoop c::k) cs;cases e with
    | normal=>
      obtain⟨i,p,j₁⟩:=f;obtain⟨e₂,a₂,w₂,f₂,d₂⟩:=q i p a₁ w₁ j₁;exact⟨e₂,a₂,w₂,f₂,.of_steps (Steps.trans d (.one step_inLoop)) d₂⟩
    | exit id=>exact⟨_,a₁,w₁,f,.pass (x:=.inLoop c) rfl oh d⟩
    | goto l=>exact⟨_,a₁,w₁,f,.pass (x:=.inLoop c) rfl oh d⟩
    | ret=>exact⟨_,a₁,w₁,f,.pass (x:=.inLoop c) rfl oh d⟩
    | panic ch=>exact⟨_,a₁,w₁,f,.pass (x:=.inLoop c) rfl oh d⟩
    | outgrown=>exact⟨_,a₁,w₁,f,.pass (x:=.inLoop c) rfl oh d⟩
 obtain⟨e,g,w',f,d⟩:=key r a0 w0 h0;exact⟨e,g,w',f,.of_steps (.one step_loop) d⟩
theorem qH{σ τ τ0:Type}{body:Code}{f:σ->Option (Lp σ τ)}{n:Nat}{s0:σ}{k:τ->Option R}{G':R->Act->World->Prop}(inj:τ0->τ)
 (L:σ->List (Nat×Ly)) (M:σ->List (Nat×Ct)) (Lo:τ0->List (Nat×Ly)) (Mo:τ0->List (Nat×Ct)) (h0:k7 X l m (L s0) (M s0))
 (g:(∀ t,Sq X (Lo t) (Mo t) (k (inj t)) G')->∀ s,Sq X (L s) (M s) (f s) (λo=>body.wp X.P (iV X L M k Q o)))
 (u:∀ t,Sq X (Lo t) (Mo t) (k (inj t)) G') :
 Sq X l m ((ae f n s0).bind k) (λr=>(Code.loop body).wp X.P (Q r)):=by
 have g:=g u;intro r a w γ q hi;obtain⟨γ0,j⟩:=h0 a w γ hi;refine UP (λn a w=>∃ s γ,((ae f n s).bind k=some r)/\bq X (lk (L s)) (lk (M s)) a w γ) ?_ n a w ⟨s0,γ0,q,j⟩;rintro n a w ⟨s,γ,q,hi⟩;cases n with
 | zero=>cases q
 | succ n=>
   cases hf:f s with
   | none=>grind[ae]
   | some o=>
     refine Code.wp_mono (λe x w' d=>?_) (g s o a w γ hf hi);cases o with
     | go s'=>
       obtain⟨rfl,γ',i⟩:=d;exact⟨n,oh,s',γ',by grind[ae],i⟩
     | out t=>
       obtain⟨v,d⟩:=d;have p:k t=some r:=by grind[ae]
       have:=d r p;cases e<;>first | exact this | grind
theorem xO{y:Code}(h:Sq X l m md (λr=>y.wp X.P (Q r))):Sq X l m md (λr=>Exit.then (y.wp X.P (Q r)) (Q r) .normal):=h
theorem pth{N:R->Act->World->Prop}(h:Sq X l m md (λr=>Q r .ret)):Sq X l m md (λr=>Exit.then (N r) (Q r) .ret):=h
theorem ptx{N:R->Act->World->Prop}{id:Nat}(h:Sq X l m md (λr=>Q r (.exit id))):Sq X l m md (λr=>Exit.then (N r) (Q r) (.exit id)):=h
theorem pbn{id:Nat}(h:Sq X l m md (λr=>Q r .normal)):Sq X l m md (λr=>Exit.inBlock id (Q r) .normal):=h
theorem pbl{id:Nat}(h:Sq X l m md (λr=>Q r .ret)):Sq X l m md (λr=>Exit.inBlock id (Q r) .ret):=h
def jn{σ ρ:Type}(A:(σ->Option ρ)->Option ρ)(k:σ->Option ρ):Option ρ:=A k
def cY{α:Type}(d:Nat):List (Nat×α)->Bool
 | []=>true
 | (i,_)::l=>!(Nat.beq i d) && cY d l
theorem Hu{α:Type}{d:Nat}:∀ {l:List (Nat×α)},cY d l=true->lk l d=none
 | [],_=>rfl
 | (i,_)::l,h=>by simp only[cY,xp,vk] at h;simp only[lk,h.1,cond_false];exact Hu h.2
theorem tv{α σ τ:Type}{f:Nat->α->σ->Option (Lp σ τ)}{xs:List α}{s0:σ}{k:Lp σ τ->Option R}
 {id1 id2 e j g p t2 T1 T2 T3 T4 U V W:Nat}{p1 p2 p3:String}{f1 f2 f3:Array Edge}{B:Code}
 (L:σ->List (Nat×Ly)) (M:σ->List (Nat×Ct))
 (hd:(Nat.blt j X.N && Nat.blt g X.N && Nat.blt t2 X.N && !(Nat.beq j g) && !(Nat.beq j p) && !(Nat.beq g p) && !(Nat.beq t2 p) && !(Nat.beq t2 g))=true)
 (hk:∀ s,(cY j (L s) && cY g (L s) && cY t2 (L s) && cY p (L s))=true)
 (h0:k7 X l m ((g,ab (0:Nat))::(p,ab xs.length)::L s0) (M s0))
 (H:∀(i:Nat) x s,xs[i]?=some x->Sq X ((g,ab i)::(p,ab xs.length)::L s) (M s) (f i x s)
  (λo=>B.wp X.P (iV X (λs=>(g,ab i)::(p,ab xs.length)::L s) M (λt=>k (.out t)) Q o)))
 (hJ:∀ s,Sq X (L s) (M s) (k (.go s)) (λr=>Q r (.exit e))) :
 Sq X l m ((ao f xs 0 s0).bind k) (λr=>(Code.loop (.seq (.region id1 ⟨[⟨some j,.binOp .lss T1 (.tmp g) (.tmp p) T2,U,p1,f1,none⟩]⟩ false)
  (.seq (.cond (.tmp j) .skip (.exit e)) (.seq B (.region id2 ⟨[⟨some t2,.binOp .add T3 (.tmp g) (.const (.int .i64 1)) T4,V,p2,f2,none⟩,⟨some g,.move (.tmp t2),W,p3,f3,none⟩]⟩ false))))).wp X.P (Q r)):=by
 simp only[xp,vk,Nat.blt_eq] at hd;obtain⟨⟨⟨⟨⟨⟨⟨hN1,hN2⟩,hN3⟩,e1⟩,e2⟩,e3⟩,e4⟩,e5⟩:=hd;intro r a w γ Z hi;obtain⟨γ0,hi0⟩:=h0 a w γ hi;refine UP (λn a w=>∃ i s γ,n=xs.length - i/\i<=xs.length/\((ao f (xs.drop i) i s).bind k=some r)/\bq X (lk ((g,ab i)::(p,ab xs.length)::L s)) (lk (M s)) a w γ) ?_ xs.length a w ⟨0,s0,γ0,rfl,xu _,ol,hi0⟩;rintro n a w ⟨i,s,γ,rfl,hile,Z,hi⟩;have y:=hk s;simp only[xp] at y;obtain⟨⟨⟨k1,k2⟩,k3⟩,k4⟩:=y;have hti:=ac.val hi (x:=.tmp g) (ly:=ab i) (by simp[ac,lk]);have htn:=ac.val hi (x:=.tmp p) (ly:=ab xs.length) (by simp[ac,lk,e3]);simp only[ab,Ly.val,gX] at hti htn;refine wp_seq (wp_region_list (wpList_plain rfl λK I=>?_));have O:(execOp a.eval ⟨some j,.binOp .lss T1 (.tmp g) (.tmp p) T2,U,p1,f1,none⟩).run X.P w=.ok (.value (.bool (decide (i<xs.length)))) w:=by
  simp_all[execOp,eqGuard,binOp,Op.intCmp]
 unfold Oper.wp;rw[O];refine I _ _ ?_;have q:bq X (lk ((j,bl (decide (i<xs.length)))::(g,ab i)::(p,ab xs.length)::L s)) (lk (M s)) (a.put (some j) (.bool (decide (i<xs.length)))) w γ:=by have:=hi.put (d:=j) (v:=.bool (decide (i<xs.length))) (ly:=bl (decide (i<xs.length))) hN1 oe;grind[co]
 show Code.wp _ _ _ _ _;have u:=ac.val q (x:=.tmp j) (ly:=bl (decide (i<xs.length))) (by simp[ac,lk]);simp only[bl,Ly.val,l7] at u;by_cases N:i<xs.length;obtain⟨x,hx⟩:∃ x,xs[i]?=some x:=⟨_,xm N⟩
 have hdrop:xs.drop i=x::xs.drop (i+1):=by grind[List.drop_eq_getElem_cons]
 rw[hdrop] at Z;have hdt:decide (i<xs.length)=true:=ol
 rw[hdt] at u q |-;refine wp_seq (wp_cond_true u (wp_skip ?_));show Code.wp _ _ _ _ _;cases hf:f i x s with
 | none=>grind[ao]
 | some o=>
   have hi2:bq X (lk ((g,ab i)::(p,ab xs.length)::L s)) (lk (M s)) (a.put (some j) (.bool true)) w γ:=
    { q with sts:=λd ly hd=>q.sts d ly (by
     have hne:Nat.beq j d=false:=by
      cases H:Nat.beq j d;rfl;have:j=d:=oo
      subst this;have e1':Nat.beq g j=false:=by cases H:Nat.beq g j;rfl;rw[xy H] at e1;simp at e1
      have e2':Nat.beq p j=false:=by cases H:Nat.beq p j;rfl;rw[xy H] at e2;simp at e2
      simp_all[lk,Hu]
     grind[lk]) }
   refine wp_seq (Code.wp_mono (λe' a' w' Y=>?_) (H i x s hx o _ w γ hf hi2));cases o with
   | out t=>
     obtain⟨hne,Y⟩:=Y;have hkt:k (.out t)=some r:=by grind[ao]
     have:=Y r hkt;cases e'<;>first | exact this | grind
   | go s'=>
     obtain⟨rfl,γ',C⟩:=Y;have hr':(ao f (xs.drop (i+1)) (i+1) s').bind k=some r:=by grind[ao]
     have S:=ac.val C (x:=.tmp g) (ly:=ab i) (by simp[ac,lk]);have T:=ac.val C (x:=.tmp p) (ly:=ab xs.length) (by simp[ac,lk,e3]);simp only[ab,Ly.val,gX] at S T;have hw:IntKind.i64.wrap ((i:Int)+1)=((i+1:Nat):Int):=by grind[IntKind.max,IntKind.signed,IntKind.bits,IntKind.wrap_i64]
     show Code.wp _ _ _ _ _;refine wp_region_list (wpList_plain rfl λK I=>?_);have hrun2:(execOp a'.eval ⟨some t2,.binOp .add T3 (.tmp g) (.const (.int .i64 1)) T4,V,p2,f2,none⟩).run X.P w'=.ok (.value (.int .i64 ((i+1:Nat):Int))) w':=by simp only[execOp];simp_all[eqGuard,binOp,Op.intArith,Act.eval]
     unfold Oper.wp;rw[hrun2];refine I _ _ ?_;have A:((i+1:Nat):Int)<=IntKind.i64.max:=om
     have J:IntKind.i64.min<=((i+1:Nat):Int):=om
     have E:=C.put (d:=t2) (v:=.int .i64 ((i+1:Nat):Int)) (ly:=ab ((i+1:Nat):Int)) hN3 ⟨rfl,J,A⟩;rw[co] at E;have P:=ac.val E (x:=.tmp t2) (ly:=ab ((i+1:Nat):Int)) (by simp[ac,lk]);simp only[ab,Ly.val,gX] at P;refine wpList_plain rfl λK I=>?_;unfold Oper.wp;have hrun3:(execOp (Act.put a' (some t2) (.int .i64 ((i+1:Nat):Int))).eval ⟨some g,.move (.tmp t2),W,p3,f3,none⟩).run X.P w'=.ok (.value (.int .i64 ((i+1:Nat):Int))) w':=by
      simp only[execOp,P.1];rfl
     rw[hrun3];refine I _ _ ?_;have F:=E.put (d:=g) (v:=.int .i64 ((i+1:Nat):Int)) (ly:=ab ((i+1:Nat):Int)) hN2 ⟨rfl,J,A⟩;rw[co] at F;have y:=hk s';simp only[xp] at y;obtain⟨⟨⟨k1',k2'⟩,k3'⟩,k4'⟩:=y;refine⟨xs.length - (i+1),om,i+1,s',γ',rfl,om,hr',{ F with sts:=λd ly hd=>F.sts d ly ?_ }⟩;show lk ((g,_)::(t2,_)::(g,_)::(p,_)::_) d=some ly;simp only[lk] at hd |-;cases A:Nat.beq g d;simp only[A,cond_false] at hd |-;cases hb2:Nat.beq t2 d;grind;have:t2=d:=xy hb2;subst this;have e4':Nat.beq p t2=false:=by
      grind[Nat.eq_of_beq_eq_true]
     rw[e4',cond_false,Hu k3'] at hd;cases hd;grind
 have:xs.drop i=[]:=ol
 rw[this] at Z;have hdf:decide (i<xs.length)=false:=by simp[N]
 rw[hdf] at u q |-;refine wp_seq (wp_cond_false u (wp_exit ?_));show Q r (.exit e) _ _;refine hJ s r _ w γ (by simpa [ao] using Z) { q with sts:=λd ly hd=>q.sts d ly ?_ };grind[Nat.eq_of_beq_eq_true,Hu,lk]
end rules
def i32(x:Int):Ly:=.cell (gX .i32 x)
def uk(k:IntKind)(x:Nat):Ly:=.cell (gX k x)
abbrev u8(x:Nat):Ly:=uk .u8 x
abbrev av(x:Nat):Ly:=uk .u32 x
abbrev u64(x:Nat):Ly:=uk .u64 x
def UQ(v0:Value)(h:v0.oneCell'=true):CP where
 p:=λ_ _ v=>v=v0
 one:=ol
 mono:=ol
def cpS(s:Be):CP where
 p:=λ_ _ v=>v=.string ⟨s.toArray⟩/\s.length<=maxLen
 one:=by intro _ _ v h;obtain⟨rfl,_⟩:=h;rfl
 mono:=ol
def am(s:Be):Ly:=.cell (cpS s)
def xP(k:Nat)(ls:List Ly):CP where
 p:=λw S v=>(v=.slice none 0 0/\ls=[])\/(∃ b o cap cs,v=.slice (some ⟨b,o,none⟩) ls.length cap/\ls.length<=cap/\cap<=maxLen/\b<w.heap.size/\¬ S b /\
  (∀ j u,cs[j]?=some u->w.cell? ⟨b,o+j,none⟩=some u)/\Ly.holds w S (λ_=>none) ls cs/\∀ ly∈ls,ly.sz=k)\/(ls=[]/\∃ d,v=.slice (some d) 0 0)
 one:=by rintro _ _ v (⟨rfl,_⟩ | ⟨b,o,cap,cs,rfl,_⟩ | ⟨_,d,rfl⟩)<;>rfl
 mono:=by rintro w S v w' S' (⟨rfl,h⟩ | ⟨b,o,cap,cs,rfl,e,f,g,i,n,q,r⟩ | h) hk t;grind;exact .inr (.inl ⟨b,o,cap,cs,rfl,e,f,xr g hk.1,ol,λj u s=>hk.cell i (n j u s),Ly.holds_mono hk t (Ng.refl _) ls cs q,r⟩);grind
def bA(k:Nat)(ls:List Ly):Ly:=.cell (xP k ls)
theorem K8{x}:IF (ab x):=nu _
theorem Jm7{x}:IF (i32 x):=nu _
theorem qI{x}:IF (u8 x):=nu _
theorem Wh{x}:IF (av x):=nu _
theorem Jm8{x}:IF (u64 x):=nu _
theorem bM{x}:IF (bl x):=nu _
theorem Vv{x}:IF (am x):=nu _
theorem Za{k x}:IF (bA k x):=nu _
section aG
variable {X:Cx}{st:Nat->Option Ly}{mm:Nat->Option Ct}
theorem Wv{d op ty pos af ly}(hd:Nat.blt d X.N=true)
 (h:∀ a w γ,bq X st mm a w γ->∃ v,(execOp a.eval ⟨some d,op,ty,pos,af,none⟩).run X.P w=.ok (.value v) w/\ly.val w (X.S γ mm) γ v) :
 ax X st mm ⟨some d,op,ty,pos,af,none⟩ [(d,ly)] []:=by
 intro a w γ K Q hi e;obtain⟨v,f,g⟩:=h a w γ hi;unfold Oper.wp;rw[f];exact e _ _ γ (hi.put oo g)
theorem mv{d x ty pos af ly}(hd:Nat.blt d X.N=true)(e:ac st x ly):ax X st mm ⟨some d,.move x,ty,pos,af,none⟩ [(d,ly)] []:=
 Wv hd λ_ _ _ hi=>⟨_,rfl,e.val hi⟩
theorem oB{d x ty pos af ly}(hd:Nat.blt d X.N=true)(e:ac st x ly):ax X st mm ⟨some d,.assign x,ty,pos,af,none⟩ [(d,ly)] []:=
 Wv hd λ_ _ _ hi=>⟨_,rfl,e.val hi⟩
theorem C1{d c x y ty pos af ly}(hd:Nat.blt d X.N=true)(e:ac st c (bl true))(f:ac st x ly):ax X st mm ⟨some d,.pick c x y,ty,pos,af,none⟩ [(d,ly)] []:=
 Wv hd λ_ _ _ hi=>⟨_,by
  have:=e.val hi;simp only[bl,Ly.val,l7] at this
  simp only[execOp,this];rfl,f.val hi⟩
theorem C2{d c x y ty pos af ly}(hd:Nat.blt d X.N=true)(e:ac st c (bl false))(f:ac st y ly):ax X st mm ⟨some d,.pick c x y,ty,pos,af,none⟩ [(d,ly)] []:=
 Wv hd λ_ _ _ hi=>⟨_,by
  have:=e.val hi;simp only[bl,Ly.val,l7] at this
  simp only[execOp,this];rfl,f.val hi⟩
theorem kB{b}:ac st (.const (.bool b)) (bl b):=λ_ _ _=>oe
theorem kI{x:Int}(h:(decide (-9223372036854775808<=x) && decide (x<=9223372036854775807))=true):ac st (.const (.int .i64 x)) (ab x):=λ_ _ _=>by simp only[xp,yq] at h;exact⟨rfl,h.1,h.2⟩
theorem Hv{x:Nat}(h:Nat.ble x 4294967295=true):ac st (.const (.int .u32 x)) (av x):=λ_ _ _=>by have:=ym h;exact⟨rfl,by show 0<=_;omega,by show(x:Int)<=4294967295;omega⟩
theorem k8{x:Nat}(h:Nat.ble x 255=true):ac st (.const (.int .u8 x)) (u8 x):=λ_ _ _=>by have:=ym h;exact⟨rfl,by show 0<=_;omega,by show(x:Int)<=255;omega⟩
theorem tx{x:Nat}(h:Nat.ble x 18446744073709551615=true):ac st (.const (.int .u64 x)) (u64 x):=λ_ _ _=>by have:=ym h;exact⟨rfl,by show 0<=_;omega,by show(x:Int)<=18446744073709551615;omega⟩
theorem kS{s:Be}(h:Nat.ble s.length 1000000=true):ac st (.const (.string ⟨s.toArray⟩)) (am s):=λ_ _ _=>
 ⟨rfl,by have:=ym h;grind[maxLen]⟩
theorem mC{d o T x y k ty pos af i g j}(hd:Nat.blt d X.N=true)(n:ac st x i)(p:ac st y g)
 (h:∀ w S γ e f,i.val w S γ e->g.val w S γ f->∃ v,(∀ w,(eqGuard o T x y e f).run X.P w=.ok () w)/\(∀ w,(binOp o T e f).run X.P w=.ok v w)/\j.val w S γ v) :
 ax X st mm ⟨some d,.binOp o T x y k,ty,pos,af,none⟩ [(d,j)] []:=
 Wv hd λa w γ hi=>by obtain⟨v,q,r,s⟩:=h w _ γ _ _ (n.val hi) (p.val hi);simp_all[execOp]
theorem lg(n:Int):IntKind.i64.min<=wrap64 n/\wrap64 n<=IntKind.i64.max:=by
 have d:IntKind.i64.min=-9223372036854775808:=oc
 have e:IntKind.i64.max=9223372036854775807:=oc
 grind[wrap64]
theorem ps(n:Int):IntKind.i64.wrap n=wrap64 n:=by grind[IntKind.wrap_i64,wrap64]
theorem C3{d x y T e ty pos af p q z}{o:BinOp}(k:∀ w,(binOp o T (.int .i64 p) (.int .i64 q)).run X.P w=.ok (.int .i64 (wrap64 z)) w)(n:(o matches .eql | .neq)=false)
 (hd:Nat.blt d X.N=true) (i:ac st x (ab p)) (j:ac st y (ab q)) :
 ax X st mm ⟨some d,.binOp o T x y e,ty,pos,af,none⟩ [(d,ab (wrap64 z))] []:=
 mC hd i j λw S γ r s f g=>by obtain⟨rfl,_⟩:=f;obtain⟨rfl,_⟩:=g;exact⟨_,by simp[eqGuard],k,rfl,lg z⟩
theorem MF{d x y T e ty pos af p q}(hd:Nat.blt d X.N=true)(f:ac st x (ab p))(g:ac st y (ab q)):
 ax X st mm ⟨some d,.binOp .add T x y e,ty,pos,af,none⟩ [(d,ab (wrap64 (p+q)))] []:=C3 (by simp[binOp,Op.intArith,ps]) rfl hd f g
theorem MG{d x y T e ty pos af p q}(hd:Nat.blt d X.N=true)(f:ac st x (ab p))(g:ac st y (ab q)):
 ax X st mm ⟨some d,.binOp .sub T x y e,ty,pos,af,none⟩ [(d,ab (wrap64 (p - q)))] []:=C3 (by simp[binOp,Op.intArith,ps]) rfl hd f g
theorem MH{d x y T e ty pos af p q}(hd:Nat.blt d X.N=true)(f:ac st x (ab p))(g:ac st y (ab q)):
 ax X st mm ⟨some d,.binOp .mul T x y e,ty,pos,af,none⟩ [(d,ab (wrap64 (p*q)))] []:=C3 (by simp[binOp,Op.intArith,ps]) rfl hd f g
theorem MI{d x y T e ty pos af p q}(i:(q == 0)=false)(hd:Nat.blt d X.N=true)(f:ac st x (ab p))(g:ac st y (ab q)):
 ax X st mm ⟨some d,.binOp .quo T x y e,ty,pos,af,none⟩ [(d,ab (wrap64 (p.tdiv q)))] []:=
 C3 (by simp_all[binOp,Op.intDiv,ps]) rfl hd f g
theorem MJ{d x y T n ty pos af p q}(A:(q == 0)=false)(hd:Nat.blt d X.N=true)(s:ac st x (ab p))(t:ac st y (ab q)):
 ax X st mm ⟨some d,.binOp .rem T x y n,ty,pos,af,none⟩ [(d,ab (p.tmod q))] []:=
 mC hd s t λw S γ B C e f=>by
  have r:q≠0:=ol
  obtain⟨rfl,g,i⟩:=e;obtain⟨rfl,j,k⟩:=f;refine⟨_,λw=>oe,by simp_all[binOp,Op.intDiv],rfl,?_⟩;have e:IntKind.i64.min=-9223372036854775808:=oc
  have f:IntKind.i64.max=9223372036854775807:=oc
  rw[e] at g j |-;rw[f] at i k |-;have u:(p.tmod q).natAbs=p.natAbs%q.natAbs:=oh
  have v:p.natAbs%q.natAbs<q.natAbs:=yo _ om;omega
theorem MK{d x T ty pos af p}(hd:Nat.blt d X.N=true)(e:ac st x (ab p)):
 ax X st mm ⟨some d,.unOp .neg T x,ty,pos,af,none⟩ [(d,ab (wrap64 (-p)))] []:=
 Wv hd λa w γ hi=>by obtain⟨f,_⟩:=e.val hi;exact⟨.int .i64 (wrap64 (-p)),by simp_all[execOp,Op.unary,Op.intArith,ps],rfl,lg _⟩
theorem ML{d x T ty pos af b}(hd:Nat.blt d X.N=true)(e:ac st x (bl b)):
 ax X st mm ⟨some d,.unOp .not T x,ty,pos,af,none⟩ [(d,bl (!b))] []:=
 Wv hd λa w γ hi=>by have f:=e.val hi;simp_all[bl,Ly.val,l7,execOp,Op.unary]
theorem mD{d x y T e ty pos af p q b}{o:BinOp}{k:IntKind}(n:∀ w,(binOp o T (.int k p) (.int k q)).run X.P w=.ok (.bool b) w)
 (hd:Nat.blt d X.N=true) (i:ac st x (.cell (gX k p))) (j:ac st y (.cell (gX k q))) :
 ax X st mm ⟨some d,.binOp o T x y e,ty,pos,af,none⟩ [(d,bl b)] []:=
 mC hd i j λw S γ r s f g=>by obtain⟨rfl,_⟩:=f;obtain⟨rfl,_⟩:=g;simp_all[eqGuard,bl,Ly.val,l7]
theorem ltI{d x y T e ty pos af p q}(hd:Nat.blt d X.N=true)(f:ac st x (ab p))(g:ac st y (ab q)):
 ax X st mm ⟨some d,.binOp .lss T x y e,ty,pos,af,none⟩ [(d,bl (decide (p<q)))] []:=mD (λw=>by rfl) hd f g
theorem leI{d x y T e ty pos af p q}(hd:Nat.blt d X.N=true)(f:ac st x (ab p))(g:ac st y (ab q)):
 ax X st mm ⟨some d,.binOp .leq T x y e,ty,pos,af,none⟩ [(d,bl (decide (p<=q)))] []:=mD (λw=>by rfl) hd f g
theorem gtI{d x y T e ty pos af p q}(hd:Nat.blt d X.N=true)(f:ac st x (ab p))(g:ac st y (ab q)):
 ax X st mm ⟨some d,.binOp .gtr T x y e,ty,pos,af,none⟩ [(d,bl (decide (q<p)))] []:=mD (λw=>by rfl) hd f g
theorem geI{d x y T e ty pos af p q}(hd:Nat.blt d X.N=true)(f:ac st x (ab p))(g:ac st y (ab q)):
 ax X st mm ⟨some d,.binOp .geq T x y e,ty,pos,af,none⟩ [(d,bl (decide (q<=p)))] []:=mD (λw=>by rfl) hd f g
theorem eqI{d x y T e ty pos af p q}(hd:Nat.blt d X.N=true)(f:ac st x (ab p))(g:ac st y (ab q)):
 ax X st mm ⟨some d,.binOp .eql T x y e,ty,pos,af,none⟩ [(d,bl (decide (p=q)))] []:=mD (λw=>by rfl) hd f g
theorem neI{d x y T e ty pos af p q}(hd:Nat.blt d X.N=true)(f:ac st x (ab p))(g:ac st y (ab q)):
 ax X st mm ⟨some d,.binOp .neq T x y e,ty,pos,af,none⟩ [(d,bl (!decide (p=q)))] []:=mD (λw=>by rfl) hd f g
theorem ltU{d x y T e ty pos af p q}(k:IntKind)(hd:Nat.blt d X.N=true)(f:ac st x (uk k p))(g:ac st y (uk k q)):
 ax X st mm ⟨some d,.binOp .lss T x y e,ty,pos,af,none⟩ [(d,bl (decide (p<q)))] []:=mD (k:=k) (p:=p) (q:=q) (by simp[binOp,Op.intCmp]) hd f g
theorem leU{d x y T e ty pos af p q}(k:IntKind)(hd:Nat.blt d X.N=true)(f:ac st x (uk k p))(g:ac st y (uk k q)):
 ax X st mm ⟨some d,.binOp .leq T x y e,ty,pos,af,none⟩ [(d,bl (decide (p<=q)))] []:=mD (k:=k) (p:=p) (q:=q) (by simp[binOp,Op.intCmp]) hd f g
theorem gtU{d x y T e ty pos af p q}(k:IntKind)(hd:Nat.blt d X.N=true)(f:ac st x (uk k p))(g:ac st y (uk k q)):
 ax X st mm ⟨some d,.binOp .gtr T x y e,ty,pos,af,none⟩ [(d,bl (decide (q<p)))] []:=mD (k:=k) (p:=p) (q:=q) (by simp[binOp,Op.intCmp]) hd f g
theorem geU{d x y T e ty pos af p q}(k:IntKind)(hd:Nat.blt d X.N=true)(f:ac st x (uk k p))(g:ac st y (uk k q)):
 ax X st mm ⟨some d,.binOp .geq T x y e,ty,pos,af,none⟩ [(d,bl (decide (q<=p)))] []:=mD (k:=k) (p:=p) (q:=q) (by simp[binOp,Op.intCmp]) hd f g
theorem eqU{d x y T e ty pos af p q}(k:IntKind)(hd:Nat.blt d X.N=true)(f:ac st x (uk k p))(g:ac st y (uk k q)):
 ax X st mm ⟨some d,.binOp .eql T x y e,ty,pos,af,none⟩ [(d,bl (decide (p=q)))] []:=mD (k:=k) (p:=p) (q:=q) (λw=>by
  have:((p:Int) == (q:Int))=decide (p=q):=ol
  simp_all[binOp,Op.intCmp]) hd f g
theorem neU{d x y T e ty pos af p q}(k:IntKind)(hd:Nat.blt d X.N=true)(f:ac st x (uk k p))(g:ac st y (uk k q)):
 ax X st mm ⟨some d,.binOp .neq T x y e,ty,pos,af,none⟩ [(d,bl (!decide (p=q)))] []:=mD (k:=k) (p:=p) (q:=q) (λw=>by
  have:((p:Int) != (q:Int))=!decide (p=q):=ol
  simp_all[binOp,Op.intCmp]) hd f g
structure UK(k:IntKind)(N:Nat):Prop where
 wrap:∀ n:Int,k.wrap n=n%N
 min:k.min=0
 max:k.max=(N:Int) - 1
 bits:2 ^ k.bits=N
 pos:0<N
theorem UR:UK .u8 256:=⟨λn=>oe,oc,oc,oc,oc⟩
theorem nw:UK .u32 4294967296:=⟨λn=>oe,oc,oc,oc,oc⟩
theorem gv:UK .u64 18446744073709551616:=⟨λn=>oe,oc,oc,oc,oc⟩
theorem jE{k N}(h:UK k N)(x:Nat)(d:x<N):k.min<=(x:Int)/\(x:Int)<=k.max:=by rw[h.min,h.max];omega
theorem tz{d x y T f ty pos af p q}{z:Nat}{o:BinOp}{k N}(e:UK k N)(u:p<N->q<N->z<N/\∀ w,(binOp o T (.int k p) (.int k q)).run X.P w=.ok (.int k z) w)(v:(o matches .eql | .neq)=false)
 (hd:Nat.blt d X.N=true) (s:ac st x (uk k p)) (t:ac st y (uk k q)) :
 ax X st mm ⟨some d,.binOp o T x y f,ty,pos,af,none⟩ [(d,uk k z)] []:=
 mC hd s t λw S γ A B i j=>by obtain⟨rfl,_,a2⟩:=i;obtain⟨rfl,_,g⟩:=j;rw[e.max] at a2 g;obtain⟨n,r⟩:=u om om;exact⟨_,by simp[eqGuard],r,rfl,jE e z n⟩
theorem MM{d x y T f ty pos af p q k N}(e:UK k N)(hd:Nat.blt d X.N=true)(g:ac st x (uk k p))(i:ac st y (uk k q)):
 ax X st mm ⟨some d,.binOp .add T x y f,ty,pos,af,none⟩ [(d,uk k ((p+q)%N))] []:=
 tz e (λ_ _=>⟨yo _ e.pos,λw=>by simp[binOp,Op.intArith,e.wrap]⟩) rfl hd g i
theorem MN{d x y T f ty pos af p q k N}(e:UK k N)(hd:Nat.blt d X.N=true)(g:ac st x (uk k p))(i:ac st y (uk k q)):
 ax X st mm ⟨some d,.binOp .sub T x y f,ty,pos,af,none⟩ [(d,uk k ((p+N - q)%N))] []:=
 tz e (λj n=>⟨yo _ e.pos,λw=>by
  have:((p:Int) - q)%(N:Int)=((p+N - q:Nat):Int)%(N:Int):=by rw[Int.ofNat_sub om,Int.natCast_add,show(p:Int)+N - q=p - q+N by omega,Int.add_emod_right]
  simp[binOp,Op.intArith,e.wrap,this]⟩) rfl hd g i
theorem MO{d x y T f ty pos af p q k N}(e:UK k N)(hd:Nat.blt d X.N=true)(g:ac st x (uk k p))(i:ac st y (uk k q)):
 ax X st mm ⟨some d,.binOp .mul T x y f,ty,pos,af,none⟩ [(d,uk k ((p*q)%N))] []:=
 tz e (λ_ _=>⟨yo _ e.pos,λw=>by simp[binOp,Op.intArith,e.wrap]⟩) rfl hd g i
theorem C4{d x y T g ty pos af p q k N}(f:UK k N)(j:Nat.beq q 0=false)(hd:Nat.blt d X.N=true)(n:ac st x (uk k p))(r:ac st y (uk k q)):
 ax X st mm ⟨some d,.binOp .quo T x y g,ty,pos,af,none⟩ [(d,uk k (p / q))] []:=
 tz f (λe _=>⟨xh (vh _ _) e,λw=>by
  have h0:q≠0:=by rintro rfl;simp at j
  have s:((p / q:Nat):Int)%(N:Int)=((p / q:Nat):Int):=by
   rw[Int.emod_eq_of_lt ol]
   exact_mod_cast xh (vh _ _) e
  have i:(p:Int).tdiv q=((p / q:Nat):Int):=rfl;simp[binOp,Op.intDiv,f.wrap,h0,i]
  grind⟩) rfl hd n r
theorem C5{d x y T e ty pos af p q k N}(i:UK k N)(g:Nat.beq q 0=false)(hd:Nat.blt d X.N=true)(j:ac st x (uk k p))(n:ac st y (uk k q)):
 ax X st mm ⟨some d,.binOp .rem T x y e,ty,pos,af,none⟩ [(d,uk k (p%q))] []:=
 tz i (λf _=>⟨xh (Nat.mod_le _ _) f,λw=>by
  have h0:q≠0:=by rintro rfl;simp at g
  have r:(p:Int).tmod q=((p%q:Nat):Int):=rfl
  simp_all[binOp,Op.intDiv]⟩) rfl hd j n
theorem orU{d x y T r ty pos af p q k N}(e:UK k N)(hd:Nat.blt d X.N=true)(t:ac st x (uk k p))(u:ac st y (uk k q)):
 ax X st mm ⟨some d,.binOp .or T x y r,ty,pos,af,none⟩ [(d,uk k (p ||| q))] []:=
 tz e (λg i=>by
  have f:p ||| q<N:=by rw[<-e.bits] at g i |-;exact Nat.or_lt_two_pow g i
  refine⟨f,λw=>?_⟩
  have j:∀ n:Nat,n<N->n%2 ^ k.bits=n:=λn s=>by rw[e.bits];exact xb s
  have:((p ||| q:Nat):Int)%(N:Int)=((p ||| q:Nat):Int):=by simp_all[Int.emod_eq_of_lt]
  simp only[binOp,Op.intBits];simp[BitVec.toNat_or,e.wrap,j p g,j q i]
  omega) rfl hd t u
theorem MP{d x y T j ty pos af p q k N}(f:UK k N)(hd:Nat.blt d X.N=true)(t:ac st x (uk k p))(u:ac st y (uk k q)):
 ax X st mm ⟨some d,.binOp .and T x y j,ty,pos,af,none⟩ [(d,uk k (p &&& q))] []:=
 tz f (λi s=>by
  have e:p &&& q<N:=xh Nat.and_le_left i;refine⟨e,λw=>?_⟩
  have g:∀ n:Nat,n<N->n%2 ^ k.bits=n:=λn r=>by rw[f.bits];exact xb r
  have:((p &&& q:Nat):Int)%(N:Int)=((p &&& q:Nat):Int):=by simp_all[Int.emod_eq_of_lt]
  simp only[binOp,Op.intBits];simp[BitVec.toNat_and,f.wrap,g p i,g q s]
  omega) rfl hd t u
end aG
def ah{α:Type}(l:List α)(i:Int):Option α:=if 0<=i then l[i.toNat]? else none
def bv(l:Be)(i:Int):Option Nat:=if 0<=i then (l[i.toNat]?).map (·.toNat) else none
def eQ(b:Bool):Option Unit:=bif b then some () else none
def sub{α:Type}(l:List α)(lo hi:Int):Option (List α):=if 0<=lo/\lo<=hi/\hi<=l.length then some ((l.take hi.toNat).drop lo.toNat) else none
def az{α:Type}(b:Nat)(l r:List α):Option (List α):=if (l.length+r.length)*b<=140737488355328/\l.length+r.length<=9223372036854775807 then some (l++r) else none
def iW{α:Type}(b:Nat)(z:α)(n:Int):Option (List α):=if 0<=n/\n*b<=140737488355328/\n<=9223372036854775807 then some (List.replicate n.toNat z) else none
def bG(x y:Be):Option Be:=if x.length+y.length<=9223372036854775807 then some (x++y) else none
theorem lh{b:Bool}{u:Unit}(h:eQ b=some u):b=true:=by grind[eQ]
section aG
variable {X:Cx}{st:Nat->Option Ly}{mm:Nat->Option Ct}
theorem iF{d x S T ty pos af f g i k}(j:X.P.underlying S=some i)(p:X.P.underlying T=some (.int k))(hd:Nat.blt d X.N=true)(s:ac st x f)
 (h:∀ w S γ v,f.val w S γ v->∃ e n,v=.int e n/\g.val w S γ (.int k (k.wrap n))) :
 ax X st mm ⟨some d,.convert S T x,ty,pos,af,none⟩ [(d,g)] []:=
 Wv hd λa w γ hi=>by obtain⟨e,n,r,q⟩:=h w _ γ _ (s.val hi);refine⟨_,?_,q⟩;simp only[execOp,r];simp[convert,underlying,j,p,Conv.intToInt]
theorem cvU{d x S T ty pos af f k q N p}(e:UK k N)(g:X.P.underlying S=some f)(i:X.P.underlying T=some (.int k))(hd:Nat.blt d X.N=true)(n:ac st x (uk q p)):
 ax X st mm ⟨some d,.convert S T x,ty,pos,af,none⟩ [(d,uk k (p%N))] []:=
 iF g i hd n λw S γ v j=>by obtain⟨rfl,_⟩:=j;refine⟨_,_,rfl,?_,jE e _ (yo _ e.pos)⟩;rw[e.wrap];simp
theorem MQ{d x S T ty pos af i k g N N' p}(f:UK k N)(e:UK g N')(n:Nat.ble N' N=true)(q:X.P.underlying S=some i)(r:X.P.underlying T=some (.int k))(hd:Nat.blt d X.N=true)(u:ac st x (uk g p)):
 ax X st mm ⟨some d,.convert S T x,ty,pos,af,none⟩ [(d,uk k p)] []:=
 iF q r hd u λw S γ v t=>by
  obtain⟨rfl,_,j⟩:=t;rw[e.max] at j;have:=ym n;have s:p<N:=om
  refine⟨_,_,rfl,?_,jE f _ s⟩;rw[f.wrap,Int.emod_eq_of_lt oh om]
theorem MR{d x S T ty pos af f k q N}{p:Int}(e:UK k N)(g:X.P.underlying S=some f)(i:X.P.underlying T=some (.int k))(hd:Nat.blt d X.N=true)(n:ac st x (.cell (gX q p))):
 ax X st mm ⟨some d,.convert S T x,ty,pos,af,none⟩ [(d,uk k (p%(N:Int)).toNat)] []:=
 iF g i hd n λw S γ v j=>by obtain⟨rfl,_⟩:=j;have s:=e.pos;have h0:=Int.emod_nonneg p (b:=(N:Int)) om;have r:=Int.emod_lt_of_pos p (b:=(N:Int)) om;refine⟨_,_,rfl,?_,jE e _ om⟩;rw[e.wrap,Int.toNat_of_nonneg h0]
theorem MS{d x S T ty pos af e k p}(f:X.P.underlying S=some e)(g:X.P.underlying T=some (.int .i64))(hd:Nat.blt d X.N=true)(j:ac st x (uk k p)):
 ax X st mm ⟨some d,.convert S T x,ty,pos,af,none⟩ [(d,ab (wrap64 p))] []:=
 iF f g hd j λw S γ v i=>by obtain⟨rfl,_⟩:=i;exact⟨_,_,rfl,by rw[ps],lg _⟩
theorem C6{d x S T ty pos af j i N' p}(f:UK i N')(n:Nat.ble N' 9223372036854775808=true)(q:X.P.underlying S=some j)(r:X.P.underlying T=some (.int .i64))(hd:Nat.blt d X.N=true)(t:ac st x (uk i p)):
 ax X st mm ⟨some d,.convert S T x,ty,pos,af,none⟩ [(d,ab p)] []:=
 iF q r hd t λw S γ v s=>by
  obtain⟨rfl,_,k⟩:=s;rw[f.max] at k;have:=ym n;have e:wrap64 (p:Int)=p:=by grind[wrap64]
  have g:=lg (p:Int);rw[e] at g;exact⟨_,_,rfl,by rw[ps,e],g⟩
theorem mc{d x y T f ty pos af p k N r}{q:Int}(e:UK k N)(s:(decide (0<=q))=true)(hd:Nat.blt d X.N=true)(j:ac st x (uk k p))(n:ac st y (.cell (gX r q))):
 ax X st mm ⟨some d,.binOp .shl T x y f,ty,pos,af,none⟩ [(d,uk k ((p*2 ^ (min q.toNat k.bits))%N))] []:=
 mC hd j n λw S γ t u g i=>by
  obtain⟨rfl,_⟩:=g;obtain⟨rfl,_⟩:=i;have:¬ q<0:=ol
  exact⟨_,λw=>oe,λw=>by simp[binOp,Op.shift,this,e.wrap];rfl,oh,jE e _ (yo _ e.pos)⟩
theorem kp{d x y T g ty pos af p k N s}{q:Int}(f:UK k N)(t:(decide (0<=q))=true)(hd:Nat.blt d X.N=true)(n:ac st x (uk k p))(r:ac st y (.cell (gX s q))):
 ax X st mm ⟨some d,.binOp .shr T x y g,ty,pos,af,none⟩ [(d,uk k (p / 2 ^ (min q.toNat k.bits)))] []:=
 mC hd n r λw S γ u v i j=>by
  obtain⟨rfl,a1,a2⟩:=i;obtain⟨rfl,_⟩:=j;rw[f.max] at a2;have:¬ q<0:=ol
  have e:(p:Int).fdiv (2 ^ (min q.toNat k.bits))=((p / 2 ^ (min q.toNat k.bits):Nat):Int):=ol
  refine⟨_,λw=>oe,by simp_all[binOp,Op.shift,oq],rfl,jE f _ (xh (vh _ _) om)⟩
theorem Hw{d x T ty pos af e n}(hd:Nat.blt d X.N=true)(i:ac st x e)
 (h:∀ a w γ,bq X st mm a w γ->∀ v,e.val w (X.S γ mm) γ v->(Builtin.len_ #[T] ty #[v]).run X.P w=.ok (.int .i64 n) w/\IntKind.i64.min<=n/\n<=IntKind.i64.max) :
 ax X st mm ⟨some d,.call { callee:=.builtin .len,args:=#[x],argTypes:=#[T] },ty,pos,af,none⟩ [(d,ab n)] []:=
 Wv hd λa w γ hi=>by obtain⟨j,f,g⟩:=h a w γ hi _ (i.val hi);refine⟨_,?_,rfl,f,g⟩;simp_all[execOp,resolve,invoke,builtin]
theorem ge{n:Nat}(h:n<=maxLen):IntKind.i64.min<=(n:Int)/\(n:Int)<=IntKind.i64.max:=by
 have d:IntKind.i64.min=-9223372036854775808:=oc
 have e:IntKind.i64.max=9223372036854775807:=oc
 grind[maxLen]
theorem MT{d x T ty pos af E k}{α:Type}{f:α->Ly}{xs:List α}(e:X.P.underlying T=some (.slice E))(hd:Nat.blt d X.N=true)(n:ac st x (bA k (xs.map f))):
 ax X st mm ⟨some d,.call { callee:=.builtin .len,args:=#[x],argTypes:=#[T] },ty,pos,af,none⟩ [(d,ab xs.length)] []:=
 Hw hd n λa w γ hi v j=>by
  rcases j with ⟨rfl,i⟩ | ⟨b,o,cap,cs,rfl,g,q,_⟩ | ⟨i,p,rfl⟩;have:xs=[]:=oo
  subst this;exact⟨by unfold Builtin.len_;simp[underlying,e,goInt],ge oh⟩;simp only[xf] at g |-;exact⟨by unfold Builtin.len_;simp[underlying,e,goInt],ge om⟩;have:xs=[]:=oo
  subst this;exact⟨by unfold Builtin.len_;simp[underlying,e,goInt],ge oh⟩
theorem MU{d x T ty pos af E E' k id}{α:Type}{f:α->Ly}{xs:List α}(j:X.P.underlying T=some (.slice E))(r:mm id=some (.sl E' k (xs.map f)))(hd:Nat.blt d X.N=true)(t:ac st x (.own id)):
 ax X st mm ⟨some d,.call { callee:=.builtin .len,args:=#[x],argTypes:=#[T] },ty,pos,af,none⟩ [(d,ab xs.length)] []:=
 Hw hd t λa w γ hi v s=>by
  obtain⟨u,cs,e,n,_⟩:=hi.cts id _ r;obtain⟨i,_⟩:=s;rw[i] at e;simp at e;subst e;obtain⟨_,p⟩:=n;rcases p with ⟨rfl,A⟩ | ⟨g,cap,aH,rfl,_,_,q,y,_⟩;have:xs=[]:=ol
  subst this;exact⟨by unfold Builtin.len_;simp[underlying,j,goInt],ge oh⟩;simp only[xf] at q |-;exact⟨by unfold Builtin.len_;simp[underlying,j,goInt],ge om⟩
theorem C7{d x T ty pos af s}(g:X.P.underlying T=some .string)(hd:Nat.blt d X.N=true)(j:ac st x (am s)):
 ax X st mm ⟨some d,.call { callee:=.builtin .len,args:=#[x],argTypes:=#[T] },ty,pos,af,none⟩ [(d,ab s.length)] []:=
 Hw hd j λa w γ hi v i=>by obtain⟨rfl,f⟩:=i;have e:(ByteArray.mk s.toArray).size=s.length:=rfl;exact⟨by unfold Builtin.len_;simp[underlying,g,goInt,e],ge f⟩
theorem MV{d x y ty pos af f g p q}(hd:Nat.blt d X.N=true)(i:ac st x (ab p))(j:ac st y (ab q)):
 ax X st mm ⟨some d,.call { callee:=.builtin .max,args:=#[x,y],argTypes:=#[f,g] },ty,pos,af,none⟩ [(d,ab (max p q))] []:=
 Wv hd λa w γ hi=>by
  obtain⟨n,r,s⟩:=i.val hi;obtain⟨g1,k,g3⟩:=j.val hi;have e:max p q=if q > p then q else p:=om
  refine⟨.int .i64 (max p q),?_,rfl,om,om⟩;simp_all[execOp,resolve,invoke,builtin,Builtin.max_,Builtin.max2]
theorem MW{d x y ty pos af f g p q}(hd:Nat.blt d X.N=true)(i:ac st x (ab p))(j:ac st y (ab q)):
 ax X st mm ⟨some d,.call { callee:=.builtin .min,args:=#[x,y],argTypes:=#[f,g] },ty,pos,af,none⟩ [(d,ab (min p q))] []:=
 Wv hd λa w γ hi=>by
  obtain⟨n,r,s⟩:=i.val hi;obtain⟨g1,k,g3⟩:=j.val hi;have e:min p q=if q<p then q else p:=om
  refine⟨.int .i64 (min p q),?_,rfl,om,om⟩;simp_all[execOp,resolve,invoke,builtin,Builtin.min_,Builtin.min2]
theorem ixS{r:IntKind}{d x i T ty pos af s p y}(k:X.P.underlying T=some .string)(e:bv s p=some y)(hd:Nat.blt d X.N=true)(q:ac st x (am s))(hi:ac st i (.cell (gX r p))):
 ax X st mm ⟨some d,.index T x i,ty,pos,af,none⟩ [(d,uk .u8 y)] []:=
 Wv hd λa w γ g=>by
  obtain⟨j,t⟩:=q.val g;obtain⟨g1,_⟩:=hi.val g;unfold bv at e;split at e;rename_i h0;simp only[Option.map_eq_some_iff] at e;obtain⟨c,u,rfl⟩:=e;refine⟨.int .u8 c.toNat,?_,rfl,jE UR _ c.toNat_lt⟩;simp only[execOp,j,g1];have n:p.toNat<s.length:=ol
  have f:(ByteArray.mk s.toArray)[p.toNat]?=some c:=by
   rw[getElem?_pos _ _ (by grind[ByteArray.size])];have:s[p.toNat]=c:=ol
   rw[<-this];rfl
  simp[Instr.index,asIntOf,underlying,k,h0,f];grind
theorem ny{d o T x y f ty pos af s t e}(hd:Nat.blt d X.N=true)(j:ac st x (am s))(k:ac st y (am t))
 (h:s.length<=maxLen->t.length<=maxLen->∃ v,(∀ w,(Op.stringOp o ⟨s.toArray⟩ ⟨t.toArray⟩).run X.P w=.ok v w)/\∀ w S γ,e.val w S γ v) (n:∀(_ _:IntKind×Int),(o matches .shl | .shr)=false) :
 ax X st mm ⟨some d,.binOp o T x y f,ty,pos,af,none⟩ [(d,e)] []:=
 mC hd j k λw S γ r u g i=>by obtain⟨rfl,a1⟩:=g;obtain⟨rfl,a2⟩:=i;obtain⟨v,p,q⟩:=h a1 a2;simp_all[eqGuard,binOp]
theorem Jg0(s:Be):(ByteArray.mk s.toArray).toList=s:=oh
theorem US(s t:Be):(s == t)=decide (s=t):=ol
theorem tA{d x y T T2 ty pos af s t z}(hz:bG s t=some z)(hd:Nat.blt d X.N=true)(hx:ac st x (am s))(hy:ac st y (am t)):
 ax X st mm ⟨some d,.binOp .add T x y T2,ty,pos,af,none⟩ [(d,am z)] []:=
 ny hd hx hy (λh1 h2=>by
  unfold bG at hz;split at hz;rename_i hle;cases hz;refine⟨_,λw=>?_,λw S γ=>⟨rfl,by grind[maxLen]⟩⟩;have:¬(((s.length+t.length:Nat):Int) > IntKind.i64.max):=by
   have h2:IntKind.i64.max=9223372036854775807:=oc
   omega
  have e:Op.stringOp .add ⟨s.toArray⟩ ⟨t.toArray⟩=if (((ByteArray.mk s.toArray).size+(ByteArray.mk t.toArray).size:Nat):Int) > IntKind.i64.max then unsupported (.resourceLimit "string concatenation: a sum of the lengths that is no int") else pure (.string (⟨s.toArray⟩++⟨t.toArray⟩)):=rfl
  have e2:(ByteArray.mk s.toArray)++(ByteArray.mk t.toArray)=⟨(s++t).toArray⟩:=oe
  simp_all[ByteArray.size]
  grind) oh
theorem eqS{d x y T e ty pos af s t}(hd:Nat.blt d X.N=true)(f:ac st x (am s))(g:ac st y (am t)):
 ax X st mm ⟨some d,.binOp .eql T x y e,ty,pos,af,none⟩ [(d,bl (decide (s=t)))] []:=
 ny hd f g (λi j=>⟨_,λw=>oe,by simp[US,bl,Ly.val,l7]⟩) oh
theorem neS{d x y T e ty pos af s t}(hd:Nat.blt d X.N=true)(f:ac st x (am s))(g:ac st y (am t)):
 ax X st mm ⟨some d,.binOp .neq T x y e,ty,pos,af,none⟩ [(d,bl (!decide (s=t)))] []:=
 ny hd f g (λi j=>⟨_,λw=>oe,by simp[US,bl,Ly.val,l7]⟩) oh
end aG
def eU(P:Program)(E k b:Nat)(z:Value):Prop:=∃ i,P.info? E=some i/\i.zero=some z/\i.size=k/\i.bytes=b
theorem bX{P:Program}{E k b:Nat}{z:Value}(h:(P.info? E).map (λi=>(i.zero,i.size,i.bytes))=some (some z,k,b)):eU P E k b z:=by
 cases hi:P.info? E with
 | none=>grind
 | some i=>rw[hi] at h;simp at h;exact⟨i,hi,h.1,h.2.1,h.2.2⟩
def MX:TypeDesc->Bool
 | .struct _=>true
 | .array _ _=>true
 | _=>false
def fB(P:Program)(T:Nat)(e:Bool)(k:Nat):Prop:=∃ d,P.underlying T=some d/\MX d=e/\∃ i,P.info? T=some i/\i.size=k
theorem cy{P:Program}{T:Nat}{e:Bool}{k b:Nat}{d:TypeDesc}{z:Value}(hd:P.underlying T=some d)(j:MX d=e)(hi:eU P T k b z):fB P T e k:=by obtain⟨i,f,n,g,p⟩:=hi;exact⟨d,hd,j,i,f,g⟩
theorem tB{P T e k}(h:fB P T e k)(w:World):(isAgg T).run P w=.ok e w:=by obtain⟨d,f,g,_⟩:=h;subst g;cases d<;>simp[isAgg,underlying,f,MX]
theorem C8{P T e k}(h:fB P T e k)(w:World):(sizeOf T).run P w=.ok k w:=by obtain⟨d,f,g,i,j,n⟩:=h;simp_all[sizeOf,typeInfo]
theorem W4{P T k b z}(h:eU P T k b z)(w:World):(sizeOf T).run P w=.ok k w:=by obtain⟨i,d,e,f,g⟩:=h;simp_all[sizeOf,typeInfo]
theorem qJ{P T k b z}(h:eU P T k b z)(w:World):(zeroValue T).run P w=.ok z w:=by obtain⟨i,d,e,_⟩:=h;simp_all[zeroValue,typeInfo]
theorem fc(b o n:Nat):Addr.add ⟨b,o,none⟩ n=⟨b,o+n,none⟩:=by grind[Addr.add]
theorem Hy{P:Program}{b o:Nat}{w:World}:∀(us:List Value) (i:Nat) (d:Array Value),(∀ j u,us[j]?=some u->w.cell? ⟨b,o+i+j,none⟩=some u) ->
 (loadCellsFrom ⟨b,o,none⟩ i us.length d).run P w=.ok (d++us.toArray) w
 | [],i,d,_=>oe
 | u::us,i,d,h=>by have h0:=h 0 u rfl;simp only[xg] at h0;have f:=Hy (P:=P) us (i+1) (d.push u) (λj v e=>by have:=h (j+1) v e;rw[show o+(i+1)+j=o+i+(j+1) by omega];exact this);simp only[xd,loadCellsFrom,Sem.run_bind,run_load,fc,h0,Result.andThen_ok,f];simp
theorem Hz{P:Program}{T:Nat}{d:Bool}{k b o:Nat}{w:World}{S γ}{ly:Ly}{us:List Value}(h:fB P T d k)(e:ly.isN=d)(q:ly.sz=k)
 (f:∀ j u,us[j]?=some u->w.cell? ⟨b,o+j,none⟩=some u) (g:ly.hold w S γ us):∃ v,(loadVar T ⟨b,o,none⟩).run P w=.ok v w/\ly.val w S γ v:=by
 have i:=Ly.hold_sz ly us g;unfold loadVar;cases d with
 | true=>
   refine⟨.agg us.toArray,?_,?_⟩;have:=Hy (P:=P) us 0 #[] (λj u p=>by simpa using f j u p);rw[i,q] at this;simp[tB h,C8 h,loadCells,this];cases ly<;>simp[Ly.isN] at e;simp_all[Ly.val,Ly.hold]
 | false=>
   have n:us.length=1:=by cases ly<;>simp[Ly.isN] at e<;>simpa [Ly.sz] using i
   obtain⟨u,rfl⟩:∃ u,us=[u]:=by
    match us,n with
    | [u],_=>simp
   refine⟨u,?_,Ly.val_of_hold1 e g⟩;have:=f 0 u rfl;simp[tB h,show w.cell? ⟨b,o,none⟩=some u by omega]
def fp(l:List Value)(p:Nat)(vs:List Value):List Value:=l.take p++vs++l.drop (p+vs.length)
theorem Xc{w:World}{b:Nat}{aH:Array Value}{E:Nat}{fz:Nat×Nat}(h:w.heap[b]?=some (.cells aH E fz))(o:Nat):w.cell? ⟨b,o,none⟩=aH[o]?:=by simp[World.cell?,h]
theorem MY{P:Program}{b o E:Nat}:∀(vs:List Value) (i:Nat) (w:World) (aH:Array Value),w.heap[b]?=some (.cells aH E (0,0))->o+i+vs.length<=aH.size->(∀ u∈vs,u.oneCell'=true) ->
 ∃ w' d,(storeCells ⟨b,o,none⟩ vs i).run P w=.ok () w'/\w'.heap[b]?=some (.cells d E (0,0))/\d.toList=fp aH.toList (o+i) vs/\Kp (λx=>x=b) w w'/\w'.os=w.os/\w'.tape=w.tape/\w'.output=w.output
 | [],i,w,aH,h,_,_=>⟨w,aH,oe,h,by simp[fp],Kp.refl _ _,rfl,rfl,rfl⟩
 | v::vs,i,w,aH,h,s,B=>by
   simp only[xd] at s;have y:b<w.heap.size:=ol
   have e:o+i<aH.size:=om
   have hcell:w.cell? ⟨b,o+i,none⟩=some aH[o+i]:=by rw[Xc h,yu e]
   have q:w.frozen? ⟨b,o+i,none⟩=false:=by simp[World.frozen?,h]
   have C:v.oneCell'=true:=ol
   have r:(w.setCell ⟨b,o+i,none⟩ v).heap[b]?=some (.cells (aH.setIfInBounds (o+i) v) E (0,0)):=by simp only[World.setCell,Array.getElem?_modify,ot,h];simp
   obtain⟨w',d,t,f,g,j,k,n,p⟩:=MY (P:=P) (b:=b) (o:=o) (E:=E) vs (i+1) (w.setCell ⟨b,o+i,none⟩ v) (aH.setIfInBounds (o+i) v) r ol ol;refine⟨w',d,?_,f,?_,?_,k,n,p⟩;simp_all[storeCells,fc,run_store];rw[g];simp only[fp,Array.toList_setIfInBounds,xd];grind[List.take_succ_eq_append_getElem,List.take_set_of_le,List.drop_set_of_lt];refine Kp.trans (S':=λx=>x=b) ⟨oh,λx F A=>?_⟩ j oh;grind[Below.heap_setCell]
def Ly.go:Bf->Ly->Option (Ly×Nat)
 | [],ly=>some (ly,0)
 | i::p,.agg l=>match l[i]? with
   | some x=>match Ly.go p x with
     | some (y,c)=>some (y,Ly.szs (l.take i)+c)
     | none=>none
   | none=>none
 | _::_,_=>none
def Ly.pu(n:Ly):Bf->Ly->Ly
 | [],_=>n
 | i::p,.agg l=>match l[i]? with
   | some x=>.agg (l.set i (Ly.pu n p x))
   | none=>.agg l
 | _::_,ly=>ly
theorem HE{w S γ}:∀ {l:List Ly}{cs:List Value}{i:Nat}{x:Ly},Ly.holds w S γ l cs->l[i]?=some x ->
 ∃ a u b,cs=a++u++b/\a.length=Ly.szs (l.take i)/\Ly.hold w S γ x u/\∀(n:Ly) (d:List Value),Ly.hold w S γ n d->Ly.holds w S γ (l.set i n) (a++d++b)
 | [],cs,i,x,_,e=>ol
 | ly::l,cs,0,x,h,e=>by obtain⟨c1,c2,rfl,f,g⟩:=h;simp at e;subst e;exact⟨[],c1,c2,oh,oe,f,λn d j=>⟨d,c2,oh,j,g⟩⟩
 | ly::l,cs,i+1,x,h,e=>by obtain⟨c1,c2,rfl,f,g⟩:=h;obtain⟨a,u,b,rfl,q,k,p⟩:=HE (i:=i) g (by simpa using e);refine⟨c1++a,u,b,oh,?_,k,λn d j=>⟨c1,a++d++b,oh,f,p n d j⟩⟩;grind[Ly.szs,Ly.hold_sz]
theorem pt{w S γ}:∀(p:Bf) {ly e:Ly}{c:Nat}{cs:List Value},Ly.go p ly=some (e,c)->Ly.hold w S γ ly cs ->
 ∃ a u b,cs=a++u++b/\a.length=c/\Ly.hold w S γ e u/\∀(n:Ly) (f:List Value),Ly.hold w S γ n f->Ly.hold w S γ (Ly.pu n p ly) (a++f++b)
 | [],ly,e,c,cs,d,h=>by simp only[Ly.go,Option.some.injEq,Prod.mk.injEq] at d;obtain⟨rfl,rfl⟩:=d;exact⟨[],cs,[],oh,rfl,h,by grind[Ly.pu]⟩
 | i::p,ly,e,c,cs,d,h=>by
   cases ly with
   | agg l=>
     simp only[Ly.go] at d;cases g:l[i]? with
     | none=>grind
     | some x=>
       simp only[g] at d;cases j:Ly.go p x with
       | none=>grind
       | some t=>
         obtain⟨y,A⟩:=t;simp only[j,Option.some.injEq,Prod.mk.injEq] at d;obtain⟨rfl,rfl⟩:=d;simp only[Ly.hold] at h;obtain⟨a,u,b,rfl,B,s,C⟩:=HE h g;obtain⟨k,f,q,rfl,g1,r,g3⟩:=pt p j s;refine⟨a++k,f,q++b,oh,ol,r,λn v E=>?_⟩;grind[Ly.pu,Ly.hold]
   | _=>simp[Ly.go] at d
theorem HG{k:Nat}:∀ {l:List Ly}{i:Nat},(∀ ly∈l,ly.sz=k)->i<=l.length->Ly.szs (l.take i)=i*k
 | [],i,_,hi=>by grind[Ly.szs]
 | ly::l,0,_,_=>by simp[Ly.szs]
 | ly::l,i+1,h,hi=>by simp only[yv,Ly.szs];rw[HG (λx d=>h x (vn _ d)) (by simpa using hi),h ly ve,Nat.succ_mul];omega
theorem UT{a u b vs:List Value}(h:vs.length=u.length):fp (a++u++b) a.length vs=a++vs++b:=by grind[fp]
section aG
variable {X:Cx}{st:Nat->Option Ly}{mm:Nat->Option Ct}
theorem tC{α:Type}{l:List α}{i:Int}{y:α}(h:ah l i=some y):0<=i/\l[i.toNat]?=some y:=by grind[ah]
theorem Jjf{α:Type}{l:List α}{i:Nat}{y:α}(h:l[i]?=some y):ah l (i:Int)=some y:=by simp[ah,h]
theorem iX{O:IntKind}{d x i T ty pos af E k b z p}{α:Type}{f:α->Ly}{xs:List α}{y:α}(K:X.P.underlying T=some (.slice E))(J:eU X.P E k b z)(g:ah xs p=some y)
 (hd:Nat.blt d X.N=true) (N:ac st x (bA k (xs.map f))) (hi:ac st i (.cell (gX O p))) :
 ax X st mm ⟨some d,.indexAddr T x i,ty,pos,af,none⟩ [(d,.ref (f y))] []:=
 Wv hd λa w γ s=>by
  obtain⟨h0,g⟩:=tC g;obtain⟨g1,_⟩:=hi.val s;have L:p.toNat<xs.length:=ol
  rcases N.val s with ⟨r,M⟩ | ⟨q,o,cap,cs,r,S,U,B,C,F,H,I⟩ | ⟨M,_⟩
  rotate_left 2
  . have:xs=[]:=oo
    grind
  . have:xs=[]:=oo
    grind
  . have e:(xs.map f)[p.toNat]?=some (f y):=by simp[g]
    obtain⟨a1,u,P,rfl,t,A,_⟩:=HE H e;rw[HG I ol] at t;refine⟨.pointer (some ⟨q,o+p.toNat*k,none⟩),?_,?_⟩
    . have n:p<(xs.length:Int):=om
      simp only[execOp,r,g1];simp[Instr.indexAt,asIntOf,underlying,K,h0,n,W4 J,fc]
    . exact⟨q,o+p.toNat*k,u,rfl,B,C,λj v V=>by
       have:=F (a1.length+j) v ol
       grind,Ly.hold_mono (Kp.refl _ _) ol (λ_ _ h=>by cases h) _ _ A⟩
theorem ldR{d x T ty pos af e k ly}(n:fB X.P T e k)(p:ly.isN=e)(r:ly.sz=k)(hd:Nat.blt d X.N=true)(q:ac st x (.ref ly)):
 ax X st mm ⟨some d,.load T x,ty,pos,af,none⟩ [(d,ly)] []:=
 Wv hd λa w γ j=>by obtain⟨b,o,us,f,s,t,g,i⟩:=q.val j;simp at f;obtain⟨v,u,y⟩:=Hz (P:=X.P) n p r g i;simp_all[execOp,Instr.loadAt,Instr.sureAddr]
def fG(P:Program)(T j d:Nat):Prop:=∃ fs F,P.underlying T=some (.struct fs)/\fs[j]?=some F/\F.offset=d/\∃ i,P.info? F.type=some i/\i.size≠0
theorem MZ{P T j d b o}(h:fG P T j d)(w:World):(Instr.fieldAt T (.pointer (some ⟨b,o,none⟩)) j).run P w=.ok (.pointer (some ⟨b,o+d,none⟩)) w:=by obtain⟨fs,F,e,f,g,i,k,n⟩:=h;simp_all[Instr.fieldAt,underlying,Instr.sureAddr,fieldPlace,sizeOf,typeInfo,fc]
theorem faR{d x T j ty pos af e l g}(s:fG X.P T j e)(y:Ly.go [j] (.agg l)=some (g,e))(hd:Nat.blt d X.N=true)(A:ac st x (.ref (.agg l))):
 ax X st mm ⟨some d,.fieldAddr T x j,ty,pos,af,none⟩ [(d,.ref g)] []:=
 Wv hd λa w γ t=>by
  obtain⟨b,o,us,f,n,p,q,r⟩:=A.val t;simp at f;obtain⟨a1,u,B,rfl,C,k,_⟩:=pt [j] y r;refine⟨_,by simp only[execOp,f];simp[MZ s],b,o+e,u,rfl,n,p,λi v E=>?_,k⟩
  have:=q (a1.length+i) v (by
   rw[ye,xw om,ud]
   grind)
  grind
theorem oC{id E ly}{a w γ}(d:bq X st mm a w γ)(e:mm id=some (.bx E ly)):∃ g aH,γ id=some (.pointer (some ⟨g,0,none⟩))/\w.heap[g]?=some (.cells aH E (0,0))/\Ly.hold w (X.S γ mm) γ ly aH.toList:=d.cts id _ e
theorem M0{d x T j ty pos af e id E ly}(p:mm id=some (.bx E ly))(n:fG X.P T j e)(hd:Nat.blt d X.N=true)(q:ac st x (.own id)):
 ax X st mm ⟨some d,.fieldAddr T x j,ty,pos,af,none⟩ [(d,.ptr id e)] []:=
 Wv hd λa w γ k=>by obtain⟨g,aH,i,r,s⟩:=oC k p;obtain⟨f,_⟩:=q.val k;rw[i] at f;simp at f;exact⟨.pointer (some ⟨g,e,none⟩),by simp only[execOp,<-f];simp[MZ n],_,g,i,rfl,rfl⟩
theorem faP{d x T j ty pos af e id off}(n:fG X.P T j e)(hd:Nat.blt d X.N=true)(q:ac st x (.ptr id off)):
 ax X st mm ⟨some d,.fieldAddr T x j,ty,pos,af,none⟩ [(d,.ptr id (off+e))] []:=
 Wv hd λa w γ p=>by obtain⟨v0,g,f,i,k⟩:=q.val p;exact⟨.pointer (some ⟨g,off+e,none⟩),by simp only[execOp,k];simp[MZ n],v0,g,f,i,rfl⟩
def nz(mm:Nat->Option Ct)(d:Ly)(id off:Nat):Prop:=d=.ptr id off\/(d=.own id/\off=0/\∃ E ly,mm id=some (.bx E ly))
theorem M1{st mm a w γ j id off x}(d:bq X st mm a w γ)(h:nz mm j id off)(i:ac st x j):∃ v0 g,γ id=some v0/\aC v0=some g/\a.eval x=.pointer (some ⟨g,off,none⟩):=by rcases h with rfl | ⟨rfl,rfl,E,ly,hm⟩;exact i.val d;obtain⟨g,aH,f,k,n⟩:=oC d hm;obtain⟨e,_⟩:=i.val d;rw[f] at e;simp at e;exact⟨_,g,f,rfl,e.symm⟩
theorem M2{d x T ty pos af i k r id E ly e off}(p:Bf)(I:mm id=some (.bx E ly))(C:Ly.go p ly=some (e,off))(A:fB X.P T i k)(J:e.isN=i)(M:e.sz=k)
 (hd:Nat.blt d X.N=true) (L:ac st x r) (K:nz mm r id off) :
 ax X st mm ⟨some d,.load T x,ty,pos,af,none⟩ [(d,e)] []:=
 Wv hd λa w γ q=>by
  obtain⟨g,aH,s,t,y⟩:=oC q I;obtain⟨v0,S,f,n,O⟩:=M1 q K L;rw[s] at f;simp at f;subst f;simp[aC] at n;subst n;obtain⟨a1,u,N,B,H,F,_⟩:=pt p C y
  obtain⟨v,V,W⟩:=Hz (P:=X.P) (b:=g) (o:=off) A J M (us:=u) (w:=w) (λj v U=>by
   rw[Xc t,<-xq,B,ye,xw om,H,ud]
   grind) F
  simp_all[execOp,Instr.loadAt,Instr.sureAddr]
theorem UU{P:Program}{T f k b o E}{w:World}{aH:Array Value}{v:Value}{vs:List Value}(q:fB P T f k)(r:w.heap[b]?=some (.cells aH E (0,0)))(s:v.cells.toList=vs)(y:vs.length=k)
 (t:o+k<=aH.size) (p:∀ u∈vs,u.oneCell'=true) :
 ∃ w' d,(Instr.storeAt T (.pointer (some ⟨b,o,none⟩)) v).run P w=.ok () w'/\w'.heap[b]?=some (.cells d E (0,0))/\d.toList=fp aH.toList o vs/\Kp (λx=>x=b) w w'/\w'.os=w.os/\w'.tape=w.tape/\w'.output=w.output:=by
 obtain⟨w',d,g1,g,g3,g4,i,j,n⟩:=MY (P:=P) (b:=b) (o:=o) (E:=E) vs 0 w aH r om p;have e:v.cells.size=k:=ol
 refine⟨w',d,?_,g,g3,g4,i,j,n⟩;simp[Instr.storeAt,Instr.sureAddr,storeVar,C8 q,e,s,g1]
theorem stB{x y T ty pos af J k H id E ly I ln off}(p:Bf)(s:mm id=some (.bx E ly))(W:Ly.go p ly=some (I,off))(S:fB X.P T J k)(hz:I.sz=k)(hnz:ln.sz=k)(t:ln.lies=true)
 (hx:ac st x H) (ho:nz mm H id off) (hy:ac st y ln) :
 ax X st mm ⟨none,.store T x y,ty,pos,af,none⟩ [] [(id,.bx E (Ly.pu ln p ly))]:=by
 intro a w γ K Q j O;obtain⟨g,aH,i,M,N⟩:=oC j s;obtain⟨v0,g',n,C,e3⟩:=M1 j ho hx;rw[i] at n;simp at n;subst n;simp[aC] at C;subst C;obtain⟨a1,u,L,F,Z,Y,hp⟩:=pt p W N;have A:=Ly.hold_of_val t (hy.val j);have hvl:=Ly.hold_sz _ _ A;have hul:=Ly.hold_sz _ _ Y;have V:aH.size=a1.length+u.length+L.length:=by have:=yj List.length F;grind
 obtain⟨w',d,r1,r2,r3,B,r5,r6,r7⟩:=UU (P:=X.P) (o:=off) (v:=a.eval y) S M rfl om om (Ly.oneCell_of_hold _ _ A);have f:(execOp a.eval ⟨none,.store T x y,ty,pos,af,none⟩).run X.P w=.ok .skip w':=by simp_all[execOp]
 unfold Oper.wp;rw[f];have r:Kp (X.S γ mm) w w':=⟨B.1,λb U hn=>B.2 b U (λe=>hn (.inr ⟨id,_,_,s,rfl,i,by rw[e];rfl⟩))⟩
 have hhold:=hp _ _ A;have q:Xk w' (X.S γ mm) γ id (.bx E (Ly.pu ln p ly)):=by refine⟨g,d,i,r2,?_⟩;rw[r3,F,<-Z,UT om];exact Ly.hold_mono r ol (Ng.refl _) _ _ hhold
 exact O _ _ γ (j.setc r5 r6 r7 s rfl i rfl B rfl q)
end aG
def Zr(ly:Ly)(cs:List Value):Prop:=∀ w S γ,ly.hold w S γ cs
def C9(l:List Ly)(cs:List Value):Prop:=∀ w S γ,Ly.holds w S γ l cs
theorem Ko:Zr (ab 0) [.int .i64 0]:=λ_ _ _=>⟨_,rfl,rfl,oc,oc⟩
theorem gf:Zr (u8 0) [.int .u8 0]:=λ_ _ _=>⟨_,rfl,rfl,oc,oc⟩
theorem kq:Zr (av 0) [.int .u32 0]:=λ_ _ _=>⟨_,rfl,rfl,oc,oc⟩
theorem li:Zr (bl false) [.bool false]:=λ_ _ _=>⟨_,rfl,rfl⟩
theorem Zj:Zr (am []) [.string ⟨#[]⟩]:=λ_ _ _=>⟨_,rfl,rfl,oc⟩
theorem K9{k}:Zr (bA k []) [.slice none 0 0]:=λ_ _ _=>⟨_,rfl,.inl oh⟩
theorem V3{l cs}(h:C9 l cs):Zr (.agg l) cs:=λw S γ=>by simp only[Ly.hold];exact h w S γ
theorem K3:C9 [] []:=λ_ _ _=>rfl
theorem Qp{ly l c1 c2}(d:Zr ly c1)(e:C9 l c2):C9 (ly::l) (c1++c2):=λw S γ=>⟨c1,c2,rfl,d w S γ,e w S γ⟩
theorem UV{ly c}(h:Zr ly c):∀ n,C9 (List.replicate n ly) ((List.replicate n c).flatten)
 | 0=>K3
 | n+1=>by simp only[ua,List.flatten_cons];exact Qp h (UV h n)
namespace bq
variable {X:Cx}{st:Nat->Option Ly}{mm:Nat->Option Ct}{a:Act}{w:World}{γ:Nm}
theorem replace(h:bq X st mm a w γ){w':World}(P:w'.os=w.os)(ht:w'.tape=w.tape)(J:w'.output=w.output){id:Nat}{c:Ct}(r:mm id=some c)(H:c.alive=true)
 {v:Value}(L:γ id=some v) (hk:Kp (λb=>aC v=some b) w w')
 {y:Nat}{ct:Ct}{v':Value}(hy:mm y=none) (_:ct.alive=true)
 (hct:∀ S γ',(∀ b,S b->X.S γ mm b\/w.heap.size<=b)->Ng γ γ'->γ' y=some v'->Xk w' S γ' y ct)
 (W:∀ b,aC v'=some b->(aC v=some b\/w.heap.size<=b)/\b<w'.heap.size) :
 bq X st (up mm [(y,ct),(id,.gone)]) a w' (gset γ y v'):=by
 have hgy:γ y=none:=h.fresh y hy;have Y:y≠id:=ol
 have I:Ng γ (gset γ y v'):=by intro i u E;grind[gset]
 have A:∀ i,up mm [(y,ct),(id,.gone)] i=if y=i then some ct else if id=i then some .gone else mm i:=by
  intro i;have:up mm [(y,ct),(id,.gone)]=up (up mm [(id,.gone)]) [(y,ct)]:=by grind[up,lk]
  simp_all[Xb]
 have K:∀ b,Ow (gset γ y v') (up mm [(y,ct),(id,.gone)]) b->(∃ i p u,i≠id/\i≠y/\mm i=some p/\p.alive=true/\γ i=some u/\aC u=some b)\/aC v'=some b:=by rintro b ⟨i,p,u,g,x,t,B⟩;grind[gset,Ct.alive]
 have hvb:∀ b,aC v=some b->X.S γ mm b:=λb f=>.inr ⟨id,c,v,r,H,L,f⟩;have hS:∀ b,X.S (gset γ y v') (up mm [(y,ct),(id,.gone)]) b->X.S γ mm b\/w.heap.size<=b:=by
  rintro b (f | f)
  . exact .inl (.inl f)
  . rcases K b f with ⟨i,p,u,g,x,t,B,s,C⟩ | g
    . exact .inl (.inr ⟨i,p,u,t,B,s,C⟩)
    grind
 have O:Kp (X.S γ mm) w w':=⟨hk.1,λb f hn=>hk.2 b f ol⟩
 refine { h with keep:=λi u E=>I i u (h.keep i u E),os:=P.trans h.os,tape:=ht.trans h.tape,output:=J.trans h.output,grow:=xz h.grow hk.1,old:=?_,fresh:=?_,cts:=?_,apart:=?_,mine:=?_,sts:=?_ }
 . intro b f Z
   rw[hk.2 b (xr f h.grow) (λe=>by
    rcases(h.mine b ⟨id,c,v,r,H,L,e⟩).1 with g | g
    all_goals grind)]
   exact h.old b f Z
 . intro i hi
   rw[A] at hi;by_cases k:y=i
   . grind
   . by_cases j:id=i
     . grind
     . simp[k,j] at hi
       simp[gset,k,h.fresh i hi]
 . intro i p n
   rw[A] at n;by_cases k:y=i
   . grind[gset]
   . by_cases j:id=i
     . simp[k,j] at n;subst n;trivial
     . simp[k,j] at n
       by_cases q:p.alive=true
       . refine(h.cts i p n).mono O hS I ?_
         intro u b E f;refine hk.2 b (h.mine b ⟨i,p,u,n,q,E,f⟩).2.1 (λe=>j ?_);exact h.apart id i c p v u b r H n q L E e f
       . cases p<;>simp[Ct.alive] at q
         trivial
 . intro i T c1 c2 u u' b g x t B s C M N
   rw[A] at g t;have key:∀ i c1 u,y≠i->(if y=i then some ct else if id=i then some Ct.gone else mm i)=some c1->c1.alive=true->gset γ y v' i=some u->aC u=some b->aC v'=some b->False:=by
    intro i c1 u k g x s M N;simp only[k,if_false] at g;by_cases j:id=i
    . grind[Ct.alive]
    . simp[j] at g
      simp[gset,k] at s;have hm:=h.mine b ⟨i,c1,u,g,x,s,M⟩;rcases(W b N).1 with e | e
      . exact j (h.apart id i c c1 v u b r H g x L s e M)
      . omega
   by_cases U:y=i<;>by_cases V:y=T
   . omega
   . grind[gset]
   . grind[gset]
   . simp only[U,if_false] at g
     simp only[V,if_false] at t;by_cases g1:id=i
     . grind[Ct.alive]
     . by_cases F:id=T
       . grind[Ct.alive]
       . simp[g1] at g;simp[F] at t
         simp[gset,U] at s;simp[gset,V] at C;exact h.apart i T c1 c2 u u' b g x t B s C M N
 . intro b f
   rcases K b f with ⟨i,p,u,g,x,t,B,s,C⟩ | g
   . obtain⟨g1,F,g3⟩:=h.mine b ⟨i,p,u,t,B,s,C⟩
     exact⟨g1,xr F hk.1,g3⟩
   . obtain⟨g1,F⟩:=W b g
     rcases g1 with g1 | g1
     . obtain⟨k1,k2,k3⟩:=h.mine b ⟨id,c,v,r,H,L,g1⟩
       grind
     . exact⟨.inl (xz h.grow g1),F,λhs=>by have:=h.s0 b hs;have:=h.grow;omega⟩
 . intro d ly hd
   obtain⟨u,E,hl⟩:=h.sts d ly hd;grind[Ly.val_mono]
end bq
section aG
variable {X:Cx}{st:Nat->Option Ly}{mm:Nat->Option Ct}
theorem pw(S:Nat->Prop)(w:World)(o:Obj):Kp S w (w.alloc o):=⟨oh,by grind[Below.heap_alloc]⟩
theorem tD(w:World)(o:Obj):(w.alloc o).heap[w.heap.size]?=some o:=by show(w.heap.push o)[w.heap.size]?=_;simp
theorem qK{d op ty pos af y ct}(hd:Nat.blt d X.N=true)(s:mm y=none)(e:ct.alive=true)
 (h:∀ a w γ,bq X st mm a w γ->∃ v w',(execOp a.eval ⟨some d,op,ty,pos,af,none⟩).run X.P w=.ok (.value v) w'/\w'.os=w.os/\w'.tape=w.tape/\w'.output=w.output/\Kp (λ_=>False) w w'/\v.oneCell'=true /\
  (∀ S γ',(∀ b,S b->X.S γ mm b\/w.heap.size<=b)->Ng γ γ'->γ' y=some v->Xk w' S γ' y ct)/\(∀ b,aC v=some b->w.heap.size<=b/\b<w'.heap.size)) :
 ax X st mm ⟨some d,op,ty,pos,af,none⟩ [(d,.own y)] [(y,ct)]:=by
 intro a w γ K Q hi q;obtain⟨v,w',r,g,i,j,k,n,t,p⟩:=h a w γ hi;unfold Oper.wp;rw[r];have f:=hi.new g i j k s e ol p;exact q _ _ _ (f.put (d:=d) (v:=v) (ly:=.own y) oo ⟨by simp[bq.gset],n⟩)
theorem al{d T ty pos af y k b z ly}(f:eU X.P T k b z)(i:Zr ly z.cells.toList)(g:mm y=none)(hd:Nat.blt d X.N=true):
 ax X st mm ⟨some d,.alloc T,ty,pos,af,none⟩ [(d,.own y)] [(y,.bx T ly)]:=
 qK hd g rfl λa w γ hi=>
  ⟨.pointer (some ⟨w.heap.size,0,none⟩),w.alloc (.cells z.cells T),by
    simp only[execOp];simp[Instr.alloc,qJ f,newVar,newRow],rfl,rfl,rfl,pw _ _ _,rfl,
    λS γ' j n e=>⟨w.heap.size,z.cells,e,tD _ _,i _ _ _⟩,by simp[aC]⟩
theorem box{d T x ty pos af y ly}(i:ly.lies=true)(k:ac st x ly)(n:mm y=none)(hd:Nat.blt d X.N=true):
 ax X st mm ⟨some d,.box T x,ty,pos,af,none⟩ [(d,.own y)] [(y,.bx T ly)]:=
 qK hd n rfl λa w γ hi=>by
  have j:=Ly.hold_of_val i (k.val hi)
  refine⟨.pointer (some ⟨w.heap.size,0,none⟩),w.alloc (.cells (a.eval x).cells T),by
   rfl,rfl,rfl,rfl,pw _ _ _,rfl,
   λS γ' f g e=>⟨w.heap.size,_,e,tD _ _,Ly.hold_mono (pw _ _ _) f g _ _ j⟩,by simp[aC]⟩
theorem dX{d ty pos af y E k}(hd:Nat.blt d X.N=true)(f:mm y=none):
 ax X st mm ⟨some d,.assign (.const (.slice none 0 0)),ty,pos,af,none⟩ [(d,.own y)] [(y,.sl E k [])]:=
 qK hd f rfl λa w γ hi=>⟨.slice none 0 0,w,rfl,rfl,rfl,rfl,Kp.refl _ _,rfl,λS γ' _ _ e=>⟨_,[],e,⟨oh,oh⟩,rfl,oh⟩,by grind[aC]⟩
theorem kr{id E k ls}{a w γ}(d:bq X st mm a w γ)(e:mm id=some (.sl E k ls)):∃ v cs,γ id=some v/\w.ownsRow 0 E k v ls.length cs/\Ly.holds w (X.S γ mm) γ ls cs/\∀ ly∈ls,ly.sz=k:=d.cts id _ e
theorem xQ{J:IntKind}{d x i T ty pos af E E' k r b z p id}{α:Type}{f:α->Ly}{xs:List α}{y:α}(H:mm id=some (.sl E' k (xs.map f)))(C:X.P.underlying T=some (.slice E))(B:eU X.P E r b z)(s:ah xs p=some y)
 (hd:Nat.blt d X.N=true) (I:ac st x (.own id)) (hi:ac st i (.cell (gX J p))) :
 ax X st mm ⟨some d,.indexAddr T x i,ty,pos,af,none⟩ [(d,.ptr id (p.toNat*r))] []:=
 Wv hd λa w γ n=>by
  obtain⟨h0,s⟩:=tC s;obtain⟨g1,_⟩:=hi.val n;have F:p.toNat<xs.length:=ol
  obtain⟨v,cs,e,u,K,L⟩:=kr n H;obtain⟨t,_⟩:=I.val n;rw[t] at e;simp at e;subst e;obtain⟨_,A⟩:=u;rcases A with ⟨j,U⟩ | ⟨g,cap,aH,j,_,M,N,O,P,S⟩;grind;have q:p<(xs.length:Int):=om
  refine⟨.pointer (some ⟨g,p.toNat*r,none⟩),?_,_,g,t,by rw[j];rfl,rfl⟩;simp only[execOp,j,g1];simp[Instr.indexAt,asIntOf,underlying,C,h0,q,W4 B,fc]
theorem UW{w:World}{S γ}{E k:Nat}{v:Value}{α:Type}{f:α->Ly}{xs:List α}{cs:List Value}{i:Nat}{y:α}(e:w.ownsRow 0 E k v xs.length cs)(C:Ly.holds w S γ (xs.map f) cs)(I:∀ ly∈xs.map f,ly.sz=k)(H:xs[i]?=some y):
 ∃ g cap aH a u b,v=.slice (some ⟨g,0,none⟩) xs.length cap/\w.heap[g]?=some (.cells aH E (0,0))/\xs.length<=cap/\cap<=maxLen/\aH.size=cap*k/\aH.toList=(a++u++b)++aH.toList.drop (xs.length*k)/\cs=a++u++b/\a.length=i*k/\Ly.hold w S γ (f y) u /\
   ∀(n:Ly) (p:List Value),Ly.hold w S γ n p->Ly.holds w S γ ((xs.map f).set i n) (a++p++b):=by
 obtain⟨K,e⟩:=e;rcases e with ⟨_,L⟩ | ⟨g,cap,aH,rfl,_,t,x,A,B,J⟩;grind;have d:(xs.map f)[i]?=some (f y):=by simp[H]
 have F:i<xs.length:=ol
 obtain⟨a1,u,q,rfl,j,r,s⟩:=HE C d;rw[HG I ol] at j;refine⟨g,cap,aH,a1,u,q,rfl,t,x,A,B,?_,rfl,j,r,s⟩;grind[List.take_append_drop]
theorem Da{i k:Nat}:i*k=i*k+0:=rfl
theorem xR{d x T ty pos af s k H id E n off c i}{α:Type}{f:α->Ly}{xs:List α}{y:α}(p:Bf)(Z:mm id=some (.sl E k (xs.map f)))(hy:xs[i]?=some y)(U:Ly.go p (f y)=some (n,c))(e:off=i*k+c)
 (O:fB X.P T s H) (hn:n.isN=s) (hz:n.sz=H) (hd:Nat.blt d X.N=true) (hx:ac st x (.ptr id off)) :
 ax X st mm ⟨some d,.load T x,ty,pos,af,none⟩ [(d,n)] []:=
 Wv hd λa w γ C=>by
  subst e;obtain⟨v,cs,I,B,J,K⟩:=kr C Z;rw[xf] at B;obtain⟨g,cap,aH,a1,u,t,rfl,L,h3,h4,h5,M,rfl,h7,N,_⟩:=UW B J K hy;obtain⟨v0,g',r,F,k3⟩:=hx.val C;rw[I] at r;simp at r;subst r;simp[aC] at F;subst F;obtain⟨a2,q,A,S,hl,V,_⟩:=pt p U N
  obtain⟨v,hr,hv⟩:=Hz (P:=X.P) (b:=g) (o:=i*k+c) O hn hz (us:=q) (w:=w) (λj v W=>by
   have Y:j<q.length:=ol
   rw[Xc L,<-xq,M,S];have:a1++(a2++q++A)++t++aH.toList.drop (xs.length*k)=(a1++a2)++(q++(A++t++aH.toList.drop (xs.length*k))):=oh
   rw[this,xw ol,wz ol]
   rw[<-W];simp[*]) V
  simp_all[execOp,Instr.loadAt,Instr.sureAddr]
theorem UX{x y T ty pos af ag k U id E Z ln off c i}{α:Type}{f:α->Ly}{xs:List α}{e:α}(n:α)(p:Bf)(L:mm id=some (.sl E k (xs.map f)))(he:xs[i]?=some e)(hg:Ly.go p (f e)=some (Z,c))(r:off=i*k+c)
 (N:Ly.pu ln p (f e)=f n) (hsz:(f n).sz=k) (hT:fB X.P T ag U) (hz:Z.sz=U) (hnz:ln.sz=U) (M:ln.lies=true) (hx:ac st x (.ptr id off)) (hy:ac st y ln) :
 ax X st mm ⟨none,.store T x y,ty,pos,af,none⟩ [] [(id,.sl E k ((xs.set i n).map f))]:=by
 intro a w γ K Q A hK;subst r;obtain⟨v,cs,t,F,e3,e4⟩:=kr A L;rw[xf] at F;obtain⟨g,cap,aH,a1,u,B,rfl,h2,h3,h4,h5,h6,rfl,h7,h8,h9⟩:=UW F e3 e4 he;obtain⟨v0,g',S,Y,k3⟩:=hx.val A;rw[t] at S;simp at S;subst S;simp[aC] at Y;subst Y;obtain⟨a2,u2,C,rfl,hl,hh,hp⟩:=pt p hg h8;have O:=Ly.hold_of_val M (hy.val A);have hvl:=Ly.hold_sz _ _ O;have hul:=Ly.hold_sz _ _ hh;have W:(a.eval y).cells.size=ln.sz:=om
 have q:=yj List.length h6;have H:=F.1;simp only[xo,Array.length_toList,yh] at q H;obtain⟨w',j,r1,r2,r3,V,r5,r6,r7⟩:=UU (P:=X.P) (o:=i*k+c) (v:=a.eval y) hT h2 rfl om om (Ly.oneCell_of_hold _ _ O);have s:(execOp a.eval ⟨none,.store T x y,ty,pos,af,none⟩).run X.P w=.ok .skip w':=by simp only[execOp,k3];simp[r1]
 unfold Oper.wp;rw[s];have J:Kp (X.S γ mm) w w':=⟨V.1,λb hb hn=>V.2 b hb (λee=>hn (.inr ⟨id,_,_,L,rfl,t,by rw[ee];rfl⟩))⟩
 have hhold:=h9 _ _ (hp _ _ O);rw[N] at hhold;have hmapset:(xs.map f).set i (f n)=(xs.set i n).map f:=oh
 rw[hmapset] at hhold;have d:j.toList=(a1++(a2++(a.eval y).cells.toList++C)++B)++aH.toList.drop (xs.length*k):=by
  rw[r3];have:aH.toList=(a1++a2)++u2++(C++B++aH.toList.drop (xs.length*k)):=ol
  rw[this,show i*k+c=(a1++a2).length by grind,UT om];grind
 have I:Xk w' (X.S γ mm) γ id (.sl E k ((xs.set i n).map f)):=by refine⟨_,a1++(a2++(a.eval y).cells.toList++C)++B,t,⟨?_,.inr ⟨g,cap,j,oh,xu _,r2,ol,h4,?_,?_⟩⟩,Ly.holds_mono J ol (Ng.refl _) _ _ hhold,?_⟩;grind;have:=yj List.length d;grind;rw[d,xf,List.length_set,List.take_append_of_le_length ol,xc ol];grind
 exact hK _ _ γ (A.setc r5 r6 r7 L rfl t rfl V rfl I)
end aG
def Sx(S0:Nat->Prop)(γ:Nm)(m:List (Nat×Ct))(b:Nat):Prop:=S0 b\/Ow γ (lk m) b
def gG(γ:Nm)(mm:Nat->Option Ct):Prop:=∀ id d c e v v' b,mm id=some c->c.alive=true->mm d=some e->e.alive=true->γ id=some v->γ d=some v'->aC v=some b->aC v'=some b->id=d
structure px(w:World)(S0:Nat->Prop)(γ:Nm)(mi:List (Nat×Ct))(res:Ly)(mo:List (Nat×Ct))(v:Value)(γ':Nm)(w':World):Prop where
 os:w'.os=w.os
 tape:w'.tape=w.tape
 output:w'.output=w.output
 grow:w.heap.size<=w'.heap.size
 old:∀ b,b<w.heap.size->¬ Ow γ (lk mi) b->w'.heap[b]?=w.heap[b]?
 keep:Ng γ γ'
 fresh:∀ id,lk mo id=none->γ' id=none
 cts:∀ id c,lk mo id=some c->Xk w' (Sx S0 γ' mo) γ' id c
 apart:gG γ' (lk mo)
 mine:∀ b,Ow γ' (lk mo) b->(w.heap.size<=b\/Ow γ (lk mi) b)/\b<w'.heap.size/\¬ S0 b
 res:res.val w' (Sx S0 γ' mo) γ' v
def fd(w:World)(S0:Nat->Prop)(γ:Nm)(mi:List (Nat×Ct))(res:Ly)(mo:List (Nat×Ct)):Ending->World->Prop:=
 λe w'=>∃ v γ',e=.returned v/\px w S0 γ mi res mo v γ' w'
def bo(P:Program)(f:Nat)(args:List Ly)(mi:List (Nat×Ct))(res:Ly)(mo:List (Nat×Ct)):Prop:=
 (∃ fn,P.funcs[f]?=some fn∧(fn.name == "runtime.NumGoroutine")=false∧fn.body.isSome=true) ∧
 ∀(w:World) (S0:Nat->Prop) (γ:Nm) (vs:Array Value),(∀ b,S0 b->b<w.heap.size)->(∀ id,lk mi id=none->γ id=none) ->
  (∀ id c,lk mi id=some c->Xk w (Sx S0 γ mi) γ id c)->gG γ (lk mi)->(∀ b,Ow γ (lk mi) b->b<w.heap.size/\¬ S0 b)->Ly.vals w (Sx S0 γ mi) γ args vs.toList->jD w (Sx S0 γ mi) ->
  Calls P f vs w (fd w S0 γ mi res mo)
def iv:Nat->List Ly->List (Nat×Ly)
 | _,[]=>[]
 | i,ly::l=>(i,ly)::iv (i+1) l
theorem M3{w S γ}:∀ {l:List Ly}{vs:List Value}(i:Nat),Ly.vals w S γ l vs->∀ d ly,lk (iv i l) d=some ly->i<=d/\∃ v,vs[d - i]?=some v/\ly.val w S γ v
 | [],_,_,_,d,ly,h=>by cases h
 | x::l,vs,i,e,d,ly,h=>by simp only[Ly.vals] at e;obtain⟨v,r,rfl,k,f⟩:=e;simp only[iv,lk] at h;cases g:Nat.beq i d;rw[g] at h;obtain⟨g1,u,j,g3⟩:=M3 (i+1) f d ly h;grind;simp_all
theorem UY{P:Program}{f N:Nat}{fn:Func}{c:Code}{args:List Ly}{mi:List (Nat×Ct)}{R:Type}{res:R->Ly}{mo:R->List (Nat×Ct)}{md:Option R}
 (hf:P.funcs[f]?=some fn) (hb:fn.body=some c) (hN:fn.ntmps=N) (hname:(fn.name == "runtime.NumGoroutine")=false) (hl:Nat.ble args.length N=true)
 (h:∀ w S0 γ,(∀ id,lk mi id=none->γ id=none)->Sq ⟨P,N,w,S0,Ow γ (lk mi),γ,[]⟩ (iv 0 args) mi md (λr=>c.wp P (bodyPost P fn (fd w S0 γ mi (res r) (mo r))))) :
 ∀ r,md=some r->bo P f args mi (res r) (mo r):=by
 intro r hr;refine⟨⟨fn,hf,hname,ol⟩,λw S0 γ vs h1 h2 h3 h4 h5 h6 h7=>?_⟩;refine calls_of_wp hf hb (h w S0 γ h2 r _ w γ hr ?_);have hvl:vs.size=args.length:=by
  have:∀(l:List Ly) (vs:List Value),Ly.vals w (Sx S0 γ mi) γ l vs->vs.length=l.length:=by
   intro l
   induction l with
   | nil=>grind[Ly.vals]
   | cons x l ih=>simp_all[Ly.vals]
  grind
 have hle:=ym hl
 exact { size:=ol,defs:=rfl,s0:=h1,gx:=h7,keep:=Ng.refl _,os:=rfl,tape:=rfl,output:=rfl,grow:=xe _,old:=oh,fresh:=h2,cts:=h3,apart:=h4,
         mine:=ol,
         sts:=λd ly hd=>by
          obtain⟨_,v,g1,g2⟩:=M3 0 h6 d ly hd;refine⟨v,?_,g2⟩
          grind }
def Db(σ:List (Nat×Nat)):List (Nat×Ct)->Prop
 | []=>True
 | (id,_)::r=>lk σ id=some id/\Db σ r
theorem nA{σ mi}{γ:Nm}(hγ:∀ id,lk mi id=none->γ id=none)(h:Db σ mi):ib σ γ:=by
 intro id v g;have d:lk mi id≠none:=ol
 clear hγ g
 induction mi with
 | nil=>exact absurd rfl d
 | cons e r j=>
   obtain⟨i,c⟩:=e;simp only[lk] at d;cases f:Nat.beq i id;rw[f] at d;exact j h.2 d;rw[<-xy f];exact h.1
def ic(P:Program)(l:List (Nat×Ly))(m:List (Nat×Ct)):List ResultVar->List Ly->Prop
 | [],[]=>True
 | .tmp t::rs,ly::d=>lk l t=some ly/\ic P l m rs d
 | .cell t T::rs,ly::d=>(∃ id E,lk l t=some (.own id)/\lk m id=some (.bx E ly)/\fB P T ly.isN ly.sz)/\ic P l m rs d
 | _,_=>False
def eV(tmps:Array Value):ResultVar->Sem Value
 | .tmp t=>pure (tmps.getD t undef)
 | .cell t T=>do loadVar T (<-asAddr (tmps.getD t undef))
theorem M4{X:Cx}{l m a w γ}(hi:bq X (lk l) (lk m) a w γ):∀(rs:List ResultVar) (d:List Ly),ic X.P l m rs d ->
 ∃ vs:List Value,(rs.mapM (eV a.tmps)).run X.P w=.ok vs w/\Ly.vals w (X.S γ (lk m)) γ d vs
 | [],[],_=>⟨[],oh,oe⟩
 | .tmp t::rs,ly::d,h=>by obtain⟨vs,j,k⟩:=M4 hi rs d h.2;obtain⟨v,g1,e⟩:=hi.sts t ly h.1;refine⟨v::vs,?_,?_⟩;simp_all[eV];simp only[Ly.vals];grind
 | .cell t T::rs,ly::d,h=>by obtain⟨⟨id,E,n,p,q⟩,r⟩:=h;obtain⟨vs,j,k⟩:=M4 hi rs d r;obtain⟨u,g1,e,_⟩:=hi.sts t _ n;obtain⟨g,aH,f,s,i⟩:=oC hi p;rw[f] at e;simp at e;subst e;obtain⟨v,x,y⟩:=Hz (P:=X.P) (b:=g) (o:=0) (w:=w) q rfl rfl (us:=aH.toList) (by grind[Xc]) i;refine⟨v::vs,?_,?_⟩;simp_all[eV,asAddr];grind[Ly.vals]
 | .tmp _::_,[],h=>h.elim
 | .cell _ _::_,[],h=>h.elim
 | [],_::_,h=>h.elim
def py:List Value->Value
 | [v]=>v
 | vs=>.tuple ⟨vs⟩
def tE:List Ly->Ly
 | [ly]=>ly
 | l=>.tup l
theorem Jdn{P:Program}{w:World}{fn:Func}{tmps:Array Value}{rs:List ResultVar}{vs:List Value}(f:fn.results=⟨rs⟩)
 (h:(rs.mapM (eV tmps)).run P w=.ok vs w) :
 (results fn tmps).run P w=.ok (py vs) w:=by
 have d:results fn tmps=(do
  let vs <-fn.results.mapM (eV tmps)
  pure (if h:vs.size=1 then vs[0] else .tuple vs)):=by
  rfl
 have e:Array.mapM (eV tmps) (⟨rs⟩:Array ResultVar)=List.toArray <$> (rs.mapM (eV tmps)):=oh
 rw[d,f,e];simp only[Sem.run_bind,Sem.run_map,h,Result.andThen_ok];rcases vs with _ | ⟨v,_ | ⟨v',vs⟩⟩<;>simp[py]
theorem ret{P:Program}{N:Nat}{w0:World}{S0 γ0}{mi:List (Nat×Ct)}{R:Type}{res:R->Ly}{mo:R->List (Nat×Ct)}{fn:Func}{l:List (Nat×Ly)}{m:List (Nat×Ct)}{r:R}(σ:List (Nat×Nat))(rs:List ResultVar)(g f:List Ly)(e:Exit)
 (hγ:∀ id,lk mi id=none->γ0 id=none)
 (he:e=.ret\/e=.normal) (hr:fn.results=⟨rs⟩) (Z:ic P l m rs g) (M:aJ ((oy σ (mo r)).map (·.2))=true) (hk:Db σ mi) (O:gc (mo r) σ) (q:l9 σ m (mo r)) (hl:kl σ g f) (s:tE f=res r) :
 Sq ⟨P,N,w0,S0,Ow γ0 (lk mi),γ0,[]⟩ l m (some r) (λr=>bodyPost P fn (fd w0 S0 γ0 mi (res r) (mo r)) e):=by
 intro r' a w γ I hi;cases I;obtain⟨vs,n,F⟩:=M4 hi rs g Z;have t:=Jdn hr n;let γ':Nm:=λy=>match lk σ y with | some x=>γ x | none=>none
 have p:∀ y x,lk σ y=some x->γ' y=γ x:=ol
 obtain⟨γ'',hi'⟩:=CV (l':=[]) (m':=mo r) σ M (nA hγ hk) O q trivial a w γ hi;have key:∀ b,Ow γ' (lk (mo r)) b->Ow γ (lk m) b:=by rintro b ⟨y,i,v,B,S,k3,k4⟩;obtain⟨x,c,g1,k,g3⟩:=q.get y i B;exact⟨x,c,v,k,g3.al S,ol,k4⟩
 have hS:∀ b,Sx S0 γ' (mo r) b->Cx.S ⟨P,N,w0,S0,Ow γ0 (lk mi),γ0,[]⟩ γ (lk m) b:=λb h=>nt h (λx=>x) (key b);have hvals:Ly.vals w (Sx S0 γ' (mo r)) γ' f vs:=(hl w _ γ γ' p).2 vs (Ly.vals_mono (Kp.refl _ _) ol (Ng.refl _) _ _ F);have A:(res r).val w (Sx S0 γ' (mo r)) γ' (py vs):=by rw[<-s];rcases f with _ | ⟨ly,_ | ⟨ly2,f⟩⟩;simp only[Ly.vals] at hvals;subst hvals;exact⟨#[],rfl,oe⟩;simp only[Ly.vals] at hvals;obtain⟨v,rr,rfl,B,rfl⟩:=hvals;exact B;have hvals':=hvals;simp only[Ly.vals] at hvals;obtain⟨v,rr,rfl,B,v2,rr2,rfl,S,k3⟩:=hvals;show Ly.val w _ γ' (.tup _) _;simp only[Ly.val];exact⟨_,rfl,hvals'⟩
 have hback:fd w0 S0 γ0 mi (res r) (mo r) (.returned (py vs)) w:=by
  refine⟨_,γ',rfl,⟨hi.os,hi.tape,hi.output,hi.grow,hi.old,?_,?_,?_,?_,?_,A⟩⟩;intro id v A;have u:=nA hγ hk id v A;rw[p id id u];exact hi.keep id v A;intro y hy;cases h:lk σ y with
  | none=>grind
  | some x=>obtain⟨c,hc⟩:=O.get y x h;grind
  intro y i H;obtain⟨x,c,g1,k,g3⟩:=q.get y i H;have h0:=hi.cts x c k;have n:Xk w (Sx S0 γ' (mo r)) γ x c:=h0.mono (Kp.refl _ _) ol (Ng.refl _) oh;exact n.rn1 p g1 g3;intro y U c i v v' b n F u J K L W Y;obtain⟨x,d,g1,k,g3⟩:=q.get y c n;obtain⟨T,V,j,C,E⟩:=q.get U i u;rw[p y x g1] at K;rw[p U T j] at L;have:=hi.apart x T d V v v' b k (g3.al F) C (E.al J) K L W Y;subst this;exact MB M (by grind[Ht,kn]) (Ht (kn j) u J);intro b hb;exact hi.mine b (key b hb)
 rcases he with rfl | rfl<;>exact⟨hi.defs,_,t,hback⟩
section call
variable {X:Cx}{st:Nat->Option Ly}{mm:Nat->Option Ct}
def dY(st:Nat->Option Ly)(ρ:List (Nat×Nat)):List Operand->List Ly->Prop
 | [],[]=>True
 | x::xs,d::e=>(∃ ly,ac st x ly/\Rn ρ ly d)/\dY st ρ xs e
 | _,_=>False
theorem tG{a w γ γc ρ S}(hi:bq X st mm a w γ)(e:∀ y x,lk ρ y=some x->γc y=γ x)(j:∀ b,S b->X.S γ mm b):
 ∀ {xs:List Operand}{d:List Ly},dY st ρ xs d->Ly.vals w S γc d (xs.map a.eval)
 | [],[],_=>oe
 | x::xs,ly::d,h=>by obtain⟨⟨k,f,g⟩,i⟩:=h;simp only[xt,Ly.vals];exact⟨_,_,rfl,Ly.val_mono (Kp.refl _ _) ol (Ng.refl _) _ _ ((g w _ γ γc e).2 _ (f.val hi)),tG hi e j i⟩
 | [],_::_,h=>h.elim
 | _::_,[],h=>h.elim
def dD(σ ρ:List (Nat×Nat))(mo:List (Nat×Ct)):List (Nat×Ct)->Prop
 | []=>True
 | (y,c)::r=>((∃ x c0,lk σ y=some x/\lk mo x=some c0/\gV σ c0 c)\/(c=.gone/\∃ x,(x,y)∈ρ))/\dD σ ρ mo r
theorem dD.get{σ ρ mo}:∀ {em},dD σ ρ mo em->∀ y c,lk em y=some c->(∃ x c0,lk σ y=some x/\lk mo x=some c0/\gV σ c0 c)\/(c=.gone/\∃ x,(x,y)∈ρ)
 | [],_,y,c,h=>by cases h
 | (i,x)::r,e,y,c,h=>by simp only[lk] at h;cases d:Nat.beq i y;rw[d] at h;exact dD.get e.2 y c h;rw[d] at h;have:i=y:=xy d;subst this;simp at h;subst h;exact e.1
def bN(em:List (Nat×Ct)):Bf->Prop
 | []=>True
 | y::r=>(∃ c,lk em y=some c)/\bN em r
theorem bN.get{em}:∀ {l},bN em l->∀ y∈l,∃ c,lk em y=some c
 | [],_,y,h=>by cases h
 | x::l,d,y,h=>by rcases xk.1 h with rfl | h;exact d.1;exact bN.get d.2 y h
def ez(mm:Nat->Option Ct):List (Nat×Nat)->Prop
 | []=>True
 | (y,_)::r=>mm y=none/\ez mm r
theorem ez.get{mm}:∀ {τ},ez mm τ->∀ y x,lk τ y=some x->mm y=none
 | [],_,y,x,h=>by cases h
 | (i,f)::r,e,y,x,h=>by simp only[lk] at h;cases d:Nat.beq i y;rw[d] at h;exact ez.get e.2 y x h;rw[<-xy d];exact e.1
def gg(τ ρ:List (Nat×Nat)):List (Nat×Nat)->Prop
 | []=>True
 | (y,x)::r=>(lk τ y=some x\/lk ρ x=some y)/\gg τ ρ r
theorem gg.get{τ ρ}:∀ {σ},gg τ ρ σ->∀ y x,lk σ y=some x->lk τ y=some x\/lk ρ x=some y
 | [],_,y,x,h=>by cases h
 | (i,f)::r,e,y,x,h=>by simp only[lk] at h;cases d:Nat.beq i y;rw[d] at h;exact gg.get e.2 y x h;rw[d] at h;have:i=y:=xy d;subst this;simp at h;subst h;exact e.1
def gh(ρ:List (Nat×Nat))(γ:Nm):Nm:=λx=>match lk ρ x with | some y=>γ y | none=>none
def jF(Lt:Nat->Bool)(X:Cx)(mm:Nat->Option Ct)(ρ:List (Nat×Nat))(γ:Nm)(b:Nat):Prop:=X.S0 b\/∃ id c v,mm id=some c/\c.alive=true/\¬(∃ x,(x,id)∈ρ)/\Lt id=false/\γ id=some v/\aC v=some b
theorem UZ{mi res mo res' em}(Lt:Nat->Bool)(ρ τ σ:List (Nat×Nat))(hli:∀ id,Lt id=true->¬ ∃ x,(x,id)∈ρ)
 (hco:(∀ id,Lt id=false)\/(∀ {x c},lk mo x=some c->∀ {w S S' γ id},Xk w S γ id c->Xk w S' γ id c)/\(∀ w S S' γ v,res'.val w S γ v->res'.val w S' γ v))
 (O:∀ x r,lk mi x=some r->∃ y c,lk ρ x=some y/\mm y=some c/\gV ρ c r) (hρm:gc mi ρ) (hρn:aJ (ρ.map (·.2))=true)
 (hτ:ez mm τ) (hσ:gg τ ρ σ) (hσn:aJ (σ.map (·.2))=true) (L:dD σ ρ mo em) (hall:bN em (ρ.map (·.2))) (hall2:bN em (τ.map (·.1)))
 (hres:Rn σ res res') {a:Act}{w:World}{γ:Nm}(hi:bq X st mm a w γ) :
 ∃(γc:Nm) (S0c:Nat->Prop),γc=gh ρ γ/\S0c=jF Lt X mm ρ γ/\(∀ y x,lk ρ y=some x->γc y=γ x)/\(∀ b,Sx S0c γc mi b->X.S γ mm b)/\(∀ b,S0c b->b<w.heap.size)/\(∀ x,lk mi x=none->γc x=none) /\
  (∀ x r,lk mi x=some r->Xk w (Sx S0c γc mi) γc x r)/\gG γc (lk mi)/\(∀ b,Ow γc (lk mi) b->b<w.heap.size/\¬ S0c b) /\
  (∀ id c v b,Lt id=true->mm id=some c->c.alive=true->γ id=some v->aC v=some b->¬ Sx S0c γc mi b) /\
  ∀(v:Value) (γ':Nm) (w':World),px w S0c γc mi res mo v γ' w'->∃ γ'',bq X st (up mm em) a w' γ''/\Ng γ γ''/\res'.val w' (X.S γ'' (up mm em)) γ'' v:=by
 let γc:Nm:=gh ρ γ;have W:∀ x y,lk ρ x=some y->γc x=γ y:=λx y h=>by simp only[γc,gh,h]
 let img:Nat->Prop:=λy=>∃ x,(x,y)∈ρ;let S0c:Nat->Prop:=jF Lt X mm ρ γ;let LB:Nat->Prop:=λb=>∃ id c v,Lt id=true/\mm id=some c/\c.alive=true/\γ id=some v/\aC v=some b;have hS0c:∀ b,S0c b->X.S γ mm b:=by
  rintro b (h | ⟨id,c,v,n,p,f,h3',e,q⟩)
  . exact .inl h
  . exact .inr ⟨id,c,v,n,p,e,q⟩
 have t:∀ b,Ow γc (lk mi) b->∃ y c v,img y/\mm y=some c/\c.alive=true/\γ y=some v/\aC v=some b:=by rintro b ⟨x,r,v,n,p,f,e⟩;obtain⟨y,c,g1,j,g3⟩:=O x r n;exact⟨y,c,v,⟨x,kn g1⟩,j,g3.alive.1,ol,e⟩
 have hOwS:∀ b,Ow γc (lk mi) b->X.S γ mm b:=λb h=>by obtain⟨y,c,v,n,p,f,e,q⟩:=t b h;exact .inr ⟨y,c,v,p,f,e,q⟩
 have hSc:∀ b,Sx S0c γc mi b->X.S γ mm b:=λb h=>h.elim (hS0c b) (hOwS b);have hS0lt:∀ b,S0c b->b<w.heap.size:=by
  rintro b (h | ⟨id,c,v,n,p,f,h3',e,q⟩)
  . exact xr (hi.s0 b h) hi.grow
  . exact(hi.mine b ⟨id,c,v,n,p,e,q⟩).2.1
 have hdis:∀ b,Ow γc (lk mi) b->¬ S0c b:=by
  intro b h hs;obtain⟨y,c,v,n,p,f,e,q⟩:=t b h;rcases hs with hs | ⟨id,c2,v2,g1,j,g3,N,g4,g5⟩
  . exact(hi.mine b ⟨y,c,v,p,f,e,q⟩).2.2 hs
  . have:=hi.apart y id c c2 v v2 b p f g1 j e g4 q g5
    grind
 have hLn:∀ id c v b,Lt id=true->mm id=some c->c.alive=true->γ id=some v->aC v=some b->¬ Sx S0c γc mi b:=by
  rintro id c v b n p f e q (h | h)
  . rcases h with h | ⟨id2,c2,v2,g1,j,g3,N,g4,g5⟩
    . exact(hi.mine b ⟨id,c,v,p,f,e,q⟩).2.2 h
    . have:=hi.apart id id2 c c2 v v2 b p f g1 j e g4 q g5
      grind
  . obtain⟨y,c2,v2,g1,j,g3,g4,g5⟩:=t b h
    have:=hi.apart id y c c2 v v2 b p f j g3 e g4 q g5;grind
 refine⟨γc,S0c,rfl,rfl,W,hSc,hS0lt,
  (λx hx=>by
   cases h:lk ρ x with
   | none=>simp only[γc,gh,h]
   | some y=>obtain⟨c,hc⟩:=hρm.get x y h;grind),
  (λx r hx=>by
   obtain⟨y,c,g1,j,g3⟩:=O x r hx;have h0:=hi.cts y c j;have n:Xk w (Sx S0c γc mi) γ y c:=h0.mono (Kp.refl _ _) ol (Ng.refl _) oh
   exact n.rn W g1 g3),
  (λx x' c r v v' b n p f e q T U h8=>by
   obtain⟨y,d,g1,j,g3⟩:=O x c n;obtain⟨A,d',F,g2',N⟩:=O x' r f;rw[W x y g1] at q;rw[W x' A F] at T;have:=hi.apart y A d d' v v' b j g3.alive.1 g2' N.alive.1 q T U h8;subst this
   exact MA hρn (kn g1) (kn F) g1 F),
  (λb s=>by
   obtain⟨y,c,v,n,p,f,e,q⟩:=t b s
   exact⟨(hi.mine b ⟨y,c,v,p,f,e,q⟩).2.1,hdis b s⟩),hLn,?_⟩
 intro v γ' w' s;let γ'':Nm:=λy=>match lk τ y with | some x=>γ' x | none=>γ y
 have hnτ:∀ y c,mm y=some c->lk τ y=none:=λy c hy=>by
  cases h:lk τ y with
  | none=>rfl
  | some x=>rw[hτ.get y x h] at hy;cases hy
 have Y:Ng γ γ'':=by
  intro y u J;cases h:lk τ y with
  | none=>grind
  | some x=>have:=hi.fresh y (hτ.get y x h);grind
 have I:∀ y x,lk σ y=some x->γ'' y=γ' x:=by
  intro y x h;rcases hσ.get y x h with n | n
  . grind
  . obtain⟨r,hc'⟩:=hρm.get x y n
    obtain⟨y2,c,g1,j,g3⟩:=O x r hc';rw[n] at g1;simp at g1;subst g1;have V:=g3.alive.1;have h0:=hi.cts y c j;obtain⟨u,J⟩:∃ u,γ y=some u:=by
     cases c with
     | gone=>grind[Ct.alive]
     | sl E k ls=>obtain⟨u,_,J,_⟩:=h0;grind
     | bx E ly=>obtain⟨g,_,J,_⟩:=h0;grind
     | ob o=>obtain⟨g,J,_⟩:=h0;grind
     | ch o=>obtain⟨g,J,_⟩:=h0;grind
     | mp ks ls=>obtain⟨g,_,_,J,_⟩:=h0;grind
    have M:γ'' y=γ y:=ol
    rw[M,J];exact(s.keep x u ol).symm
 let B:=up mm em;have C:∀ y c,B y=some c->lk em y=some c\/(lk em y=none/\mm y=some c):=by intro y c h;simp only[B,up] at h;grind
 have hnimg:∀ y,lk em y=none->¬ img y:=by rintro y h ⟨x,hx⟩;obtain⟨c,hc⟩:=hall.get y ol;grind
 have how:∀ b,Ow γ'' B b->Ow γ' (lk mo) b\/S0c b\/LB b:=by
  rintro b ⟨y,c,u,n,p,f,e⟩;rcases C y c n with h | ⟨h,P⟩
  . rcases L.get y c h with ⟨x,c0,g1,j,g3⟩ | ⟨rfl,_⟩
    . exact .inl ⟨x,c0,u,j,g3.alive.1,by rw[<-I y x g1];exact f,e⟩
    . simp[Ct.alive] at p
  . have M:γ'' y=γ y:=by simp only[γ'',hnτ y c P]
    rw[M] at f;cases hl:Lt y
    . exact .inr (.inl (.inr ⟨y,c,u,P,p,hnimg y h,hl,f,e⟩))
    . exact .inr (.inr ⟨y,c,u,hl,P,p,f,e⟩)
 have hS2:(∀ id,Lt id=false)->∀ b,X.S γ'' B b->Sx S0c γ' mo b:=by
  rintro hn b (h | h)
  . exact .inl (.inl h)
  . rcases how b h with h | h | ⟨id,_,_,h0,_⟩
    . exact .inr h
    . exact .inl h
    . rw[hn id] at h0;cases h0
 have hS2':∀ b,X.S γ'' B b->X.S γ mm b\/w.heap.size<=b:=by
  rintro b (h | h)
  . exact .inl (.inl h)
  rcases how b h with h | h | ⟨id,c,v,h0,n,p,f,e⟩
  . rcases(s.mine b h).1 with h | h
    all_goals grind
  . exact .inl (hS0c b h)
  . exact .inl (.inr ⟨id,c,v,n,p,f,e⟩)
 have hk:Kp (X.S γ mm) w w':=⟨s.grow,λb H hn=>s.old b H ol⟩
 have hinv:bq X st B a w' γ'':={
  size:=hi.size,defs:=hi.defs,s0:=hi.s0,gx:=hi.gx,keep:=λid u J=>Y id u (hi.keep id u J)
  os:=s.os.trans hi.os,tape:=s.tape.trans hi.tape,output:=s.output.trans hi.output,grow:=xz hi.grow s.grow
  old:=by
   intro b H hM
   rw[s.old b (xr H hi.grow) (λh=>by
    obtain⟨y,c,u,n,p,f,e,q⟩:=t b h;rcases(hi.mine b ⟨y,c,u,p,f,e,q⟩).1 with h | h
    all_goals grind)]
   exact hi.old b H hM
  fresh:=by
   intro y hy;have n:lk em y=none:=by grind[up]
   have p:mm y=none:=by grind[up]
   have f:lk τ y=none:=by
    cases h:lk τ y with
    | none=>rfl
    | some x=>
      obtain⟨c,hc⟩:=hall2.get y (xv.2 ⟨_,kn h,rfl⟩);grind
   simp only[γ'',f];exact hi.fresh y p
  cts:=by
   intro y c hy;rcases C y c hy with h | ⟨h,P⟩
   . rcases L.get y c h with ⟨x,c0,g1,j,g3⟩ | ⟨rfl,_⟩
     . have h0:=s.cts x c0 j
       have n:Xk w' (X.S γ'' B) γ' x c0:=hco.elim (λhn=>h0.mono (Kp.refl _ _) (λb s=>.inl (hS2 hn b s)) (Ng.refl _) (λ_ _ _ _=>rfl)) (λhp=>hp.1 j h0);exact n.rn I g1 g3
     . trivial
   . by_cases V:c.alive=true
     . refine(hi.cts y c P).mono hk hS2' Y ?_
       intro u b J H;refine s.old b (hi.mine b ⟨y,c,u,P,V,J,H⟩).2.1 (λho=>?_);obtain⟨y2,c2,u2,K,Z,k3,k4,k5⟩:=t b ho;have:=hi.apart y y2 c c2 u u2 b P V Z k3 J k4 H k5;grind
     . cases c<;>simp[Ct.alive] at V
       trivial
  apart:=by
   have cross:∀ y A c r u u' b,lk em y=some c->c.alive=true->lk em A=none->mm A=some r->r.alive=true->γ'' y=some u->γ'' A=some u'->aC u=some b->aC u'=some b->False:=by
    intro y A c r u u' b n p f e q T U h8 h9;rcases L.get y c n with ⟨x,c0,g1,j,g3⟩ | ⟨rfl,_⟩
    . have M:γ'' A=γ A:=by simp only[γ'',hnτ A r e]
      rw[M] at U;obtain⟨K,_,k3⟩:=s.mine b ⟨x,c0,u,j,g3.alive.1,by rw[<-I y x g1];exact T,h8⟩;cases hl:Lt A
      . exact k3 (.inr ⟨A,r,u',e,q,hnimg A f,hl,U,h9⟩)
      . rcases K with K | K
        . have:=(hi.mine b ⟨A,r,u',e,q,U,h9⟩).2.1;omega
        . exact hLn A r u' b hl e q U h9 (.inr K)
    grind[Ct.alive]
   intro y A c r u u' b n p f e q T U h8;rcases C y c n with M | ⟨M,e1'⟩<;>rcases C A r f with e2 | ⟨e2,e2'⟩
   . rcases L.get y c M with ⟨x,c0,g1,j,g3⟩ | ⟨rfl,_⟩
     . rcases L.get A r e2 with ⟨x',c0',F,g2',N⟩ | ⟨rfl,_⟩
       . rw[I y x g1] at q
         rw[I A x' F] at T;have:=s.apart x x' c0 c0' u u' b j g3.alive.1 g2' N.alive.1 q T U h8;subst this;exact MA hσn (kn g1) (kn F) g1 F
       . simp[Ct.alive] at e
     grind[Ct.alive]
   . grind
   . grind
   . have K:γ'' y=γ y:=ol
     have Z:γ'' A=γ A:=ol
     rw[K] at q;rw[Z] at T;exact hi.apart y A c r u u' b e1' p e2' e q T U h8
  mine:=by
   intro b h;rcases how b h with h | h | ⟨id,c2,u2,k0,K,Z,k4,k5⟩
   . obtain⟨g1,j,g3⟩:=s.mine b h
     refine⟨?_,j,λP=>g3 (.inl P)⟩;rcases g1 with g1 | g1
     . exact .inl (xz hi.grow g1)
     . obtain⟨y,c,u,K,Z,k3,k4,k5⟩:=t b g1
       exact(hi.mine b ⟨y,c,u,Z,k3,k4,k5⟩).1
   . obtain⟨y,c,u,n,p,f,e⟩:=‹Ow γ'' B b›
     rcases h with h | ⟨id,c2,u2,K,Z,k3,k3',k4,k5⟩
     . rcases C y c n with M | ⟨M,e1'⟩
       . rcases L.get y c M with ⟨x,c0,g1,j,g3⟩ | ⟨rfl,_⟩
         . exact((s.mine b ⟨x,c0,u,j,g3.alive.1,by rw[<-I y x g1];exact f,e⟩).2.2 (.inl h)).elim
         grind[Ct.alive]
       . have K:γ'' y=γ y:=by simp only[γ'',hnτ y c e1']
         rw[K] at f;obtain⟨g1,j,g3⟩:=hi.mine b ⟨y,c,u,e1',p,f,e⟩;grind
     . obtain⟨g1,j,g3⟩:=hi.mine b ⟨id,c2,u2,K,Z,k4,k5⟩
       exact⟨g1,xr j s.grow,g3⟩
   . obtain⟨g1,j,g3⟩:=hi.mine b ⟨id,c2,u2,K,Z,k4,k5⟩
     exact⟨g1,xr j s.grow,g3⟩
  sts:=by
   intro i ly hly;obtain⟨u,J,hl⟩:=hi.sts i ly hly
   exact⟨u,J,Ly.val_mono hk hS2' Y ly u hl⟩ }
 have hv:res'.val w' (X.S γ'' B) γ'' v:=by
  have g:=(hres w' _ γ' γ'' I).2 v s.res;rcases hco with hn | hp
  . exact Ly.val_mono (Kp.refl _ _) (λb s=>.inl (hS2 hn b s)) (Ng.refl _) _ _ g
  . exact hp.2 _ _ _ _ _ g
 exact⟨γ'',hinv,Y,hv⟩
theorem nB{mi res mo res' em}(ρ τ σ:List (Nat×Nat))
 (i:∀ x d,lk mi x=some d->∃ y c,lk ρ x=some y/\mm y=some c/\gV ρ c d) (hρm:gc mi ρ) (hρn:aJ (ρ.map (·.2))=true)
 (hτ:ez mm τ) (hσ:gg τ ρ σ) (hσn:aJ (σ.map (·.2))=true) (g:dD σ ρ mo em) (e:bN em (ρ.map (·.2))) (hall2:bN em (τ.map (·.1)))
 (f:Rn σ res res') {a:Act}{w:World}{γ:Nm}(hi:bq X st mm a w γ) :
 (∀ y x,lk ρ y=some x->gh ρ γ y=γ x)/\(∀ b,Sx (jF (λ_=>false) X mm ρ γ) (gh ρ γ) mi b->X.S γ mm b)/\(∀ b,jF (λ_=>false) X mm ρ γ b->b<w.heap.size)/\(∀ x,lk mi x=none->gh ρ γ x=none) /\
  (∀ x d,lk mi x=some d->Xk w (Sx (jF (λ_=>false) X mm ρ γ) (gh ρ γ) mi) (gh ρ γ) x d)/\gG (gh ρ γ) (lk mi)/\(∀ b,Ow (gh ρ γ) (lk mi) b->b<w.heap.size/\¬ jF (λ_=>false) X mm ρ γ b) /\
  ∀(v:Value) (γ':Nm) (w':World),px w (jF (λ_=>false) X mm ρ γ) (gh ρ γ) mi res mo v γ' w'->∃ γ'',bq X st (up mm em) a w' γ''/\Ng γ γ''/\res'.val w' (X.S γ'' (up mm em)) γ'' v:=by
 obtain⟨_,_,rfl,rfl,g1,j,g3,g4,k,n,p,_,q⟩:=UZ (res':=res') (λ_=>false) ρ τ σ oh (.inl λ_=>rfl) i hρm hρn hτ hσ hσn g e hall2 f hi;exact⟨g1,j,g3,g4,k,n,p,q⟩
theorem lj{d f o largs mi res mo res' em}(ρ τ σ:List (Nat×Nat))(hf:bo X.P f largs mi res mo)(hdst:o.dst=some d)
 (hrun:∀ fn,X.P.funcs[f]?=some fn->(fn.name == "runtime.NumGoroutine")=false->fn.body.isSome=true->∀ a w γ,bq X st mm a w γ->∃ vs:Array Value,(execOp a.eval o).run X.P w=.ok (.enter f vs) w ∧
  ∀(γc:Nm) (S:Nat->Prop),(∀ y x,lk ρ y=some x->γc y=γ x)->(∀ b,S b->X.S γ mm b)->Ly.vals w S γc largs vs.toList)
 (hmi:∀ x c',lk mi x=some c'->∃ y c,lk ρ x=some y/\mm y=some c/\gV ρ c c') (hρm:gc mi ρ) (hρn:aJ (ρ.map (·.2))=true)
 (hτ:ez mm τ) (hσ:gg τ ρ σ) (hσn:aJ (σ.map (·.2))=true) (hem:dD σ ρ mo em) (hall:bN em (ρ.map (·.2))) (hall2:bN em (τ.map (·.1)))
 (hres:Rn σ res res') (hd:Nat.blt d X.N=true) :
 ax X st mm o [(d,res')] em:=by
 obtain⟨⟨fn,hfn,hname,hbody⟩,hc⟩:=hf;intro a w γ K Q hi hK;obtain⟨vs,hrun,hvals⟩:=hrun fn hfn hname hbody a w γ hi;obtain⟨g1,g2,g3,g4,g5,g6,g7,g8⟩:=nB (res':=res') ρ τ σ hmi hρm hρn hτ hσ hσn hem hall hall2 hres hi;unfold Oper.wp;rw[hrun,Oper.upon_enter];refine(hc w _ _ vs g3 g4 g5 g6 g7 ol (hi.gw g2)).mono ?_;rintro e w' ⟨v,γ',rfl,hb⟩;show K (a.put o.dst v) w';rw[hdst];obtain⟨γ'',hinv,_,hv⟩:=g8 v γ' w' hb;exact hK _ _ _ (hinv.put oo hv)
theorem iG{d f args argTypes ty pos af largs mi res mo res' em}(ρ τ σ:List (Nat×Nat))(hf:bo X.P f largs mi res mo)
 (ha:dY st ρ args largs) (hmi:∀ x c',lk mi x=some c'->∃ y c,lk ρ x=some y/\mm y=some c/\gV ρ c c') (hρm:gc mi ρ) (hρn:aJ (ρ.map (·.2))=true)
 (hτ:ez mm τ) (hσ:gg τ ρ σ) (hσn:aJ (σ.map (·.2))=true) (hem:dD σ ρ mo em) (hall:bN em (ρ.map (·.2))) (hall2:bN em (τ.map (·.1)))
 (hres:Rn σ res res') (hd:Nat.blt d X.N=true) :
 ax X st mm ⟨some d,.call { callee:=.value (.func f),args:=⟨args⟩,argTypes:=argTypes },ty,pos,af,none⟩ [(d,res')] em:=by
 refine lj ρ τ σ hf rfl (λfn hfn hname hbody a w γ hi=>⟨(args.map a.eval).toArray,?_,by grind[tG]⟩) hmi hρm hρn hτ hσ hσn hem hall hall2 hres hd;have hrun:(execOp a.eval ⟨some d,.call { callee:=.value (.func f),args:=⟨args⟩,argTypes:=argTypes },ty,pos,af,none⟩).run X.P w=.ok (.enter f (args.map a.eval).toArray) w:=by
  have e1:fn.body.isNone=false:=oo
  have e2:¬ fn.name= "runtime.NumGoroutine":=ol
  simp only[execOp,resolve,Act.eval];simp[Deferred.ofValue,invoke,callFunc,hfn,e2];grind
 omega
theorem ll{d f args argTypes ty pos af largs res}(hf:bo X.P f largs [] res [])(g:dY st [] args largs)(e:IF res)(hd:Nat.blt d X.N=true):
 ax X st mm ⟨some d,.call { callee:=.value (.func f),args:=⟨args⟩,argTypes:=argTypes },ty,pos,af,none⟩ [(d,res)] []:=
 iG [] [] [] hf g (λ_ _ h=>by cases h) trivial rfl trivial trivial rfl trivial trivial trivial (au e) hd
end call
section aG
variable {X:Cx}{st:Nat->Option Ly}{mm:Nat->Option Ct}
theorem ext{d x i ty pos af l ly}(f:l[i]?=some ly)(hd:Nat.blt d X.N=true)(g:ac st x (.tup l)):ax X st mm ⟨some d,.extract x i,ty,pos,af,none⟩ [(d,ly)] []:=
 Wv hd λa w γ hi=>by
  obtain⟨vs,k,e⟩:=g.val hi;have key:∀ {l:List Ly}{vs:List Value}{i:Nat}{ly},Ly.vals w (X.S γ mm) γ l vs->l[i]?=some ly->∃ v,vs[i]?=some v/\ly.val w (X.S γ mm) γ v:=by
   intro l
   induction l with
   | nil=>simp
   | cons x l n=>
     grind[Ly.vals]
  obtain⟨v,g1,j⟩:=key e f;simp_all[execOp,Instr.extract]
def U3(mm:Nat->Option Ct):Ly->Prop
 | .ptr _ _=>True
 | .ref _=>True
 | .own id=>∃ E ly,mm id=some (.bx E ly)
 | _=>False
theorem M5{d x ty pos af ly}(i:U3 mm ly)(hd:Nat.blt d X.N=true)(k:ac st x ly):ax X st mm ⟨some d,.nilCheck x,ty,pos,af,none⟩ [(d,ly)] []:=
 Wv hd λa w γ hi=>by
  have e:=k.val hi;have:∃ f,a.eval x=.pointer (some f):=by
   cases ly with
   | ptr id off=>obtain⟨_,g,_,_,h⟩:=e;grind
   | ref l=>obtain⟨b,o,us,h,_⟩:=e;grind
   | own id=>
     obtain⟨E,ly,j⟩:=i;obtain⟨g,aH,n,_⟩:=oC hi j;obtain⟨p,_⟩:=e;grind
   | _=>exact i.elim
  obtain⟨f,h⟩:=this;simp_all[execOp]
theorem fld{d x T j ty pos af l e q f k}(B:∃ fs F,X.P.underlying T=some (.struct fs)/\fs[j]?=some F/\F.offset=q/\fB X.P F.type f k)(E:Ly.go [j] (.agg l)=some (e,q))(n:e.isN=f)(L:e.sz=k)
 (hd:Nat.blt d X.N=true) (J:ac st x (.agg l)):ax X st mm ⟨some d,.field T x j,ty,pos,af,none⟩ [(d,e)] []:=
 Wv hd λa w γ hi=>by
  obtain⟨fs,F,r,s,A,i⟩:=B;obtain⟨cs,y,H⟩:=J.val hi;obtain⟨a1,u,K,C,I,t,_⟩:=pt [j] E (by simpa [Ly.hold] using H);have p:=Ly.hold_sz _ _ t;subst A;cases f with
  | true=>
    refine⟨.agg u.toArray,?_,?_⟩;simp only[execOp,y];have:cs.extract F.offset (F.offset+k)=u.toArray:=by apply vr;simp_all
    simp[Instr.field,underlying,r,s,part,asAgg,tB i,C8 i,this];cases e<;>simp[Ly.isN] at n;simp_all[Ly.val,Ly.hold]
  | false=>
    have g:u.length=1:=by cases e<;>simp[Ly.isN] at n<;>simpa [Ly.sz] using p
    obtain⟨v,rfl⟩:∃ v,u=[v]:=by
     match u,g with
     | [v],_=>simp
    refine⟨v,?_,Ly.val_of_hold1 n t⟩;have:cs[F.offset]?=some v:=by rw[<-xq,C,<-I];simp
    simp only[execOp,y];simp[Instr.field,underlying,r,s,part,asAgg,tB i,this]
theorem Q93{z:Array Value}{n k:Nat}(d:z.size=k)(_:0<k):(madeCells z (n*k)).toList=(List.replicate n z.toList).flatten:=by
 induction n with
 | zero=>simp[madeCells]
 | succ n e=>
   have:(madeCells z ((n+1)*k)).toList=(madeCells z (n*k)).toList++z.toList:=by
    unfold madeCells;simp only[Array.toList_map,Array.toList_range];rw[show(n+1)*k=n*k+k by grind,List.range_add,vi,va];congr 1;apply List.ext_getElem
    all_goals simp_all[xb]
   grind[List.replicate_succ']
theorem kt{d F x2 T ty pos af y E k b z n}{α:Type}{f:α->Ly}{zx:α}{xs:List α}(p:iW b zx n=some xs)(I:X.P.underlying T=some (.slice E))(H:eU X.P E k b z)(C:Zr (f zx) z.cells.toList)(hk:(f zx).sz=k)(J:Nat.blt 0 k=true)(M:mm y=none)
 (hd:Nat.blt d X.N=true) (s:ac st F (ab n)) (t:ac st x2 (ab n)) :
 ax X st mm ⟨some d,.makeSlice T F x2,ty,pos,af,none⟩ [(d,.own y)] [(y,.sl E k (xs.map f))]:=by
 have B:0<k:=oo
 unfold iW at p;split at p;rename_i K;obtain⟨q,L,g⟩:=K;cases p;obtain⟨i,hi,v,r,j⟩:=H;have x:z.cells.size=k:=by have:=Ly.hold_sz _ _ (C default (λ_=>False) (λ_=>none));grind
 refine qK hd M rfl λa w γ A=>?_;obtain⟨N,_⟩:=s.val A;obtain⟨O,_⟩:=t.val A;have W:=run_make (P:=X.P) w T E i z I hi v .i64 .i64 n n q oh (by rw[j,Int.mul_comm];omega) g;refine⟨.slice (some ⟨w.heap.size,0,none⟩) n.toNat n.toNat,w.alloc (.cells (madeCells z.cells (n.toNat*i.size)) E),by simp_all[execOp],rfl,rfl,rfl,pw _ _ _,rfl,λS γ' U V u=>?_,by simp[aC]⟩;have hcells:(madeCells z.cells (n.toNat*i.size)).toList=(List.replicate n.toNat z.cells.toList).flatten:=by grind[Q93]
 have e:(List.replicate n.toNat zx).map f=List.replicate n.toNat (f zx):=oh
 refine⟨_,(List.replicate n.toNat z.cells.toList).flatten,u,⟨?_,.inr ⟨w.heap.size,n.toNat,_,oh,xu _,tD _ _,oh,by grind[maxLen],by rw[size_madeCells,r],?_⟩⟩,?_,?_⟩;simp[x];simp_all[xc];rw[e];exact UV C _ _ _ _;grind;grind
def jG(st:Nat->Option Ly)(k:Nat):Nat->List (Nat×Operand)->List Ly->Prop
 | _,[],[]=>True
 | j,(i,x)::d,ly::ls=>i=j/\ac st x ly/\ly.sz=k/\ly.lies=true/\jG st k (j+1) d ls
 | _,_,_=>False
theorem VA(vs:List Value):∀(cells:Array Value) (off n:Nat),off+n+vs.length<=cells.size ->
 ((vs.zipIdx n).foldl (λcs (c,j)=>cs.setIfInBounds (off+j) c) cells).toList=cells.toList.take (off+n)++vs++cells.toList.drop (off+n+vs.length):=by
 induction vs with
 | nil=>simp
 | cons v vs d=>
   intro cells off n h;simp only[xd] at h;rw[List.zipIdx_cons,vw,d _ off (n+1) ol];simp only[Array.toList_setIfInBounds,xd];grind[List.take_succ_eq_append_getElem,List.take_set_of_le,List.drop_set_of_lt]
theorem VB{a w γ k}(hi:bq X st mm a w γ):∀(d:List (Nat×Operand)) (ls:List Ly) (j:Nat) (cells:Array Value) ,jG st k j d ls->(j+d.length)*k<=cells.size ->
 ∃ cells' cs,Instr.fill (λi=>some (i*k,k)) cells (d.map λ(i,x)=>(i,a.eval x))=some cells'/\cells'.size=cells.size/\Ly.holds w (X.S γ mm) γ ls cs/\cs.length=d.length*k/\cells'.toList=cells.toList.take (j*k)++cs++cells.toList.drop ((j+d.length)*k)
 | [],[],j,cells,_,_=>⟨cells,[],oe,rfl,rfl,oh,oh⟩
 | (i,x)::d,ly::ls,j,cells,h,f=>by
   obtain⟨rfl,y,E,v,h⟩:=h;have p:=Ly.hold_of_val v (y.val hi);have g:(a.eval x).cells.size=k:=by have:=Ly.hold_sz _ _ p;grind
   simp only[xd] at f;have C:i*k+k<=cells.size:=ol
   have hfold:=VA (a.eval x).cells.toList cells (i*k) 0 ol;simp only[xg,Array.length_toList,g] at hfold;let cells1:=((a.eval x).cells.toList.zipIdx 0).foldl (λcs (c,j)=>cs.setIfInBounds (i*k+j) c) cells;have e:cells1.toList=cells.toList.take (i*k)++(a.eval x).cells.toList++cells.toList.drop (i*k+k):=hfold;have n:cells1.size=cells.size:=by have:=yj List.length e;grind
   obtain⟨cells',cs,g1,B,g3,g4,u⟩:=VB hi d ls (i+1) cells1 h ol;refine⟨cells',(a.eval x).cells.toList++cs,?_,om,⟨_,_,rfl,p,g3⟩,ol,?_⟩;simp only[xt,Instr.fill];rw[oq ol];grind[Array.toList_zipIdx];rw[u,e];have r:(i+1)*k=i*k+k:=ol
   have s:(i+1+d.length)*k=i*k+k+d.length*k:=ol
   have t:(i+(d.length+1))*k=i*k+k+d.length*k:=ol
   have q:(cells.toList.take (i*k)++(a.eval x).cells.toList).length=i*k+k:=ol
   rw[r,s,xd,t,List.take_left' q];have A:(cells.toList.take (i*k)++(a.eval x).cells.toList++cells.toList.drop (i*k+k)).drop (i*k+k+d.length*k)=cells.toList.drop (i*k+k+d.length*k):=by rw[List.drop_append,q,show i*k+k+d.length*k - (i*k+k)=d.length*k by omega,xl om,ue,xi]
   grind
 | [],_::_,_,_,h,_=>h.elim
 | (_,_)::_,[],_,_,h,_=>h.elim
end aG
def gy{α:Type}(xs d:List α):List α:=d.take xs.length++xs.drop d.length
section aG
variable {X:Cx}{st:Nat->Option Ly}{mm:Nat->Option Ct}
def Dc(mm:Nat->Option Ct)(d:Ly)(k:Nat)(ls:List Ly):Prop:=d=bA k ls\/∃ id E,d=.own id/\mm id=some (.sl E k ls)
theorem M6{s k ls x a w γ}(n:bq X st mm a w γ)(h:Dc mm s k ls)(r:ac st x s):
 (a.eval x=.slice none 0 0/\ls=[])\/(∃ b o cap cs,a.eval x=.slice (some ⟨b,o,none⟩) ls.length cap/\ls.length<=cap/\cap<=maxLen/\b<w.heap.size /\
   (∀ j u,cs[j]?=some u->w.cell? ⟨b,o+j,none⟩=some u)/\Ly.holds w (X.S γ mm) γ ls cs/\∀ ly∈ls,ly.sz=k)\/(ls=[]/\∃ t,a.eval x=.slice (some t) 0 0):=by
 rcases h with rfl | ⟨id,E,rfl,hm⟩;rcases r.val n with ⟨d,e⟩ | ⟨b,o,cap,cs,d,e,f,i,C,q,F,H⟩ | h;grind;exact .inr (.inl ⟨b,o,cap,cs,d,e,f,i,q,Ly.holds_mono (Kp.refl _ _) ol (λ_ _ h=>by cases h) _ _ F,H⟩);grind;obtain⟨v,cs,p,⟨J,y⟩,A,B⟩:=kr n hm;obtain⟨I,_⟩:=r.val n;rw[I] at p;simp at p;rcases y with ⟨d,L⟩ | ⟨g,cap,aH,d,_,e,f,i,C,q⟩;grind;refine .inr (.inl ⟨g,0,cap,cs,ol,f,i,?_,λj u K=>?_,A,B⟩);grind;rw[Xc e,<-xq,xx];grind
theorem VC{P:Program}(w:World)(base:Nat)(T ty E:TypeId)(i:TypeInfo)(k:Nat)(d:P.underlying T=some (.slice E))(hi:P.info? E=some i)(v:Value)(n:Nat)(cs:List Value)(h:w.ownsRow base E k v n cs)(e:Addr):
 (Builtin.append_ #[T,T] ty #[v,.slice (some e) 0 0]).run P w=.ok v w:=by
 rcases h.2 with ⟨rfl,rfl⟩ | ⟨g,cap,aH,rfl,_,_,f,_⟩;simp[Builtin.append_,underlying,d,sizeOf,typeInfo,hi,Builtin.lenOf,Builtin.firstCells,loadCells,loadCellsFrom];simp[Builtin.append_,underlying,d,sizeOf,typeInfo,hi,Builtin.lenOf,Builtin.firstCells,loadCells,loadCellsFrom,storeCells,f]
theorem HH{w S γ}:∀ {e d:List Ly}{c1 c2:List Value},Ly.holds w S γ e c1->Ly.holds w S γ d c2->Ly.holds w S γ (e++d) (c1++c2)
 | [],d,c1,c2,f,g=>by grind[Ly.holds]
 | ly::e,d,c1,c2,f,g=>by obtain⟨i,j,rfl,g1,k⟩:=f;exact⟨i,j++c2,oh,g1,HH k g⟩
theorem HI{k:Nat}:∀ {l:List Ly},(∀ ly∈l,ly.sz=k)->Ly.szs l=l.length*k
 | [],_=>by simp[Ly.szs]
 | ly::l,h=>by simp[Ly.szs,h ly ve,HI (λx d=>h x (vn _ d)),Nat.succ_mul];omega
theorem app{d s x T ty pos af y id E k b z lx}{α:Type}{f:α->Ly}{xs n zs:List α}(hz:az b xs n=some zs)(hm:mm id=some (.sl E k (xs.map f)))(I:X.P.underlying T=some (.slice E))(hE:eU X.P E k b z)(W:z.cells.size=k)(hk0:Nat.blt 0 k=true)
 (hs:ac st s (.own id)) (hx:ac st x lx) (hF:Dc mm lx k (n.map f)) (hy:mm y=none) (hd:Nat.blt d X.N=true) :
 ax X st mm ⟨some d,.call { callee:=.builtin .append,args:=#[s,x],argTypes:=#[T,T] },ty,pos,af,none⟩ [(d,.own y)] [(y,.sl E k (zs.map f)),(id,.gone)]:=by
 intro a w γ K Q Z hK;unfold az at hz;split at hz
 case isFalse=>cases hz
 rename_i hle;obtain⟨hbytes,h63⟩:=hle;cases hz;obtain⟨i,hi,F,r,C⟩:=hE;have t:0<k:=oo
 obtain⟨v,cs,e1,H,e3,e4⟩:=kr Z hm;obtain⟨hv,hv1⟩:=hs.val Z;have hvs:a.eval s=v:=ol
 rw[xf] at H
 have eG:∀ v' w' news,(Builtin.append_ #[T,T] ty #[v,a.eval x]).run X.P w=.ok v' w'->w'.ownsRow 0 E k v' (xs.length+n.length) (cs++news)->w.grownBy w' v.ownBlock->Ly.holds w (X.S γ mm) γ (n.map f) news ->
  (∀ b,aC v'=some b->(aC v=some b\/w.heap.size<=b))->(∀ ly∈n.map f,ly.sz=k) ->
  Oper.wp X.P ⟨some d,.call { callee:=.builtin .append,args:=#[s,x],argTypes:=#[T,T] },ty,pos,af,none⟩ a w K Q:=by
  intro v' w' news hr A J hh hb hz2;have V:(execOp a.eval ⟨some d,.call { callee:=.builtin .append,args:=#[s,x],argTypes:=#[T,T] },ty,pos,af,none⟩).run X.P w=.ok (.value v') w':=by simp_all[execOp,resolve,invoke,builtin]
  unfold Oper.wp;rw[V];have hob:v.ownBlock=aC v:=by rcases H.2 with ⟨rfl,_⟩ | ⟨g,cap,aH,rfl,_⟩<;>rfl
  have hk:Kp (λb=>aC v=some b) w w':=⟨J.size,λb p hn=>J.block b p ol⟩
  have hkS:Kp (X.S γ mm) w w':=⟨J.size,λb p hn=>hk.2 b p (λh=>hn (.inr ⟨id,_,v,hm,rfl,e1,h⟩))⟩
  have U:v'.oneCell'=true:=by rcases A.2 with ⟨rfl,_⟩ | ⟨g,cap,aH,rfl,_⟩<;>rfl
  have N:=Z.replace J.os J.tape J.output hm rfl e1 hk (y:=y) (ct:=.sl E k ((xs++n).map f)) (v':=v') hy rfl
   (λS γ' hS hng hy'=>by
    refine⟨v',cs++news,hy',ol,?_,?_⟩
    all_goals grind[Ly.holds_mono,HH])
   (λb p=>⟨hb b p,by
    rcases A.2 with ⟨rfl,_⟩ | ⟨g,cap,aH,rfl,_,h2,_⟩
    all_goals grind[aC]⟩)
  exact hK _ _ _ (N.put (d:=d) (v:=v') (ly:=.own y) oo ⟨by simp[bq.gset],U⟩)
 rcases M6 Z hF hx with ⟨h1,h2⟩ | ⟨bb,o,cap,news,h1,h2,h3,h4,h5,Y,h7⟩ | ⟨h2,ad,h1⟩
 rotate_left 2
 . have:n=[]:=oo
   subst this;have hr:=VC (P:=X.P) w 0 T ty E i k I hi v xs.length cs H ad;exact eG v w [] ol ol ⟨rfl,rfl,rfl,xe _,oh⟩ oe ol oh
 . have:n=[]:=oo
   subst this;have hr:=run_append_owned_none (P:=X.P) w 0 T ty E i k I hi v xs.length cs H;exact eG v w [] ol ol ⟨rfl,rfl,rfl,xe _,oh⟩ oe ol oh
 . have O:news.length=n.length*k:=by
    have:=Ly.holds_sz _ _ Y;grind[HI]
   rw[xf] at h1
   obtain⟨v',w',r1,r2,r3,r4⟩:=run_append_own (P:=X.P) w 0 T ty E i z k b I hi F r C W t v xs.length cs H ⟨bb,o,none⟩ n.length cap news O
    (by grind[fc]) (Ly.oneCell_of_holds _ _ Y) (by grind[maxLen]) hbytes oh
   refine eG v' w' news ol r2 r3 Y (λbk hb=>?_) h7;have B:Src X.P i.size T (.slice (some ⟨bb,o,none⟩) n.length cap) n.length news w:=by grind[Src.ofSlice,fc,Ly.oneCell_of_holds]
   rcases H with ⟨M,⟨rfl,hn0⟩ | ⟨g,e,aH,rfl,_,g2,g3,g4,g5,g6⟩⟩
   . 
    obtain⟨v2,w2,q1,q2,_,_⟩:=run_append_own (P:=X.P) w w.heap.size T ty E i z k b I hi F r C W t (.slice none 0 0) xs.length cs ⟨M,ol⟩ ⟨bb,o,none⟩ n.length cap news O
     (by grind[fc]) (Ly.oneCell_of_holds _ _ Y) ol hbytes oh
    rw[r1] at q1;obtain⟨rfl,rfl⟩:v'=v2/\w'=w2:=ol
    rcases q2.2 with ⟨rfl,_⟩ | ⟨g,cap1,cur1,rfl,hge,_⟩
    all_goals grind[aC]
   . by_cases hroom:xs.length+n.length<=e
     . have q:=run_append_room_src (P:=X.P) w T T ty E i I hi g 0 xs.length e _ n.length news B hroom
        (λj L=>by
         rw[Xc g2,r];have:0+xs.length*k+j<aH.size:=by rw[g5];have:=vd k hroom;grind
         grind)
        (λj L=>by grind[World.frozen?])
       rw[r1] at q;simp at q;rw[q.1] at hb;exact .inl hb
     . have hold:(Builtin.firstCells i.size xs.length (.slice (some ⟨g,0,none⟩) xs.length e)).run X.P w.drew=.ok cs.toArray w.drew:=
        run_firstCells_some w.drew i.size xs.length ⟨g,0,none⟩ xs.length e cs (by rw[r];exact M) (λj u L=>by
         rw[fc,xx];have:w.drew.cell? ⟨g,j,none⟩=w.cell? ⟨g,j,none⟩:=rfl;rw[this,Xc g2,<-xq];rw[<-g6,vf] at L;split at L
         . exact L
         . cases L)
       have q:=run_append_grow_src (P:=X.P) w T T ty E i z I hi F (some ⟨g,0,none⟩) xs.length e cs hold _ n.length news B om om (growslice_fits om (by rw[C];exact hbytes));grind[aC]
end aG
section aG
variable {X:Cx}{st:Nat->Option Ly}{mm:Nat->Option Ct}
theorem VD{d T len parts ty pos af y E k b z ls}(B:X.P.underlying T=some (.slice E))(A:eU X.P E k b z)(_:z.cells.size=k)(n:parts.length=len)(q:ls.length=len)(u:Nat.ble (len*k) 16777216=true)(N:Nat.blt 0 k=true)
 (P:jG st k 0 parts ls) (V:mm y=none) (hd:Nat.blt d X.N=true) :
 ax X st mm ⟨some d,.buildSlice T len ⟨parts⟩,ty,pos,af,none⟩ [(d,.own y)] [(y,.sl E k ls)]:=by
 have C:=ym u;have g:0<k:=oo
 refine qK hd V rfl λa w γ J=>?_;have e:=A;obtain⟨i,hi,f,U,L⟩:=A;let zc:Array Value:=if len*k=0 then #[] else z.cells
 let cells0:Array Value:=(Array.range (len*k)).map (λx=>zc[x%zc.size]!);obtain⟨cells',cs,g1,H,g3,g4,I⟩:=VB J parts ls 0 cells0 P ol;have t:cells'.toList=cs:=ol
 refine⟨.slice (some ⟨w.heap.size,0,none⟩) len len,w.alloc (.cells cells' E),?_,rfl,rfl,rfl,pw _ _ _,rfl,λS γ' K M v=>?_,by simp_all[aC]⟩;have O:¬ 16777216<len*k:=om
 simp only[execOp];have hzero:∀ w:World,(if len*k=0 then (pure #[]:Sem (Array Value)) else do pure (<-zeroValue E).cells).run X.P w=.ok zc w:=by intro w;by_cases h0:len*k=0;simp[h0,zc];simp[h0,zc,qJ e]
 have hfill:Instr.fill (λi=>some (i*k,k)) cells0 (parts.map λ(i,x)=>(i,a.eval x))=some cells':=g1;by_cases h0:len*k=0;have f:zc=#[]:=ol
 simp[Instr.buildSlice,underlying,B,W4 e,h0];simp_all[Array.range,newRow];have f:zc=z.cells:=ol
 simp[Instr.buildSlice,underlying,B,W4 e,qJ e,O,h0];have F:Instr.fill (λi=>some (i*k,k)) (Array.map (λx=>z.cells[x%z.cells.size]!) (Array.range (len*k))) (List.map (λx=>(x.fst,a.eval x.snd)) parts)=some cells':=by rw[<-f];exact g1
 simp_all[newRow];refine⟨_,cs,v,⟨ol,.inr ⟨w.heap.size,len,cells',by rw[q],xu _,tD _ _,om,?_,?_,?_⟩⟩,Ly.holds_mono (pw _ _ _) K M _ _ g3,?_⟩;unfold maxLen;have:len<=len*k:=Nat.le_mul_of_pos_right _ g;omega;grind;grind;clear g1 H g3 g4 I t q n;have:∀(s:List (Nat×Operand)) (ls:List Ly) (j:Nat),jG st k j s ls->∀ ly∈ls,ly.sz=k:=by
  intro s
  induction s with
  | nil=>intro ls j h ly r;cases ls with | nil=>cases r | cons _ _=>exact h.elim
  | cons p s Z=>
    intro ls j h ly r;obtain⟨i,x⟩:=p;cases ls with
    | nil=>grind
    | cons l ls=>
      obtain⟨_,_,W,_,Y⟩:=h;grind
 grind
theorem M7{α:Type}{l r:List α}{lo hi:Int}(h:sub l lo hi=some r):0<=lo/\lo<=hi/\hi<=l.length/\r=(l.take hi.toNat).drop lo.toNat:=by grind[sub]
def iw(st:Nat->Option Ly)(p:Int):Option Operand->Int->Prop
 | none,q=>q=p
 | some x,q=>∃ d,ac st x (.cell (gX d q))
theorem tH{a w γ p q o}(e:bq X st mm a w γ)(h:iw st p o q):(o=none/\q=p)\/∃ x d,o=some x/\a.eval x=.int d q:=by
 cases o with
 | none=>exact .inl ⟨rfl,h⟩
 | some x=>obtain⟨d,h⟩:=h;exact .inr ⟨x,d,rfl,((ac.val e h:Ly.val _ _ _ _ _)).1⟩
theorem pz{P:Program}{w:World}{isS:Bool}{len cap:Nat}{lo hi:Option Value}{p q:Int}(f:(lo=none/\p=0)\/∃ d,lo=some (.int d p))(e:(hi=none/\q=len)\/∃ d,hi=some (.int d q))
 (h0:0<=p) (j:p<=q) (k:q<=cap):(Instr.sliceBounds isS len cap lo hi none).run P w=.ok (p.toNat,q.toNat,cap) w:=by
 have g:(0<=q/\q<=(cap:Int)):=om
 have i:(0<=p/\p<=((q.toNat:Nat):Int)):=om
 rcases f with ⟨rfl,rfl⟩ | ⟨r,rfl⟩<;>rcases e with ⟨rfl,rfl⟩ | ⟨n,rfl⟩ <;>
  simp_all [Instr.sliceBounds,Instr.sliceBound,asIntOf]
theorem oD{w S γ k}:∀ {l:List Ly}{cs:List Value}(i:Nat),Ly.holds w S γ l cs->(∀ ly∈l,ly.sz=k)->Ly.holds w S γ (l.take i) (cs.take (i*k))/\Ly.holds w S γ (l.drop i) (cs.drop (i*k))
 | l,cs,0,h,_=>by grind[Ly.holds]
 | [],cs,i+1,h,_=>by grind[Ly.holds]
 | ly::l,cs,i+1,h,p=>by
   obtain⟨c1,c2,rfl,f,g⟩:=h;obtain⟨g1,d⟩:=oD i g (λx n=>p x (vn _ n));have j:c1.length=k:=by grind[Ly.hold_sz,List.mem_cons_self]
   have e:(i+1)*k=c1.length+i*k:=ol
   rw[e];simp only[yv,vo,List.take_length_add_append,List.drop_length_add_append];exact⟨⟨c1,_,rfl,f,g1⟩,d⟩
theorem HJ{d x lo hi T ty pos af E k b z p q}{α:Type}{f:α->Ly}{xs L:List α}(U:sub xs p q=some L)(v:X.P.underlying T=some (.slice E))(t:eU X.P E k b z)
 (hd:Nat.blt d X.N=true) (V:ac st x (bA k (xs.map f))) (B:iw st 0 lo p) (A:iw st xs.length hi q) :
 ax X st mm ⟨some d,.slice T x lo hi none,ty,pos,af,none⟩ [(d,bA k (L.map f))] []:=
 Wv hd λa w γ y=>by
  obtain⟨h0,O,C,rfl⟩:=M7 U;have g:(lo.map a.eval=none/\p=0)\/∃ r,lo.map a.eval=some (.int r p):=by
   rcases tH y B with ⟨rfl,h⟩ | ⟨x,r,rfl,h⟩
   all_goals grind
  have e:(hi.map a.eval=none/\q=(xs.length:Nat))\/∃ r,hi.map a.eval=some (.int r q):=by
   rcases tH y A with ⟨rfl,h⟩ | ⟨x,r,rfl,h⟩
   all_goals grind
  rcases V.val y with ⟨n,S⟩ | ⟨s,o,cap,cs,n,W,k2,I,J,k5,Y,K⟩ | ⟨S,M,n⟩
  rotate_left 2
  . have:xs=[]:=oo
    subst this;simp only[yn] at C;obtain rfl:q=0:=om
    obtain rfl:p=0:=om
    refine⟨.slice (some M) 0 0,?_,.inr oh⟩;have:=pz (P:=X.P) (w:=w) (isS:=true) (len:=0) (cap:=0) g e om om om;simp only[execOp,n];simp[Instr.sliceAt,Instr.slice,underlying,v,this,W4 t]
  . have:xs=[]:=oo
    subst this;simp only[yn] at C;obtain rfl:q=0:=om
    obtain rfl:p=0:=om
    refine⟨.slice none 0 0,?_,.inl oh⟩;have:=pz (P:=X.P) (w:=w) (isS:=true) (len:=0) (cap:=0) g e om om om;simp only[execOp,n];simp[Instr.sliceAt,Instr.slice,underlying,v,this,W4 t]
  . rw[xf] at n W
    have F:=pz (P:=X.P) (w:=w) (isS:=true) (len:=xs.length) (cap:=cap) g e h0 O om;have i:(((xs.take q.toNat).drop p.toNat).map f).length=q.toNat - p.toNat:=ol
    by_cases H:cap=p.toNat
    . subst H
      refine⟨.slice (some ⟨s,o,none⟩) (q.toNat - p.toNat) (p.toNat - p.toNat),?_,.inr (.inl ⟨s,o,p.toNat - p.toNat,[],by rw[i],om,om,I,J,oh,?_,?_⟩)⟩
      . simp only[execOp,n]
        simp[Instr.sliceAt,Instr.slice,underlying,v,F,W4 t]
      . have:((xs.take q.toNat).drop p.toNat).map f=[]:=ol
        rw[this];rfl
      grind
    . obtain⟨g1,_⟩:=oD q.toNat Y K
      obtain⟨_,N⟩:=oD p.toNat g1 (λly h=>K ly (List.mem_of_mem_take h));refine⟨.slice (some ⟨s,o+p.toNat*k,none⟩) (q.toNat - p.toNat) (cap - p.toNat),?_,.inr (.inl ⟨s,o+p.toNat*k,cap - p.toNat,_,by rw[i],om,om,I,J,λj u Z=>?_,by rw[List.map_drop,List.map_take];exact N,?_⟩)⟩
      . simp only[execOp,n]
        simp[Instr.sliceAt,Instr.slice,underlying,v,F,W4 t,H,fc]
      all_goals grind
theorem fN{d x lo hi T ty pos af p q s t}(B:sub s p q=some t)(y:X.P.underlying T=some .string)
 (hd:Nat.blt d X.N=true) (E:ac st x (am s)) (n:iw st 0 lo p) (k:iw st s.length hi q) :
 ax X st mm ⟨some d,.slice T x lo hi none,ty,pos,af,none⟩ [(d,am t)] []:=
 Wv hd λa w γ j=>by
  obtain⟨h0,u,v,rfl⟩:=M7 B;have g:(lo.map a.eval=none/\p=0)\/∃ i,lo.map a.eval=some (.int i p):=by
   rcases tH j n with ⟨rfl,h⟩ | ⟨x,i,rfl,h⟩
   all_goals grind
  have f:(hi.map a.eval=none/\q=(s.length:Nat))\/∃ i,hi.map a.eval=some (.int i q):=by
   rcases tH j k with ⟨rfl,h⟩ | ⟨x,i,rfl,h⟩
   all_goals grind
  obtain⟨C,F⟩:=E.val j;have A:=pz (P:=X.P) (w:=w) (isS:=false) (len:=s.length) (cap:=s.length) g f h0 u v;have e:(ByteArray.mk s.toArray).size=s.length:=rfl;refine⟨.string ⟨((s.take q.toNat).drop p.toNat).toArray⟩,?_,rfl,ol⟩;have r:(ByteArray.mk s.toArray).extract p.toNat q.toNat=⟨((s.take q.toNat).drop p.toNat).toArray⟩:=by apply ByteArray.ext;grind[ByteArray.data_extract,List.drop_take]
  simp only[execOp,C];simp[Instr.sliceAt,Instr.slice,underlying,y,e,A,r]
end aG
def nC(id k:Nat)(ls:List Ly)(ly d:Ly):Prop:=∀ w S (γ:Nm) v,γ id=some v->(xP k ls).p w S v->(∀ cs,ly.hold w S γ cs->d.hold w S γ cs)/\(∀ v,ly.val w S γ v->d.val w S γ v)
def pA(id k:Nat)(ls:List Ly)(l l':List Ly):Prop:=∀ w S (γ:Nm) v,γ id=some v->(xP k ls).p w S v->(∀ cs,Ly.holds w S γ l cs->Ly.holds w S γ l' cs)
theorem nD{id k ls ly}:nC id k ls ly ly:=λ_ _ _ _ _ _=>oh
theorem VE{id k ls}:nC id k ls (.own id) (bA k ls):=λw S γ v f e=>
 ⟨λcs h=>by obtain⟨u,rfl,d,g⟩:=h;rw[f] at d;simp at d;subst d;exact⟨v,rfl,e⟩,
  λu h=>by obtain⟨d,g⟩:=h;rw[f] at d;simp at d;subst d;exact e⟩
theorem VF{id k ls}:pA id k ls [] []:=λ_ _ _ _ _ _ _ h=>h
theorem VG{id k ls ly d l l'}(i:nC id k ls ly d)(j:pA id k ls l l'):pA id k ls (ly::l) (d::l'):=λw S γ v f e cs h=>by obtain⟨c1,c2,rfl,g1,g⟩:=h;exact⟨c1,c2,rfl,(i w S γ v f e).1 _ g1,j w S γ v f e _ g⟩
theorem VH{id k ls l l'}(h:pA id k ls l l'):nC id k ls (.agg l) (.agg l'):=λw S γ v e d=>
 ⟨λcs g=>by simp only[Ly.hold] at g |-;exact h w S γ v e d _ g,λu g=>by simp only[Ly.val] at g |-;obtain⟨cs,rfl,g⟩:=g;exact⟨cs,rfl,h w S γ v e d _ g⟩⟩
def xS(id k:Nat)(ls:List Ly)(l:List (Nat×Ly)):List (Nat×Ly)->Prop
 | []=>True
 | (d,e)::r=>(∃ ly,lk l d=some ly/\nC id k ls ly e)/\xS id k ls l r
def xT(id k:Nat)(ls:List Ly)(m:List (Nat×Ct)):List (Nat×Ct)->Prop
 | []=>True
 | (i,.bx E d)::r=>(Nat.beq id i=false/\∃ ly,lk m i=some (.bx E ly)/\nC id k ls ly d)/\xT id k ls m r
 | _::_=>False
theorem xS.get{id k ls l}:∀ {r:List (Nat×Ly)},xS id k ls l r->∀ d e,lk r d=some e->∃ ly,lk l d=some ly/\nC id k ls ly e
 | [],_,d,e,h=>by cases h
 | (i,x)::r,g,d,e,h=>by simp only[lk] at h;cases f:Nat.beq i d;rw[f] at h;exact xS.get g.2 d e h;rw[f] at h;have:i=d:=xy f;subst this;simp at h;subst h;exact g.1
theorem xT.get{id k ls m}:∀ {r:List (Nat×Ct)},xT id k ls m r->∀ i c,lk r i=some c->∃ E ly e,id≠i/\c=.bx E e/\lk m i=some (.bx E ly)/\nC id k ls ly e
 | [],_,d,e,h=>by cases h
 | (i,x)::r,g,d,c,h=>by
   cases x with
   | bx E e=>
     simp only[lk] at h;cases f:Nat.beq i d;rw[f] at h;exact xT.get g.2 d c h;rw[f] at h;have:i=d:=xy f;subst this;simp at h;subst h;obtain⟨⟨j,ly,n,p⟩,_⟩:=g;grind
   | _=>exact g.elim
theorem M8{α:Type}{st:Nat->Option α}{el i}(h:lk el i=none):up st el i=st i:=by simp[up,h]
theorem VI{α:Type}{st:Nat->Option α}{el i x}(h:lk el i=some x):up st el i=some x:=by simp[up,h]
theorem frz{R:Type}{X:Cx}{l:List (Nat×Ly)}{m:List (Nat×Ct)}{md:Option R}{G:R->Act->World->Prop}{id E k ls}(U:List (Nat×Ly))(s:List (Nat×Ct))(S:lk m id=some (.sl E k ls))(O:it ls)
 (P:xS id k ls l U) (C:xT id k ls m s) (K:Sq X (U++l) (s++(id,.gone)::m) md G):Sq X l m md G:=by
 intro r a w γ hr hi;refine K r a w γ hr ?_;obtain⟨v,cs,N,⟨e2,e3⟩,e4,e5⟩:=kr hi S;have hd:=hi.drop id;have hS:∀ b,X.S γ (up (lk m) [(id,.gone)]) b->X.S γ (lk m) b:=by rintro b (h | ⟨i,n,u,p,B,t,y⟩);exact .inl h;rw[Xb] at p;by_cases e:id=i;grind[Ct.alive];simp[e] at p;exact .inr ⟨i,n,u,p,B,t,y⟩
 have Z:(xP k ls).p w (X.S γ (up (lk m) [(id,.gone)])) v:=by rcases e3 with ⟨rfl,hn⟩ | ⟨g,cap,aH,rfl,_,B,t,y,W,Y⟩;exact .inl ol;have hmine:=hi.mine g ⟨id,_,_,S,rfl,N,rfl⟩;refine .inr (.inl ⟨g,0,cap,cs,rfl,t,y,hmine.2.1,?_,λj u hj=>?_,Ly.holds_mono (Kp.refl _ _) ol (Ng.refl _) _ _ ((O w _ γ (λ_=>none)).1 _ e4),e5⟩);rintro(h | ⟨i,n,u,I,M,T,k4⟩);grind;rw[Xb] at I;by_cases e:id=i;grind[Ct.alive];simp[e] at I;exact e (hi.apart id i _ n _ u g S rfl I M N T rfl k4);rw[Xc B,<-xq,xx];grind
 have F:lk (s++(id,.gone)::m)=up (up (lk m) [(id,.gone)]) s:=by grind[co]
 have J:∀ b,Ow γ (lk (s++(id,.gone)::m)) b↔Ow γ (up (lk m) [(id,.gone)]) b:=by
  intro b;rw[F];constructor;rintro⟨i,c,u,p,B,t,y⟩;simp only[up] at p;cases f:lk s i with
  | none=>rw[f] at p;exact⟨i,c,u,p,B,t,y⟩
  | some n=>
    rw[f] at p;simp at p;subst p;obtain⟨E',ly,A,g0,g1,H,g3⟩:=C.get i n f;exact⟨i,_,u,by rw[Xb,oq g0];exact H,rfl,t,y⟩
  rintro⟨i,c,u,p,B,t,y⟩;cases f:lk s i with
  | none=>exact⟨i,c,u,by grind[up],B,t,y⟩
  | some n=>
    obtain⟨E',ly,A,g0,g1,H,g3⟩:=C.get i n f;exact⟨i,n,u,by grind[up],by rw[g1];rfl,t,y⟩
 have L:X.S γ (lk (s++(id,.gone)::m))=X.S γ (up (lk m) [(id,.gone)]):=by funext b;exact propext ⟨λh=>nt h (λx=>x) (J b).1,λh=>nt h (λx=>x) (J b).2⟩
 refine { hd with fresh:=?_,cts:=?_,apart:=?_,mine:=λb hb=>hd.mine b ol,sts:=?_ };intro i h;rw[F] at h;simp only[up] at h;cases f:lk s i with
 | none=>rw[f] at h;exact hd.fresh i h
 | some n=>grind
 intro i c h;rw[L];rw[F] at h;cases f:lk s i with
 | none=>rw[M8 f] at h;exact hd.cts i c h
 | some n=>
   rw[VI f] at h;simp at h;subst h;obtain⟨E',ly,A,g0,rfl,H,g3⟩:=C.get i n f;obtain⟨g,aH,I,M,T⟩:=hd.cts i (.bx E' ly) (by simp_all[Xb]);exact⟨g,aH,I,M,(g3 w _ γ v N Z).1 _ T⟩
 intro i i' c1 c2 u u' b p B t y W Y h7 h8;have tr:∀ i c,lk (s++(id,.gone)::m) i=some c->c.alive=true->∃ n,up (lk m) [(id,.gone)] i=some n/\n.alive=true:=by
  intro i c h hal;rw[F] at h;cases f:lk s i with
  | none=>grind[M8]
  | some n=>
    obtain⟨E',ly,A,g0,g1,H,g3⟩:=C.get i n f;exact⟨_,by rw[Xb,oq g0];exact H,rfl⟩
 obtain⟨d1,q1,q2⟩:=tr i c1 p B;obtain⟨d2,q3,q4⟩:=tr i' c2 t y;exact hd.apart i i' d1 d2 u u' b q1 q2 q3 q4 W Y h7 h8;intro d ly q;rw[L];rw[<-co] at q;cases f:lk U d with
 | none=>rw[M8 f] at q;exact hd.sts d ly q
 | some A=>
   rw[VI f] at q;simp at q;subst q;obtain⟨V,g1,H⟩:=P.get d A f;obtain⟨u,I,M⟩:=hd.sts d V g1;exact⟨u,I,(H w _ γ v N Z).2 _ M⟩
section aG
variable {X:Cx}{st:Nat->Option Ly}{mm:Nat->Option Ct}
theorem cpy{d t s T u ty pos af id E k b z lx}{α:Type}{f:α->Ly}{xs e:List α}(L:mm id=some (.sl E k (xs.map f)))(F:X.P.underlying T=some (.slice E))(hE:eU X.P E k b z)
 (ht:ac st t (.own id)) (hs:ac st s lx) (hF:Dc mm lx k (e.map f)) (hd:Nat.blt d X.N=true) :
 ax X st mm ⟨some d,.call { callee:=.builtin .copy,args:=#[t,s],argTypes:=#[T,u] },ty,pos,af,none⟩ [(d,ab (min e.length xs.length:Nat))] [(id,.sl E k ((gy xs e).map f))]:=by
 intro a w γ K Q A W;have q:=W4 (P:=X.P) hE;obtain⟨v,cs,B,y,e3,e4⟩:=kr A L;obtain⟨hv,hv1⟩:=ht.val A;have N:a.eval t=v:=ol
 rw[xf] at y;have S:∀ n:Nat,n<=maxLen->IntKind.i64.min<=(n:Int)/\(n:Int)<=IntKind.i64.max:=λn h=>ge h;have none_:(min e.length xs.length=0)->(Builtin.copy_ #[T,u] ty #[v,a.eval s]).run X.P w=.ok (.int .i64 (0:Nat)) w->Oper.wp X.P ⟨some d,.call { callee:=.builtin .copy,args:=#[t,s],argTypes:=#[T,u] },ty,pos,af,none⟩ a w K Q:=by
  intro h0 hr;have j:(execOp a.eval ⟨some d,.call { callee:=.builtin .copy,args:=#[t,s],argTypes:=#[T,u] },ty,pos,af,none⟩).run X.P w=.ok (.value (.int .i64 (0:Nat))) w:=by simp_all[execOp,resolve,invoke,builtin]
  unfold Oper.wp;rw[j];have O:gy xs e=xs:=by grind[gy]
  have i:bq X st (up mm [(id,.sl E k ((gy xs e).map f))]) a w γ:=by
   rw[O];have:up mm [(id,.sl E k (xs.map f))]=mm:=by grind[Xb]
   grind
  exact W _ _ _ (i.put (d:=d) (v:=.int .i64 (0:Nat)) oo (by rw[h0];exact⟨rfl,ol⟩))
 rcases M6 A hF hs with ⟨r,C⟩ | ⟨bb,o,cap,news,r,C,h3,h4,h5,V,h7⟩ | ⟨C,ad,r⟩
 rotate_left 2
 . have:e=[]:=oo
   subst this;refine none_ oh ?_;rw[r];rcases y.2 with ⟨rfl,_⟩ | ⟨g,cap,aH,rfl,_⟩<;>simp[Builtin.copy_,underlying,F,Builtin.lenOf,Builtin.firstCells,q,goInt,storeCells,loadCells,loadCellsFrom]
 . have:e=[]:=oo
   subst this;refine none_ oh ?_;rw[r];rcases y.2 with ⟨rfl,_⟩ | ⟨g,cap,aH,rfl,_⟩<;>simp[Builtin.copy_,underlying,F,Builtin.lenOf,Builtin.firstCells,q,goInt,storeCells]
 . rw[xf] at r C
   rcases y with ⟨hcl,⟨rfl,hn⟩ | ⟨g,x,aH,rfl,_,g2,g3,g4,g5,g6⟩⟩
   . simp_all[Builtin.copy_,underlying,Builtin.lenOf,Builtin.firstCells,goInt,loadCells,loadCellsFrom]
   . let n:=Nat.min e.length xs.length
     have hnl:news.length=e.length*k:=by have:=Ly.holds_sz _ _ V;simp_all[HI]
     have hnA:e.length<=xs.length->n=e.length:=ol
     have hnB:xs.length<=e.length->n=xs.length:=ol
     have hn1:n<=e.length:=om
     have hn2:n<=xs.length:=om
     have hnk1:n*k<=news.length:=by simp_all[vd]
     have hnk2:n*k<=cs.length:=by simp_all[vd]
     have Z:cs.length<=aH.size:=ol
     have hload:(loadCells ⟨bb,o,none⟩ (n*k)).run X.P w=.ok (news.take (n*k)).toArray w:=by grind[Hy,List.length_take,loadCells]
     obtain⟨w',p,r1,r2,r3,U,r5,r6,r7⟩:=MY (P:=X.P) (b:=g) (o:=0) (E:=E) (news.take (n*k)) 0 w aH g2 ol (by grind[Ly.oneCell_of_holds,List.mem_of_mem_take]);have j:(execOp a.eval ⟨some d,.call { callee:=.builtin .copy,args:=#[t,s],argTypes:=#[T,u] },ty,pos,af,none⟩).run X.P w=.ok (.value (.int .i64 (n:Nat))) w':=by simp only[execOp,resolve];simp[invoke,builtin,N,r,Builtin.copy_,underlying,F,Builtin.lenOf,Builtin.firstCells,q,goInt];rw[show(e.length.min xs.length)=n from rfl,hload];simp[r1]
     unfold Oper.wp;rw[j];have J:Kp (X.S γ mm) w w':=⟨U.1,λb hb hn=>U.2 b hb (λee=>hn (.inr ⟨id,_,_,L,rfl,B,by rw[ee];rfl⟩))⟩
     obtain⟨a1,_⟩:=oD n V h7;obtain⟨_,a2⟩:=oD n e3 e4;have Y:(gy xs e).length=xs.length:=by grind[gy]
     have hcp:gy xs e=e.take n++xs.drop n:=by
      unfold gy;have e5:e.take xs.length=e.take n:=ol
      have e6:xs.drop e.length=xs.drop n:=by
       rcases Nat.le_total e.length xs.length with h | h
       all_goals simp[*]
      grind
     have hhold:Ly.holds w (X.S γ mm) γ ((gy xs e).map f) (news.take (n*k)++cs.drop (n*k)):=by grind[List.map_take,List.map_drop,HH]
     have M:(news.take (n*k)).length=n*k:=ol
     have hcs:cs=aH.toList.take (xs.length*k):=g6.symm;have I:p.toList.take (xs.length*k)=news.take (n*k)++cs.drop (n*k):=by rw[r3];simp only[fp,xx,List.take_zero,xi,M];grind[List.take_append,List.drop_take]
     have H:Xk w' (X.S γ mm) γ id (.sl E k ((gy xs e).map f)):=by
      refine⟨_,news.take (n*k)++cs.drop (n*k),B,⟨?_,.inr ⟨g,x,p,ol,xu _,r2,ol,g4,?_,?_⟩⟩,Ly.holds_mono J ol (Ng.refl _) _ _ hhold,?_⟩
      . grind
      . have:=yj List.length r3
        grind[fp]
      all_goals grind[List.map_take]
     have i:=A.setc r5 r6 r7 L rfl B rfl U rfl H;exact W _ _ γ (i.put (d:=d) (v:=.int .i64 (n:Nat)) (by simpa using hd) ⟨rfl,ol⟩)
def HK(P:Program)(T:Nat)(pl:List (Nat×Nat)):Prop:=∃ fs,P.underlying T=some (.struct fs)/\(fs.toList.map λf=>(P.info? f.type).map λi=>(f.offset,i.size))=pl.map some
def ie(st:Nat->Option Ly)(pl:List (Nat×Nat)):List (Nat×Operand)->Ly->Ly->Prop
 | [],z,r=>z=r
 | (i,x)::e,z,r=>∃ ly d off,ac st x ly/\ly.lies=true/\Ly.go [i] z=some (d,off)/\pl[i]?=some (off,d.sz)/\ly.sz=d.sz/\ie st pl e (Ly.pu ly [i] z) r
theorem HL{a w γ pl}(hi:bq X st mm a w γ):∀(e:List (Nat×Operand)) (z r:Ly) (cells:Array Value),ie st pl e z r->Ly.hold w (X.S γ mm) γ z cells.toList ->
 ∃ cells',Instr.fill (pl[·]?) cells (e.map λ(i,x)=>(i,a.eval x))=some cells'/\Ly.hold w (X.S γ mm) γ r cells'.toList
 | [],z,r,cells,h,g=>by grind[ie,Instr.fill]
 | (i,x)::e,z,r,cells,h,g=>by
   obtain⟨ly,F,off,n,p,q,s,H,t⟩:=h;have E:=Ly.hold_of_val p (n.val hi);have d:(a.eval x).cells.size=F.sz:=by have:=Ly.hold_sz _ _ E;grind
   obtain⟨a1,u,f,v,I,B,J⟩:=pt [i] q g;have C:=Ly.hold_sz _ _ B;have A:cells.size=a1.length+u.length+f.length:=by have:=yj List.length v;grind
   have hfold:=VA (a.eval x).cells.toList cells off 0 (by simp[d];omega);simp only[xg,Array.length_toList,d] at hfold;let cells1:=((a.eval x).cells.toList.zipIdx 0).foldl (λcs (c,j)=>cs.setIfInBounds (off+j) c) cells;have y:cells1.toList=a1++(a.eval x).cells.toList++f:=ol
   obtain⟨cells',g1,k⟩:=HL hi e _ r cells1 t ol;refine⟨cells',?_,k⟩;simp only[xt,Instr.fill,s];rw[oq ol];grind[Array.toList_zipIdx]
theorem M9{P:Program}{w:World}:∀(fs:List Field) (pl:List (Nat×Nat)),(fs.map λf=>(P.info? f.type).map λi=>(f.offset,i.size))=pl.map some ->
 (fs.mapM (λf=>(do pure (f.offset,<-sizeOf f.type):Sem (Nat×Nat)))).run P w=.ok pl w
 | [],[],_=>oh
 | f::fs,(o,s)::pl,h=>by
   simp only[xt,List.cons.injEq] at h;obtain⟨d,e⟩:=h;cases hi:P.info? f.type with
   | none=>grind
   | some i=>
     rw[hi] at d;simp at d;obtain⟨rfl,rfl⟩:=d;have g:(sizeOf f.type).run P w=.ok i.size w:=by simp[sizeOf,typeInfo,hi]
     simp only[List.mapM_cons,Sem.run_bind,g,Result.andThen_ok,Sem.run_pure,M9 fs pl e]
 | [],_::_,h=>by simp at h
 | _::_,[],h=>by simp at h
theorem VJ{d T parts ty pos af pl k b z j l}(s:HK X.P T pl)(q:eU X.P T k b z)(u:Zr j z.cells.toList)(t:ie st pl parts j (.agg l))(hd:Nat.blt d X.N=true):
 ax X st mm ⟨some d,.build T ⟨parts⟩,ty,pos,af,none⟩ [(d,.agg l)] []:=
 Wv hd λa w γ r=>by
  obtain⟨fs,n,p⟩:=s;obtain⟨cells',g1,v⟩:=HL r parts j (.agg l) z.cells t (u _ _ _);refine⟨.agg cells',?_,⟨_,rfl,by grind[Ly.hold]⟩⟩;have g:(fs.mapM (λf=>(do pure (f.offset,<-sizeOf f.type):Sem (Nat×Nat)))).run X.P w=.ok pl.toArray w:=by
   have e:fs.mapM (λf=>(do pure (f.offset,<-sizeOf f.type):Sem (Nat×Nat)))=List.toArray <$> (fs.toList.mapM (λf=>(do pure (f.offset,<-sizeOf f.type):Sem (Nat×Nat)))):=by
    conv=>lhs;rw[<-Array.toArray_toList (xs:=fs)]
    grind
   rw[e];simp only[Sem.run_map,M9 _ _ p,Result.andThen_ok]
  simp only[execOp,Instr.build];have hfill:Instr.fill (λi=>pl.toArray[i]?) z.cells (parts.map λ(i,x)=>(i,a.eval x))=some cells':=ol
  simp only[Sem.run_bind,qJ q,Result.andThen_ok,underlying,run_program,n,Sem.run_pure,g];simp_all
end aG
end Go.Proofs.YthdbapalogijdaaGreatDoor
