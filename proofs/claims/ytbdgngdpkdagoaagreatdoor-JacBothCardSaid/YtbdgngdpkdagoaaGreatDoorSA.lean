import Derived.Orders
import Derived.Deep.AppendSrc
import Derived.Test.YtbdgngdpkdagoaaGreatDoorGw
namespace Go.Proofs.YtbdgngdpkdagoaaGreatDoor
open Go
theorem orM{a b c d:Prop}(h:a\/b)(f:a->c)(g:b->d):c\/d:=h.elim (λx=>.inl (f x)) (λx=>.inr (g x))
def Kp(S:Nat->Prop)(w w':World):Prop:=
 w.heap.size<=w'.heap.size/\∀ b,b<w.heap.size->¬ S b->w'.heap[b]?=w.heap[b]?
theorem Kp.refl(S:Nat->Prop)(w:World):Kp S w w:=⟨xr _,λ_ _ _=>rfl⟩
structure CP where
 p:World->(Nat->Prop)->Value->Prop
 one:∀ {w S v},p w S v->v.oneCell'=true
 mono:∀ {w S v w' S'},p w S v->Kp S w w'->(∀ b,S' b->S b\/w.heap.size<=b)->p w' S' v
inductive Ly where
 | cell (p:CP)
 | agg (l:List Ly)
 | own (id:Nat)
 | ptr (id off:Nat)
 | ref (ly:Ly)
 | por (id:Nat)
 | win (id off len:Nat)
 | ifc (T:Nat) (ly:Ly)
 | clo (f:Nat) (l:List Nat)
 | bnd (f:Nat) (l:List Ly)
 | tup (l:List Ly)
 | any
def blkOf:Value->Option Nat
 | .slice (some a) _ _=>some a.block
 | .pointer (some a)=>some a.block
 | _=>none
def WinV(γ:Nat->Option Value)(id off len:Nat)(v:Value):Prop:=∃ v0,γ id=some v0/\((v=.slice none 0 0/\v0=.slice none 0 0/\len=0)\/∃ g cap o,blkOf v0=some g/\v=.slice (some ⟨g,o,none⟩) len cap/\(0<len->o=off)/\len<=cap/\cap<=maxLen)
def CapV(γ:Nat->Option Value):List Nat->List Value->Prop
 | [],[]=>True
 | id::l,v::us=>γ id=some v/\v.oneCell'=true/\CapV γ l us
 | _,_=>False
def CloV(γ:Nat->Option Value)(f:Nat)(l:List Nat)(v:Value):Prop:=∃ us:List Value,v=.func (.func f) #[] us.toArray/\CapV γ l us
abbrev Nm:=Nat->Option Value
mutual
def Ly.hold(w:World)(S:Nat->Prop)(γ:Nm):Ly->List Value->Prop
 | .cell p,cs=>∃ v,cs=[v]/\p.p w S v
 | .agg l,cs=>Ly.holds w S γ l cs
 | .own id,cs=>∃ v,cs=[v]/\γ id=some v/\v.oneCell'=true
 | .ptr id off,cs=>∃ v0 g,γ id=some v0/\blkOf v0=some g/\cs=[.pointer (some ⟨g,off,none⟩)]
 | .ref ly,cs=>∃ b o us,cs=[.pointer (some ⟨b,o,none⟩)]/\b<w.heap.size/\¬ S b/\(∀ j u,us[j]?=some u->w.cell? ⟨b,o+j,none⟩=some u)/\Ly.hold w S γ ly us
 | .por id,cs=>∃ v,cs=[v]/\(v=.pointer none\/∃ v0 g,γ id=some v0/\blkOf v0=some g/\v=.pointer (some ⟨g,0,none⟩))
 | .win id off len,cs=>∃ v,cs=[v]/\WinV γ id off len v
 | .ifc _ _,_=>False
 | .clo f l,cs=>∃ v,cs=[v]/\CloV γ f l v
 | .bnd _ _,_=>False
 | .tup _,_=>False
 | .any,_=>False
def Ly.holds(w:World)(S:Nat->Prop)(γ:Nm):List Ly->List Value->Prop
 | [],cs=>cs=[]
 | ly::l,cs=>∃ c1 d,cs=c1++d/\Ly.hold w S γ ly c1/\Ly.holds w S γ l d
end
mutual
def Ly.val(w:World)(S:Nat->Prop)(γ:Nm):Ly->Value->Prop
 | .agg l,v=>∃ cs,v=.agg cs/\Ly.holds w S γ l cs.toList
 | .tup l,v=>∃ vs,v=.tuple vs/\Ly.vals w S γ l vs.toList
 | .any,_=>True
 | .cell p,v=>p.p w S v
 | .own id,v=>γ id=some v/\v.oneCell'=true
 | .ptr id off,v=>∃ v0 g,γ id=some v0/\blkOf v0=some g/\v=.pointer (some ⟨g,off,none⟩)
 | .ref ly,v=>Ly.hold w S γ (.ref ly) [v]
 | .por id,v=>v=.pointer none\/∃ v0 g,γ id=some v0/\blkOf v0=some g/\v=.pointer (some ⟨g,0,none⟩)
 | .win id off len,v=>WinV γ id off len v
 | .ifc T ly,v=>∃ u,v=.iface T u/\Ly.val w S γ ly u
 | .clo f l,v=>CloV γ f l v
 | .bnd f l,v=>∃ us:List Value,v=.func (.func f) us.toArray #[]/\Ly.vals w S γ l us
def Ly.vals(w:World)(S:Nat->Prop)(γ:Nm):List Ly->List Value->Prop
 | [],vs=>vs=[]
 | ly::l,vs=>∃ v r,vs=v::r/\Ly.val w S γ ly v/\Ly.vals w S γ l r
end
mutual
def Ly.sz:Ly->Nat
 | .agg l=>Ly.szs l
 | _=>1
def Ly.szs:List Ly->Nat
 | []=>0
 | ly::l=>ly.sz+Ly.szs l
end
mutual
theorem Ly.hold_sz{w S γ}:∀(ly:Ly) (cs:List Value),ly.hold w S γ cs->cs.length=ly.sz
 | .cell p,cs,h=>by obtain⟨v,rfl,_⟩:=h;rfl
 | .agg l,cs,h=>by simpa [Ly.sz] using Ly.holds_sz l cs (by simpa [Ly.hold] using h)
 | .own id,cs,h=>by obtain⟨v,rfl,_⟩:=h;rfl
 | .ptr id off,cs,h=>by obtain⟨_,g,_,_,rfl⟩:=h;rfl
 | .ref ly,cs,h=>by obtain⟨b,o,us,rfl,_⟩:=h;rfl
 | .por id,cs,h=>by obtain⟨v,rfl,_⟩:=h;rfl
 | .win id off len,cs,h=>by obtain⟨v,rfl,_⟩:=h;rfl
 | .ifc _ _,_,h=>by simp[Ly.hold] at h
 | .clo _ _,cs,h=>by obtain⟨v,rfl,_⟩:=h;rfl
 | .bnd _ _,_,h=>by simp[Ly.hold] at h
 | .tup _,_,h=>by simp[Ly.hold] at h
 | .any,_,h=>by simp[Ly.hold] at h
theorem Ly.holds_sz{w S γ}:∀(l:List Ly) (cs:List Value),Ly.holds w S γ l cs->cs.length=Ly.szs l
 | [],cs,h=>by simp[Ly.holds] at h;simp[h,Ly.szs]
 | ly::l,cs,h=>by obtain⟨c1,d,rfl,e,f⟩:=h;simp[Ly.szs,Ly.hold_sz ly c1 e,Ly.holds_sz l d f]
end
theorem Kp.cell{S:Nat->Prop}{w w':World}(h:Kp S w w'){b o:Nat}{v:Value}(e:¬ S b)(d:w.cell? ⟨b,o,none⟩=some v):
 w'.cell? ⟨b,o,none⟩=some v:=by
 have hb:b<w.heap.size:=by rcases xl b w.heap.size with h | h;exact h;simp[World.cell?,uf h] at d
 rw[World.cell?_of_block (w:=w) (h.2 b hb e)];exact d
theorem Kp.trans{S S':Nat->Prop}{a b c:World}(h:Kp S a b)(k:Kp S' b c)(hs:∀ x,S' x->S x\/a.heap.size<=x):Kp S a c:=
 ⟨xo h.1 k.1,λx e hn=>by
  rw[k.2 x (xt e h.1) (λd=>(hs x d).elim hn (λf=>by omega))]
  exact h.2 x e hn⟩
def Ng(γ γ':Nm):Prop:=∀ id v,γ id=some v->γ' id=some v
theorem Ng.refl(γ:Nm):Ng γ γ:=λ_ _ h=>h
theorem WinV.mono{γ γ':Nm}(f:Ng γ γ'){id off len:Nat}{v:Value}(h:WinV γ id off len v):WinV γ' id off len v:=by obtain⟨v0,d,e⟩:=h;exact⟨v0,f _ _ d,e⟩
theorem CapV.mono{γ γ':Nm}(d:Ng γ γ'):∀ {l:List Nat}{us:List Value},CapV γ l us->CapV γ' l us
 | [],[],_=>trivial
 | _::_,_::_,h=>⟨d _ _ h.1,h.2.1,CapV.mono d h.2.2⟩
 | [],_::_,h=>h.elim
 | _::_,[],h=>h.elim
theorem CloV.mono{γ γ':Nm}(g:Ng γ γ'){f:Nat}{l:List Nat}{v:Value}(h:CloV γ f l v):CloV γ' f l v:=by obtain⟨us,d,e⟩:=h;exact⟨us,d,e.mono g⟩
theorem CloV.one{γ:Nm}{f:Nat}{l:List Nat}{v:Value}(h:CloV γ f l v):v.oneCell'=true:=by obtain⟨us,rfl,_⟩:=h;rfl
theorem WinV.one{γ:Nm}{id off len:Nat}{v:Value}(h:WinV γ id off len v):v.oneCell'=true:=by obtain⟨v0,_,⟨rfl,_⟩ | ⟨g,cap,o,_,rfl,_⟩⟩:=h<;>rfl
mutual
theorem Ly.hold_mono{w w':World}{S S':Nat->Prop}{γ γ':Nm}(hk:Kp S w w')(hs:∀ b,S' b->S b\/w.heap.size<=b)(e:Ng γ γ'):
 ∀(ly:Ly) (cs:List Value),ly.hold w S γ cs->ly.hold w' S' γ' cs
 | .cell p,cs,h=>by obtain⟨v,rfl,hp⟩:=h;exact⟨v,rfl,p.mono hp hk hs⟩
 | .agg l,cs,h=>by simp only[Ly.hold] at h |-;exact Ly.holds_mono hk hs e l cs h
 | .own id,cs,h=>by obtain⟨v,rfl,d,i⟩:=h;exact⟨v,rfl,e _ _ d,i⟩
 | .ptr id off,cs,h=>by obtain⟨v0,g,d,i,rfl⟩:=h;exact⟨v0,g,e _ _ d,i,rfl⟩
 | .ref ly,cs,h=>by obtain⟨b,o,us,rfl,hb,k,r,d⟩:=h;refine⟨b,o,us,rfl,xt hb hk.1,λn=>(hs b n).elim k (λh''=>by omega),λj u s=>hk.cell k (r j u s),Ly.hold_mono hk hs e ly us d⟩
 | .por id,cs,h=>by obtain⟨v,rfl,h⟩:=h;exact⟨v,rfl,orM h (λx=>x) (λ⟨v0,g,d,i,q⟩=>⟨v0,g,e _ _ d,i,q⟩)⟩
 | .win id off len,cs,h=>by obtain⟨v,rfl,h⟩:=h;exact⟨v,rfl,h.mono e⟩
 | .ifc _ _,_,h=>by simp[Ly.hold] at h
 | .clo f l,cs,h=>by obtain⟨v,rfl,h⟩:=h;exact⟨v,rfl,h.mono e⟩
 | .bnd _ _,_,h=>by simp[Ly.hold] at h
 | .tup _,_,h=>by simp[Ly.hold] at h
 | .any,_,h=>by simp[Ly.hold] at h
theorem Ly.holds_mono{w w':World}{S S':Nat->Prop}{γ γ':Nm}(hk:Kp S w w')(hs:∀ b,S' b->S b\/w.heap.size<=b)(e:Ng γ γ'):
 ∀(l:List Ly) (cs:List Value),Ly.holds w S γ l cs->Ly.holds w' S' γ' l cs
 | [],cs,h=>h
 | ly::l,cs,h=>by obtain⟨c1,d,rfl,f,g⟩:=h;exact⟨c1,d,rfl,Ly.hold_mono hk hs e ly c1 f,Ly.holds_mono hk hs e l d g⟩
end
mutual
theorem Ly.val_mono{w w':World}{S S':Nat->Prop}{γ γ':Nm}(hk:Kp S w w')(hs:∀ b,S' b->S b\/w.heap.size<=b)(d:Ng γ γ'):
 ∀(ly:Ly) (v:Value),ly.val w S γ v->ly.val w' S' γ' v
 | .agg l,v,h=>by simp only[Ly.val] at h |-;obtain⟨cs,rfl,h⟩:=h;exact⟨cs,rfl,Ly.holds_mono hk hs d l _ h⟩
 | .tup l,v,h=>by simp only[Ly.val] at h |-;obtain⟨vs,rfl,h⟩:=h;exact⟨vs,rfl,Ly.vals_mono hk hs d l _ h⟩
 | .any,v,h=>by simp[Ly.val]
 | .cell p,v,h=>by simp only[Ly.val] at h |-;exact p.mono h hk hs
 | .own id,v,h=>by simp only[Ly.val] at h |-;exact⟨d _ _ h.1,h.2⟩
 | .ptr id off,v,h=>by simp only[Ly.val] at h |-;obtain⟨v0,g,e,i,rfl⟩:=h;exact⟨v0,g,d _ _ e,i,rfl⟩
 | .ref ly,v,h=>by simp only[Ly.val] at h |-;exact Ly.hold_mono hk hs d (.ref ly) [v] h
 | .por id,v,h=>by simp only[Ly.val] at h |-;exact orM h (λx=>x) (λ⟨v0,g,e,i,j⟩=>⟨v0,g,d _ _ e,i,j⟩)
 | .win id off len,v,h=>by simp only[Ly.val] at h |-;exact h.mono d
 | .ifc T ly,v,h=>by simp only[Ly.val] at h |-;obtain⟨u,rfl,h⟩:=h;exact⟨u,rfl,Ly.val_mono hk hs d ly u h⟩
 | .clo f l,v,h=>by simp only[Ly.val] at h |-;exact h.mono d
 | .bnd f l,v,h=>by simp only[Ly.val] at h |-;obtain⟨us,rfl,h⟩:=h;exact⟨us,rfl,Ly.vals_mono hk hs d l us h⟩
theorem Ly.vals_mono{w w':World}{S S':Nat->Prop}{γ γ':Nm}(hk:Kp S w w')(hs:∀ b,S' b->S b\/w.heap.size<=b)(d:Ng γ γ'):
 ∀(l:List Ly) (vs:List Value),Ly.vals w S γ l vs->Ly.vals w' S' γ' l vs
 | [],vs,h=>by simp only[Ly.vals] at h |-;exact h
 | ly::l,vs,h=>by simp only[Ly.vals] at h |-;obtain⟨v,r,rfl,e,f⟩:=h;exact⟨v,r,rfl,Ly.val_mono hk hs d ly v e,Ly.vals_mono hk hs d l r f⟩
end
def Ly.lies:Ly->Bool
 | .tup _=>false
 | .any=>false
 | .ifc _ _=>false
 | .bnd _ _=>false
 | _=>true
def Ly.isN:Ly->Bool
 | .agg _=>true
 | _=>false
theorem Ly.hold_of_val{w S γ}{ly:Ly}{v:Value}(k:ly.lies=true)(h:ly.val w S γ v):ly.hold w S γ v.cells.toList:=by
 cases ly<;>simp[Ly.lies] at k<;>simp only[Ly.val] at h
 case cell p=>
  have:=p.one h;cases v<;>simp[Value.oneCell'] at this<;>exact⟨_,rfl,h⟩
 case agg l=>obtain⟨cs,rfl,h⟩:=h;simpa [Ly.hold,Value.cells] using h
 case own id=>
  obtain⟨e,i⟩:=h;cases v<;>simp[Value.oneCell'] at i<;>exact⟨_,rfl,e,rfl⟩
 case ptr id off=>obtain⟨v0,g,e,i,rfl⟩:=h;exact⟨v0,g,e,i,rfl⟩
 case ref ly=>
  have d:=h;obtain⟨b,o,us,j,_⟩:=h;simp at j;subst j;exact d
 case por id=>
  rcases h with rfl | ⟨v0,g,e,i,rfl⟩
  . exact⟨_,rfl,.inl rfl⟩
  . exact⟨_,rfl,.inr ⟨v0,g,e,i,rfl⟩⟩
 case win id off len=>
  have d:=h.one;cases v<;>simp[Value.oneCell'] at d<;>exact⟨_,rfl,h⟩
 case clo f l=>
  have d:=h.one;cases v<;>simp[Value.oneCell'] at d<;>exact⟨_,rfl,h⟩
theorem Ly.val_of_hold1{w S γ}{ly:Ly}{v:Value}(hn:ly.isN=false)(h:ly.hold w S γ [v]):ly.val w S γ v:=by
 cases ly<;>simp[Ly.isN] at hn
 case cell p=>obtain⟨u,d,h⟩:=h;simp at d;subst d;simpa [Ly.val] using h
 case own id=>obtain⟨u,d,e,i⟩:=h;simp at d;subst d;exact⟨e,i⟩
 case ptr id off=>obtain⟨v0,g,e,i,d⟩:=h;simp at d;subst d;exact⟨v0,g,e,i,rfl⟩
 case ref ly=>simpa [Ly.val] using h
 case por id=>obtain⟨u,d,h⟩:=h;simp at d;subst d;simpa [Ly.val] using h
 case win id off len=>obtain⟨u,d,h⟩:=h;simp at d;subst d;simpa [Ly.val] using h
 case tup l=>simp[Ly.hold] at h
 case ifc T l=>simp[Ly.hold] at h
 case clo f l=>obtain⟨u,d,h⟩:=h;simp at d;subst d;simpa [Ly.val] using h
 case bnd f l=>simp[Ly.hold] at h
 case any=>trivial
mutual
theorem Ly.oneCell_of_hold{w S γ}:∀(ly:Ly) (cs:List Value),ly.hold w S γ cs->∀ u∈cs,u.oneCell'=true
 | .cell p,cs,h=>by obtain⟨v,rfl,hp⟩:=h;intro u d;simp at d;subst d;exact p.one hp
 | .agg l,cs,h=>by simp only[Ly.hold] at h;exact Ly.oneCell_of_holds l cs h
 | .own id,cs,h=>by obtain⟨v,rfl,e,i⟩:=h;intro u d;simp at d;subst d;exact i
 | .ptr id off,cs,h=>by obtain⟨_,g,e,_,rfl⟩:=h;intro u d;simp at d;subst d;rfl
 | .ref ly,cs,h=>by obtain⟨b,o,us,rfl,_⟩:=h;intro u d;simp at d;subst d;rfl
 | .por id,cs,h=>by obtain⟨v,rfl,h⟩:=h;intro u d;simp at d;subst d;rcases h with rfl | ⟨v0,g,e,i,rfl⟩<;>rfl
 | .win id off len,cs,h=>by obtain⟨v,rfl,h⟩:=h;intro u d;simp at d;subst d;exact h.one
 | .ifc _ _,_,h=>by simp[Ly.hold] at h
 | .clo f l,cs,h=>by obtain⟨v,rfl,h⟩:=h;intro u d;simp at d;subst d;exact h.one
 | .bnd _ _,_,h=>by simp[Ly.hold] at h
 | .tup _,_,h=>by simp[Ly.hold] at h
 | .any,_,h=>by simp[Ly.hold] at h
theorem Ly.oneCell_of_holds{w S γ}:∀(l:List Ly) (cs:List Value),Ly.holds w S γ l cs->∀ u∈cs,u.oneCell'=true
 | [],cs,h=>by simp only[Ly.holds] at h;subst h;intro u d;cases d
 | ly::l,cs,h=>by obtain⟨c1,e,rfl,f,g⟩:=h;intro u d;rcases yd.1 d with h | h;exact Ly.oneCell_of_hold ly c1 f u h;exact Ly.oneCell_of_holds l e g u h
end
end Go.Proofs.YtbdgngdpkdagoaaGreatDoor
namespace Go.Proofs.YtbdgngdpkdagoaaGreatDoor
open Go
inductive Ct where
 | sl (E k:Nat) (ls:List Ly)
 | bx (E:Nat) (ly:Ly)
 | ob (o:Obj)
 | gone
def Ct.alive:Ct->Bool
 | .gone=>false
 | _=>true
def lk{α:Type}:List (Nat×α)->Nat->Option α
 | [],_=>none
 | (i,a)::l,j=>cond (Nat.beq i j) (some a) (lk l j)
def up{α:Type}(st:Nat->Option α)(el:List (Nat×α)):Nat->Option α:=λd=>match lk el d with
 | some x=>some x
 | none=>st d
theorem Jot{α:Type}(st:Nat->Option α):up st []=st:=rfl
theorem up_lk{α:Type}(l el:List (Nat×α)):up (lk l) el=lk (el++l):=by
 funext d
 induction el with
 | nil=>rfl
 | cons e el f=>
   obtain⟨i,x⟩:=e;simp only[up,lk,yu];cases Nat.beq i d
   simpa [up] using f
   rfl
theorem Wv{α:Type}(st:Nat->Option α)(d:Nat)(x:α)(i:Nat):up st [(d,x)] i=if d=i then some x else st i:=by
 simp only[up,lk];by_cases h:d=i;subst h;simp;have:Nat.beq d i=false:=by cases hb:Nat.beq d i;rfl;exact absurd (xy hb) h
 simp[this,h]
def Ow(γ:Nm)(mm:Nat->Option Ct)(b:Nat):Prop:=∃ id c v,mm id=some c/\c.alive=true/\γ id=some v/\blkOf v=some b
def Yn(w:World)(S:Nat->Prop)(γ:Nm)(id:Nat):Ct->Prop
 | .sl E k ls=>∃ v cs,γ id=some v/\w.ownsRow 0 E k v ls.length cs/\Ly.holds w S γ ls cs/\∀ ly∈ls,ly.sz=k
 | .bx E ly=>∃ g cur,γ id=some (.pointer (some ⟨g,0,none⟩))/\w.heap[g]?=some (.cells cur E (0,0))/\Ly.hold w S γ ly cur.toList
 | .ob o=>∃ g,γ id=some (.pointer (some ⟨g,0,none⟩))/\w.heap[g]?=some o
 | .gone=>True
structure Cx where
 P:Program
 N:Nat
 w0:World
 S0:Nat->Prop
 M:Nat->Prop
 g0:Nm
 df:List Deferred
def Cx.S(X:Cx)(γ:Nm)(mm:Nat->Option Ct)(b:Nat):Prop:=X.S0 b\/Ow γ mm b
def GwOk(w:World)(S:Nat->Prop):Prop:=(∀ b,b<gN->¬ S b/\b<w.heap.size)/\GF w
structure Inv(X:Cx)(st:Nat->Option Ly)(mm:Nat->Option Ct)(a:Act)(w:World)(γ:Nm):Prop where
 size:a.tmps.size=X.N
 defs:a.defers=X.df
 s0:∀ b,X.S0 b->b<X.w0.heap.size
 gx:GwOk X.w0 (λb=>X.S0 b\/X.M b)
 keep:Ng X.g0 γ
 os:w.os=X.w0.os
 tape:w.tape=X.w0.tape
 output:w.output=X.w0.output
 grow:X.w0.heap.size<=w.heap.size
 old:∀ b,b<X.w0.heap.size->¬ X.M b->w.heap[b]?=X.w0.heap[b]?
 fresh:∀ id,mm id=none->γ id=none
 cts:∀ id c,mm id=some c->Yn w (X.S γ mm) γ id c
 apart:∀ id id' c c' v v' b,mm id=some c->c.alive=true->mm id'=some c'->c'.alive=true->γ id=some v->γ id'=some v'->blkOf v=some b->blkOf v'=some b->id=id'
 mine:∀ b,Ow γ mm b->(X.w0.heap.size<=b\/X.M b)/\b<w.heap.size/\¬ X.S0 b
 sts:∀ d ly,st d=some ly->∃ v,a.tmps[d]?=some v/\ly.val w (X.S γ mm) γ v
def Sq{R:Type}(X:Cx)(l:List (Nat×Ly))(m:List (Nat×Ct))(md:Option R)(G:R->Act->World->Prop):Prop:=
 ∀ r a w γ,md=some r->Inv X (lk l) (lk m) a w γ->G r a w
def OpOk(X:Cx)(st:Nat->Option Ly)(mm:Nat->Option Ct)(o:Oper)(el:List (Nat×Ly))(em:List (Nat×Ct)):Prop:=
 ∀ a w γ K Q,Inv X st mm a w γ->(∀ d w' γ',Inv X (up st el) (up mm em) d w' γ'->K d w')->o.wp X.P a w K Q
theorem okm{X:Cx}{st:Nat->Option Ly}{mm:Nat->Option Ct}{o el em id c}(h:mm id=some c)(hn:lk em id=none)(g:OpOk X st mm o el ((id,c)::em)):OpOk X st mm o el em:=by
 have e:up mm ((id,c)::em)=up mm em:=by funext i;simp only[up,lk];cases hb:Nat.beq id i;rfl;have:=xy hb;subst this;rw[hn,h];rfl
 intro a w γ K Q hi j;exact g a w γ K Q hi λf w' γ' d=>j f w' γ' (e ▸ d)
theorem Yn.mono{w w':World}{S S':Nat->Prop}{γ γ':Nm}{id:Nat}{c:Ct}(h:Yn w S γ id c)(hk:Kp S w w')(hs:∀ b,S' b->S b\/w.heap.size<=b)(f:Ng γ γ')
 (hb:∀ v b,γ id=some v->blkOf v=some b->w'.heap[b]?=w.heap[b]?):Yn w' S' γ' id c:=by
 cases c with
 | gone=>trivial
 | sl E k ls=>
   obtain⟨v,cs,d,p,j,q⟩:=h;refine⟨v,cs,f _ _ d,?_,Ly.holds_mono hk hs f ls cs j,q⟩;obtain⟨n,i⟩:=p;refine⟨n,?_⟩;rcases i with i | ⟨g,cap,cur,rfl,hg',e,r⟩;exact .inl i;exact .inr ⟨g,cap,cur,rfl,hg',by rw[hb _ g d rfl];exact e,r⟩
 | bx E ly=>
   obtain⟨g,cur,d,e,j⟩:=h;exact⟨g,cur,f _ _ d,by rw[hb _ g d rfl];exact e,Ly.hold_mono hk hs f ly _ j⟩
 | ob o=>
   obtain⟨g,d,e⟩:=h;exact⟨g,f _ _ d,by rw[hb _ g d rfl];exact e⟩
namespace Inv
variable {X:Cx}{st:Nat->Option Ly}{mm:Nat->Option Ct}{a:Act}{w:World}{γ:Nm}
theorem gw(h:Inv X st mm a w γ){S:Nat->Prop}(f:∀ b,S b->X.S γ mm b):GwOk w S:=
 ⟨λb hb=>⟨λhs=>by
  obtain⟨g1,g⟩:=h.gx.1 b hb;rcases f b hs with e | e;exact g1 (.inl e);rcases(h.mine b e).1 with d | d;omega
  exact g1 (.inr d),xt (h.gx.1 b hb).2 h.grow⟩,
  GF_st h.gx.2 h.grow λb hb=>h.old b (h.gx.1 b hb).2 λd=>(h.gx.1 b hb).1 (.inr d)⟩
theorem put(h:Inv X st mm a w γ){d:Nat}{v:Value}{ly:Ly}(hd:d<X.N)(k:ly.val w (X.S γ mm) γ v):
 Inv X (up st [(d,ly)]) mm (a.put (some d) v) w γ:=
 { h with
   size:=by simpa [Act.put] using h.size
   defs:=by simpa [Act.put] using h.defs
   sts:=by
    intro i f hi;rw[Wv] at hi;by_cases e:d=i;subst e;simp at hi;subst hi;exact⟨v,by simp[Act.put,h.size,hd],k⟩;simp[e] at hi;obtain⟨u,j,g⟩:=h.sts i f hi
    exact⟨u,by simp[Act.put,gi e,j],g⟩ }
theorem ext(h:Inv X st mm a w γ){w':World}(i:w'.os=w.os)(t:w'.tape=w.tape)(g:w'.output=w.output)(hk:Kp (λ_=>False) w w'):Inv X st mm a w' γ:=by
 have f:Kp (X.S γ mm) w w':=⟨hk.1,λb hb _=>hk.2 b hb (λh=>h)⟩
 refine { h with os:=i.trans h.os,tape:=t.trans h.tape,output:=g.trans h.output,grow:=xo h.grow hk.1,old:=?_,cts:=?_,mine:=?_,sts:=?_ };intro b hb r;rw[hk.2 b (xt hb h.grow) (λh=>h)];exact h.old b hb r;intro id c k;by_cases e:c.alive=true;refine(h.cts id c k).mono f (λb hb=>.inl hb) (Ng.refl _) ?_;intro v b j hb;exact hk.2 b (h.mine b ⟨id,c,v,k,e,j,hb⟩).2.1 (λh=>h);cases c<;>simp[Ct.alive] at e;trivial;intro b hb;obtain⟨n,p,q⟩:=h.mine b hb;exact⟨n,xt p hk.1,q⟩;intro d ly hd;obtain⟨v,j,s⟩:=h.sts d ly hd;exact⟨v,j,Ly.val_mono f (λb hb=>.inl hb) (Ng.refl _) ly v s⟩
def gset(γ:Nm)(y:Nat)(v:Value):Nm:=λi=>if y=i then some v else γ i
theorem new(h:Inv X st mm a w γ){w':World}(T:w'.os=w.os)(ht:w'.tape=w.tape)(I:w'.output=w.output)(hk:Kp (λ_=>False) w w')
 {y:Nat}{ct:Ct}{v:Value}(W:mm y=none) (N:ct.alive=true)
 (O:∀ S γ',(∀ b,X.S γ mm b->S b)->(∀ b,S b->X.S γ mm b\/w.heap.size<=b)->Ng γ γ'->γ' y=some v->Yn w' S γ' y ct)
 (hb:∀ b,blkOf v=some b->w.heap.size<=b/\b<w'.heap.size) :
 Inv X st (up mm [(y,ct)]) a w' (gset γ y v):=by
 have V:=h.ext T ht I hk;have P:γ y=none:=h.fresh y W;have p:Ng γ (gset γ y v):=by intro i u q;by_cases j:y=i;subst j;rw[P] at q;cases q;simp[gset,j,q]
 have s:∀ b,Ow (gset γ y v) (up mm [(y,ct)]) b↔Ow γ mm b\/blkOf v=some b:=by
  intro b;constructor;rintro⟨id,c,u,g,B,k,n⟩;rw[Wv] at g;by_cases f:y=id;subst f;simp[gset] at k;subst k;exact .inr n;simp[f] at g;simp[gset,f] at k;exact .inl ⟨id,c,u,g,B,k,n⟩;rintro(⟨id,c,u,g,B,k,n⟩ | n);have f:y≠id:=by rintro rfl;rw[W] at g;cases g
  exact⟨id,c,u,by rw[Wv];simp[f,g],B,by simp[gset,f,k],n⟩;exact⟨y,ct,v,by rw[Wv];simp,N,by simp[gset],n⟩
 have L:∀ b,X.S (gset γ y v) (up mm [(y,ct)]) b->X.S γ mm b\/w.heap.size<=b:=by rintro b (e | e);exact .inl (.inl e);rcases(s b).1 e with g | g;exact .inl (.inr g);exact .inr (hb b g).1
 have M:∀ b,X.S γ mm b->X.S (gset γ y v) (up mm [(y,ct)]) b:=by rintro b (e | e);exact .inl e;exact .inr ((s b).2 (.inl e))
 have H:Kp (X.S γ mm) w w':=⟨hk.1,λb hb _=>hk.2 b hb (λh=>h)⟩
 refine { V with keep:=λi u q=>p i u (h.keep i u q),fresh:=?_,cts:=?_,apart:=?_,mine:=?_,sts:=?_ };intro id f;rw[Wv] at f;by_cases j:y=id;simp[j] at f;simp[j] at f;simp[gset,j,h.fresh id f];intro id c F;rw[Wv] at F;by_cases j:y=id;subst j;simp at F;subst F;exact O _ _ M L p (by simp[gset]);simp[j] at F;by_cases r:c.alive=true;refine(h.cts id c F).mono H L p ?_;intro u b q e;exact hk.2 b (h.mine b ⟨id,c,u,F,r,q,e⟩).2.1 (λh=>h);cases c<;>simp[Ct.alive] at r;trivial;intro id t c U u Y b g B k n C E J K;rw[Wv] at g k;by_cases x:y=id<;>by_cases A:y=t;exact x.symm.trans A;subst x;simp[A] at k;simp[gset] at C;subst C;simp[gset,A] at E;have:=(hb b J).1;have:=(h.mine b ⟨t,U,Y,k,n,E,K⟩).2.1;omega;subst A;simp[x] at g;simp[gset] at E;subst E;simp[gset,x] at C;have:=(hb b K).1;have:=(h.mine b ⟨id,c,u,g,B,C,J⟩).2.1;omega;simp[x] at g;simp[A] at k;simp[gset,x] at C;simp[gset,A] at E;exact h.apart id t c U u Y b g B k n C E J K;intro b e;rcases(s b).1 e with g | g;exact V.mine b g;obtain⟨g1,Z⟩:=hb b g;exact⟨.inl (xo h.grow g1),Z,λhs=>by have:=h.s0 b hs;have:=h.grow;omega⟩;intro d ly hd;obtain⟨u,q,hl⟩:=h.sts d ly hd;exact⟨u,q,Ly.val_mono H L p ly u hl⟩
theorem setc(h:Inv X st mm a w γ){w':World}(L:w'.os=w.os)(Z:w'.tape=w.tape)(F:w'.output=w.output){id:Nat}{c ct:Ct}(j:mm id=some c)(B:c.alive=true)
 {v:Value}(M:γ id=some v) {b0:Nat}(y:blkOf v=some b0) (hk:Kp (λb=>b=b0) w w')
 (I:ct.alive=true) (K:Yn w' (X.S γ mm) γ id ct):Inv X st (up mm [(id,ct)]) a w' γ:=by
 have hmine:=h.mine b0 ⟨id,c,v,j,B,M,y⟩;have A:∀ b,Ow γ (up mm [(id,ct)]) b↔Ow γ mm b:=by intro b;constructor;rintro⟨i,p,u,g,s,k,t⟩;rw[Wv] at g;by_cases e:id=i;subst e;exact⟨id,c,u,j,B,k,t⟩;simp[e] at g;exact⟨i,p,u,g,s,k,t⟩;rintro⟨i,p,u,g,s,k,t⟩;by_cases e:id=i;subst e;exact⟨id,ct,u,by rw[Wv];simp,I,k,t⟩;exact⟨i,p,u,by rw[Wv];simp[e,g],s,k,t⟩
 have C:X.S γ (up mm [(id,ct)])=X.S γ mm:=by funext b;exact propext ⟨λh=>orM h (λx=>x) (A b).1,λh=>orM h (λx=>x) (A b).2⟩
 have E:Kp (X.S γ mm) w w':=⟨hk.1,λb hb hn=>hk.2 b hb (λe=>hn (.inr ⟨id,c,v,j,B,M,e ▸ y⟩))⟩
 refine { h with os:=L.trans h.os,tape:=Z.trans h.tape,output:=F.trans h.output,grow:=xo h.grow hk.1,old:=?_,fresh:=?_,cts:=?_,apart:=?_,mine:=?_,sts:=?_ };intro b hb O
 rw[hk.2 b (xt hb h.grow) (λe=>by
  subst e;rcases hmine.1 with g | g;omega
  exact O g)]
 exact h.old b hb O;intro i hi;rw[Wv] at hi;by_cases e:id=i;simp[e] at hi;simp[e] at hi;exact h.fresh i hi;intro i p f;rw[C];rw[Wv] at f;by_cases e:id=i;subst e;simp at f;subst f;exact K;simp[e] at f;by_cases n:p.alive=true;refine(h.cts i p f).mono E (λb hb=>.inl hb) (Ng.refl _) ?_;intro u b H hb;refine hk.2 b (h.mine b ⟨i,p,u,f,n,H,hb⟩).2.1 (λJ=>e ?_);subst J;exact h.apart id i c p v u b j B f n M H y hb;cases p<;>simp[Ct.alive] at n;trivial;intro i N c1 P u u' b g s k t T U V W;rw[Wv] at g k;have g1:∃ q,mm i=some q/\q.alive=true:=by
  by_cases e:id=i;subst e;exact⟨c,j,B⟩;simp[e] at g;exact⟨c1,g,s⟩
 have S:∃ r,mm N=some r/\r.alive=true:=by by_cases e:id=N;subst e;exact⟨c,j,B⟩;simp[e] at k;exact⟨P,k,t⟩
 obtain⟨q,m1,a1⟩:=g1;obtain⟨r,m2,a2⟩:=S;exact h.apart i N q r u u' b m1 a1 m2 a2 T U V W;intro b hb;obtain⟨g,s,k⟩:=h.mine b ((A b).1 hb);exact⟨g,xt s hk.1,k⟩;intro d ly hd;rw[C];obtain⟨u,H,Y⟩:=h.sts d ly hd;exact⟨u,H,Ly.val_mono E (λb hb=>.inl hb) (Ng.refl _) ly u Y⟩
theorem drop(h:Inv X st mm a w γ)(id:Nat):Inv X st (up mm [(id,.gone)]) a w γ:=by
 have n:∀ b,Ow γ (up mm [(id,.gone)]) b->Ow γ mm b:=by rintro b ⟨i,q,u,f,k,j,p⟩;rw[Wv] at f;by_cases e:id=i;simp[e] at f;subst f;simp[Ct.alive] at k;simp[e] at f;exact⟨i,q,u,f,k,j,p⟩
 have s:∀ b,X.S γ (up mm [(id,.gone)]) b->X.S γ mm b:=λb h=>orM h (λx=>x) (n b);refine { h with fresh:=?_,cts:=?_,apart:=?_,mine:=?_,sts:=?_ };intro i hi;rw[Wv] at hi;by_cases e:id=i;simp[e] at hi;simp[e] at hi;exact h.fresh i hi;intro i q g;rw[Wv] at g;by_cases e:id=i;simp[e] at g;subst g;trivial;simp[e] at g;exact(h.cts i q g).mono (Kp.refl _ _) (λb hb=>.inl (s b hb)) (Ng.refl _) (λ_ _ _ _=>rfl);intro i t c1 v u B b f k j p;rw[Wv] at f j;by_cases e:id=i;simp[e] at f;subst f;simp[Ct.alive] at k;by_cases r:id=t;simp[r] at j;subst j;simp[Ct.alive] at p;simp[e] at f;simp[r] at j;exact h.apart i t c1 v u B b f k j p;intro b hb;exact h.mine b (n b hb);intro d ly hd;obtain⟨u,A,y⟩:=h.sts d ly hd;exact⟨u,A,Ly.val_mono (Kp.refl _ _) (λb hb=>.inl (s b hb)) (Ng.refl _) ly u y⟩
end Inv
end Go.Proofs.YtbdgngdpkdagoaaGreatDoor
namespace Go.Proofs.YtbdgngdpkdagoaaGreatDoor
open Go Go.RowKit
def cpB(b:Bool):CP where
 p:=λ_ _ v=>v=.bool b
 one:=by intro _ _ v h;subst h;rfl
 mono:=λh _ _=>h
def bl(b:Bool):Ly:=.cell (cpB b)
def cpI(k:IntKind)(x:Int):CP where
 p:=λ_ _ v=>v=.int k x/\k.min<=x/\x<=k.max
 one:=by intro _ _ v h;obtain⟨rfl,_⟩:=h;rfl
 mono:=λh _ _=>h
def i64(x:Int):Ly:=.cell (cpI .i64 x)
def SubL:List (Nat×Ly)->List (Nat×Ly)->Prop
 | [],_=>True
 | (d,ly)::r,l=>lk l d=some ly/\SubL r l
theorem SubL.lk{l' l:List (Nat×Ly)}(h:SubL l' l):∀ d ly,Go.Proofs.YtbdgngdpkdagoaaGreatDoor.lk l' d=some ly->Go.Proofs.YtbdgngdpkdagoaaGreatDoor.lk l d=some ly:=by
 induction l' with
 | nil=>intro d ly h;cases h
 | cons e r f=>
   obtain⟨i,x⟩:=e;intro d ly hd;simp only[Go.Proofs.YtbdgngdpkdagoaaGreatDoor.lk] at hd;cases hb:Nat.beq i d;rw[hb] at hd;exact f h.2 d ly hd;rw[hb] at hd;have:i=d:=xy hb;subst this;simp at hd;subst hd;exact h.1
def EqM1:List (Nat×Ct)->List (Nat×Ct)->List (Nat×Ct)->Prop
 | [],_,_=>True
 | (d,_)::r,m,m'=>lk m d=lk m' d/\EqM1 r m m'
def EqM(m m':List (Nat×Ct)):Prop:=EqM1 m m m'/\EqM1 m' m m'
theorem Qo3:∀(r m m':List (Nat×Ct)) (d:Nat),EqM1 r m m'->lk r d≠none->lk m d=lk m' d
 | [],_,_,_,_,h=>absurd rfl h
 | (i,x)::r,m,m',d,h,hd=>by simp only[lk] at hd;cases hb:Nat.beq i d;rw[hb] at hd;exact Qo3 r m m' d h.2 hd;have:i=d:=xy hb;subst this;exact h.1
theorem EqM.eq{m m':List (Nat×Ct)}(h:EqM m m'):lk m=lk m':=by funext d;by_cases e:lk m d=none;by_cases f:lk m' d=none;rw[e,f];exact Qo3 m' m m' d h.2 f;exact Qo3 m m m' d h.1 e
def Ent(X:Cx)(l:List (Nat×Ly))(m:List (Nat×Ct))(l':List (Nat×Ly))(m':List (Nat×Ct)):Prop:=
 ∀ a w γ,Inv X (lk l) (lk m) a w γ->∃ γ',Inv X (lk l') (lk m') a w γ'
theorem entI{X:Cx}{l l' m m'}(h:SubL l' l)(e:EqM m m'):Ent X l m l' m':=λa w γ hi=>
 ⟨γ,by rw[<-e.eq];exact { hi with sts:=λd ly hd=>hi.sts d ly (h.lk d ly hd) }⟩
def Rn(σ:List (Nat×Nat))(ly d:Ly):Prop:=∀ w S (γ γ':Nm),(∀ y x,lk σ y=some x->γ' y=γ x) ->
 (∀ cs,ly.hold w S γ cs->d.hold w S γ' cs)/\(∀ v,ly.val w S γ v->d.val w S γ' v)
def Rns(σ:List (Nat×Nat))(l l':List Ly):Prop:=∀ w S (γ γ':Nm),(∀ y x,lk σ y=some x->γ' y=γ x) ->
 (∀ cs,Ly.holds w S γ l cs->Ly.holds w S γ' l' cs)/\(∀ v,Ly.vals w S γ l v->Ly.vals w S γ' l' v)
def IF(ly:Ly):Prop:=∀ w S (γ γ':Nm),(∀ cs,ly.hold w S γ cs->ly.hold w S γ' cs)/\(∀ v,ly.val w S γ v->ly.val w S γ' v)
def IFs(l:List Ly):Prop:=∀ w S (γ γ':Nm),(∀ cs,Ly.holds w S γ l cs->Ly.holds w S γ' l cs)/\(∀ v,Ly.vals w S γ l v->Ly.vals w S γ' l v)
theorem Qi6(p:CP):IF (.cell p):=λw S γ γ'=>⟨λcs h=>h,λv h=>by simpa [Ly.val] using h⟩
theorem Jou:IF .any:=λw S γ γ'=>⟨λcs h=>h,λv h=>by simp[Ly.val]⟩
theorem Qhh:IFs []:=λw S γ γ'=>⟨λcs h=>h,λv h=>by simpa [Ly.vals] using h⟩
theorem Y4{ly l}(e:IF ly)(f:IFs l):IFs (ly::l):=λw S γ γ'=>
 ⟨λcs h=>by obtain⟨c1,g,rfl,g1,d⟩:=h;exact⟨c1,g,rfl,(e w S γ γ').1 _ g1,(f w S γ γ').1 _ d⟩,
  λv h=>by
   simp only[Ly.vals] at h |-
   obtain⟨u,r,rfl,g1,d⟩:=h;exact⟨u,r,rfl,(e w S γ γ').2 _ g1,(f w S γ γ').2 _ d⟩⟩
theorem J9{α:Type}{f:α->Ly}(h:∀ x,IF (f x)):∀ xs:List α,IFs (xs.map f)
 | []=>Qhh
 | x::xs=>Y4 (h x) (J9 h xs)
theorem Qlg{l}(h:IFs l):IF (.agg l):=λw S γ γ'=>
 ⟨λcs g=>by simp only[Ly.hold] at g |-;exact(h w S γ γ').1 cs g,
  λv g=>by simp only[Ly.val] at g |-;obtain⟨cs,rfl,g⟩:=g;exact⟨cs,rfl,(h w S γ γ').1 _ g⟩⟩
theorem Jov{l}(h:IFs l):IF (.tup l):=λw S γ γ'=>
 ⟨λcs g=>by simp[Ly.hold] at g,
  λv g=>by simp only[Ly.val] at g |-;obtain⟨cs,rfl,g⟩:=g;exact⟨cs,rfl,(h w S γ γ').2 _ g⟩⟩
theorem Jow{ly}(h:IF ly):IF (.ref ly):=λw S γ γ'=>by
 have d:∀ cs,(Ly.ref ly).hold w S γ cs->(Ly.ref ly).hold w S γ' cs:=by rintro cs ⟨b,o,us,e,f,i,j,k⟩;exact⟨b,o,us,e,f,i,j,(h w S γ γ').1 _ k⟩
 exact⟨d,λv g=>by simp only[Ly.val] at g |-;exact d _ g⟩
theorem rn_id{σ ly}(h:IF ly):Rn σ ly ly:=λw S γ γ' _=>h w S γ γ'
theorem Wq{σ y x}(h:lk σ y=some x):Rn σ (.own x) (.own y):=λw S γ γ' e=>by have:=e y x h;exact⟨λcs g=>by obtain⟨v,rfl,g1,d⟩:=g;exact⟨v,rfl,by rw[this];exact g1,d⟩,λv g=>by simp only[Ly.val] at g |-;rw[this];exact g⟩
theorem Qwt{σ y x off}(h:lk σ y=some x):Rn σ (.ptr x off) (.ptr y off):=λw S γ γ' e=>by have:=e y x h;exact⟨λcs g=>by obtain⟨v0,b,g1,d⟩:=g;exact⟨v0,b,by rw[this];exact g1,d⟩,λv g=>by simp only[Ly.val] at g |-;rw[this];exact g⟩
theorem Qo4{σ y x}(h:lk σ y=some x):Rn σ (.por x) (.por y):=λw S γ γ' e=>by
 have:=e y x h
 exact⟨λcs g=>by
  obtain⟨v,rfl,g⟩:=g;exact⟨v,rfl,orM g (λx=>x) (λ⟨v0,b,g1,d⟩=>⟨v0,b,by rw[this];exact g1,d⟩)⟩,
  λv g=>by simp only[Ly.val] at g |-;rw[this];exact g⟩
theorem Xa{σ}:Rns σ [] []:=λw S γ γ' _=>⟨λcs h=>h,λv h=>by simpa [Ly.vals] using h⟩
theorem Ki{σ ly d l l'}(g:Rn σ ly d)(i:Rns σ l l'):Rns σ (ly::l) (d::l'):=λw S γ γ' e=>
 ⟨λcs h=>by obtain⟨c1,j,rfl,g1,f⟩:=h;exact⟨c1,j,rfl,(g w S γ γ' e).1 _ g1,(i w S γ γ' e).1 _ f⟩,
  λv h=>by
   simp only[Ly.vals] at h |-
   obtain⟨u,r,rfl,g1,f⟩:=h;exact⟨u,r,rfl,(g w S γ γ' e).2 _ g1,(i w S γ γ' e).2 _ f⟩⟩
theorem Jox{σ l}(h:IFs l):Rns σ l l:=λw S γ γ' _=>h w S γ γ'
theorem Qa3{σ l l'}(h:Rns σ l l'):Rn σ (.agg l) (.agg l'):=λw S γ γ' d=>
 ⟨λcs g=>by simp only[Ly.hold] at g |-;exact(h w S γ γ' d).1 cs g,
  λv g=>by simp only[Ly.val] at g |-;obtain⟨cs,rfl,g⟩:=g;exact⟨cs,rfl,(h w S γ γ' d).1 _ g⟩⟩
theorem Qi7{σ l l'}(h:Rns σ l l'):Rn σ (.tup l) (.tup l'):=λw S γ γ' d=>
 ⟨λcs g=>by simp[Ly.hold] at g,
  λv g=>by simp only[Ly.val] at g |-;obtain⟨cs,rfl,g⟩:=g;exact⟨cs,rfl,(h w S γ γ' d).2 _ g⟩⟩
def RnC(σ:List (Nat×Nat)):Ct->Ct->Prop
 | .sl E k ls,.sl E' f d=>E=E'/\k=f/\ls.length=d.length/\Rns σ ls d/\((∀ ly∈ls,ly.sz=k)->∀ ly∈d,ly.sz=k)
 | .bx E ly,.bx E' e=>E=E'/\Rn σ ly e
 | .ob o,.ob g=>o=g
 | _,_=>False
theorem rc_sl{σ E k ls}(h:IFs ls):RnC σ (.sl E k ls) (.sl E k ls):=⟨rfl,rfl,rfl,Jox h,λh=>h⟩
theorem rc_ob{σ o}:RnC σ (.ob o) (.ob o):=rfl
theorem rc_bx{σ E ly d}(h:Rn σ ly d):RnC σ (.bx E ly) (.bx E d):=⟨rfl,h⟩
def RnC1(σ:List (Nat×Nat))(c d:Ct):Prop:=RnC σ c d\/d=.gone
theorem rci{σ c d}(h:RnC σ c d):RnC1 σ c d:=.inl h
theorem rcg{σ c}:RnC1 σ c .gone:=.inr rfl
def alO:Option Ct->Bool
 | some c=>c.alive
 | none=>false
def alv(σ:List (Nat×Nat))(m:List (Nat×Ct)):List (Nat×Nat):=σ.filter λe=>alO (lk m e.1)
theorem Q2a{σ:List (Nat×Nat)}{m:List (Nat×Ct)}{y x c}(h:(y,x)∈σ)(e:lk m y=some c)(d:c.alive=true):(y,x)∈alv σ m:=
 dm.2 ⟨h,by simp[alO,e,d]⟩
def RnL(σ:List (Nat×Nat))(l:List (Nat×Ly)):List (Nat×Ly)->Prop
 | []=>True
 | (d,e)::r=>(∃ ly,lk l d=some ly/\Rn σ ly e)/\RnL σ l r
def RnM(σ:List (Nat×Nat))(m:List (Nat×Ct)):List (Nat×Ct)->Prop
 | []=>True
 | (y,d)::r=>(∃ x c,lk σ y=some x/\lk m x=some c/\RnC1 σ c d)/\RnM σ m r
def NmM(m':List (Nat×Ct)):List (Nat×Nat)->Prop
 | []=>True
 | (y,_)::r=>(∃ c,lk m' y=some c)/\NmM m' r
def nodupB:List Nat->Bool
 | []=>true
 | x::r=>!(r.any (Nat.beq x)) && nodupB r
def KeepS(σ:List (Nat×Nat))(g0:Nm):Prop:=∀ id v,g0 id=some v->lk σ id=some id
theorem RnL.get{σ l}:∀ {l'},RnL σ l l'->∀ d e,lk l' d=some e->∃ ly,lk l d=some ly/\Rn σ ly e
 | [],_,d,e,h=>by cases h
 | (i,x)::r,f,d,e,h=>by simp only[lk] at h;cases hb:Nat.beq i d;rw[hb] at h;exact RnL.get f.2 d e h;rw[hb] at h;have:i=d:=xy hb;subst this;simp at h;subst h;exact f.1
theorem RnM.get{σ m}:∀ {m'},RnM σ m m'->∀ y f,lk m' y=some f->∃ x c,lk σ y=some x/\lk m x=some c/\RnC1 σ c f
 | [],_,d,e,h=>by cases h
 | (i,x)::r,g,d,e,h=>by simp only[lk] at h;cases hb:Nat.beq i d;rw[hb] at h;exact RnM.get g.2 d e h;rw[hb] at h;have:i=d:=xy hb;subst this;simp at h;subst h;exact g.1
theorem NmM.get{m'}:∀ {σ:List (Nat×Nat)},NmM m' σ->∀ y x,lk σ y=some x->∃ c,lk m' y=some c
 | [],_,y,x,h=>by cases h
 | (i,x0)::r,d,y,x,h=>by simp only[lk] at h;cases hb:Nat.beq i y;rw[hb] at h;exact NmM.get d.2 y x h;have:i=y:=xy hb;subst this;exact d.1
theorem Qcz{σ:List (Nat×Nat)}:∀ {y x},lk σ y=some x->(y,x)∈σ:=by
 induction σ with
 | nil=>intro y x h;cases h
 | cons e r d=>
   obtain⟨i,x0⟩:=e;intro y x h;simp only[lk] at h;cases hb:Nat.beq i y;rw[hb] at h;exact vg _ (d h);rw[hb] at h;have:i=y:=xy hb;subst this;simp at h;subst h;exact vo
theorem Qrl:∀ {σ:List (Nat×Nat)},nodupB (σ.map (·.2))=true->∀ {y g x},(y,x)∈σ->(g,x)∈σ->lk σ y=some x->lk σ g=some x->y=g
 | [],_,_,_,_,h,_,_,_=>by cases h
 | (i,x0)::r,hn,y,g,x,q,s,d,e=>by
   simp only[yy,nodupB,ua,wd] at hn;have j:∀ z,(z,x0) ∉ r:=by intro z k;have:(r.map (·.2)).any (Nat.beq x0)=true:=gr.2 ⟨x0,xz.2 ⟨_,k,rfl⟩,oc⟩;rw[this] at hn;simp at hn
   simp only[lk] at d e;cases hb:Nat.beq i y<;>cases f:Nat.beq i g;rw[hb] at d;rw[f] at e;exact Qrl hn.2 (Qcz d) (Qcz e) d e;rw[f] at e;simp at e;subst e;rw[hb] at d;exact absurd (Qcz d) (j y);rw[hb] at d;simp at d;subst d;rw[f] at e;exact absurd (Qcz e) (j g);have n:i=y:=xy hb;have p:i=g:=xy f;omega
theorem Qx9:∀ {σ:List (Nat×Nat)},nodupB (σ.map (·.2))=true->∀ {y f x},(y,x)∈σ->(f,x)∈σ->y=f
 | [],_,_,_,_,h,_=>by cases h
 | (i,x0)::r,hn,y,f,x,k,n=>by
   simp only[yy,nodupB,ua,wd] at hn;have d:∀ z,(z,x0) ∉ r:=by intro z p;have:(r.map (·.2)).any (Nat.beq x0)=true:=gr.2 ⟨x0,xz.2 ⟨_,p,rfl⟩,oc⟩;rw[this] at hn;simp at hn
   rcases xu.1 k with e | k1<;>rcases xu.1 n with j | k2;exact(yj Prod.fst e).trans (yj Prod.fst j).symm;have g:x=x0:=yj Prod.snd e;rw[g] at k2;exact absurd k2 (d f);have g:x=x0:=yj Prod.snd j;rw[g] at k1;exact absurd k1 (d y);exact Qx9 hn.2 k1 k2
theorem Yn.rn{w S γ γ' σ x y c i}(n:∀ y x,lk σ y=some x->γ' y=γ x)(r:lk σ y=some x)(h:Yn w S γ x c)(hr:RnC σ c i):Yn w S γ' y i:=by
 have d:=n y x r;cases c<;>cases i<;>simp only[RnC] at hr
 case sl.sl E k ls E' k' ls'=>
  obtain⟨rfl,rfl,q,hn,s⟩:=hr;obtain⟨v,cs,e,f,j,p⟩:=h;exact⟨v,cs,by rw[d];exact e,by rw[<-q];exact f,(hn w S γ γ' n).1 _ j,s p⟩
 case bx.bx E ly E' ly'=>
  obtain⟨rfl,hn⟩:=hr;obtain⟨g,cur,e,f,j⟩:=h;exact⟨g,cur,by rw[d];exact e,f,(hn w S γ γ' n).1 _ j⟩
 case ob.ob o o'=>
  subst hr;obtain⟨g,e,f⟩:=h;exact⟨g,by rw[d];exact e,f⟩
theorem RnC.alive{σ c d}(h:RnC σ c d):c.alive=true/\d.alive=true:=by cases c<;>cases d<;>simp only[RnC] at h<;>exact⟨rfl,rfl⟩
theorem RnC1.al{σ c d}(h:RnC1 σ c d)(e:d.alive=true):c.alive=true:=by rcases h with h | rfl;exact h.alive.1;cases e
theorem Yn.rn1{w S γ γ' σ x y c d}(e:∀ y x,lk σ y=some x->γ' y=γ x)(f:lk σ y=some x)(h:Yn w S γ x c)(hr:RnC1 σ c d):Yn w S γ' y d:=by rcases hr with hr | rfl;exact h.rn e f hr;trivial
theorem entR{X:Cx}{l l' m m'}(σ:List (Nat×Nat))(hn:nodupB ((alv σ m').map (·.2))=true)(hk:KeepS σ X.g0)(hs:NmM m' σ)(s:RnM σ m m')(O:RnL σ l l'):Ent X l m l' m':=by
 intro a w γ hi;let γ':Nm:=λy=>match lk σ y with | some x=>γ x | none=>none
 have g:∀ y x,lk σ y=some x->γ' y=γ x:=λy x h=>by simp only[γ',h]
 have k:∀ b,Ow γ' (lk m') b->Ow γ (lk m) b:=by rintro b ⟨y,i,v,f,p,q,r⟩;obtain⟨x,c,g1,e,g3⟩:=s.get y i f;exact⟨x,c,v,e,g3.al p,by rw[<-g y x g1];exact q,r⟩
 have H:∀ b,X.S γ' (lk m') b->X.S γ (lk m) b:=λb h=>orM h (λx=>x) (k b);refine⟨γ',{ hi with keep:=?_,fresh:=?_,cts:=?_,apart:=?_,mine:=?_,sts:=?_ }⟩;intro id v t;rw[g id id (hk id v t)];exact hi.keep id v t;intro y P;cases h:lk σ y with
 | none=>simp only[γ',h]
 | some x=>obtain⟨c,I⟩:=hs.get y x h;rw[P] at I;cases I
 intro y i B;obtain⟨x,c,g1,e,g3⟩:=s.get y i B;have h0:=hi.cts x c e;have f:Yn w (X.S γ' (lk m')) γ x c:=h0.mono (Kp.refl _ _) (λb hb=>.inl (H b hb)) (Ng.refl _) (λ_ _ _ _=>rfl);exact f.rn1 g g1 g3;intro y K c i v v' b f p q r E F M N;obtain⟨x,d,g1,e,g3⟩:=s.get y c f;obtain⟨J,L,j,u,A⟩:=s.get K i q;rw[g y x g1] at E;rw[g K J j] at F;have:=hi.apart x J d L v v' b e (g3.al p) u (A.al r) E F M N;subst this;exact Qx9 hn (Q2a (Qcz g1) f p) (Q2a (Qcz j) q r);intro b hb;exact hi.mine b (k b hb);intro d C hd;obtain⟨ly,g1,e⟩:=O.get d C hd;obtain⟨v,t,n⟩:=hi.sts d ly g1;exact⟨v,t,(e w _ γ γ' g).2 v (Ly.val_mono (Kp.refl _ _) (λb hb=>.inl (H b hb)) (Ng.refl _) ly v n)⟩
inductive Lp (σ τ:Type) where
 | go (s:σ)
 | out (t:τ)
def loopM{σ τ:Type}(f:σ->Option (Lp σ τ)):Nat->σ->Option τ
 | 0,_=>none
 | n+1,s=>(f s).bind fun | .go s'=>loopM f n s' | .out t=>some t
def rangeL{α σ τ:Type}(f:Nat->α->σ->Option (Lp σ τ)):List α->Nat->σ->Option (Lp σ τ)
 | [],_,s=>some (.go s)
 | x::xs,i,s=>(f i x s).bind fun | .go s'=>rangeL f xs (i+1) s' | .out t=>some (.out t)
section rules
variable {R:Type}{X:Cx}{l:List (Nat×Ly)}{m:List (Nat×Ct)}{md:Option R}{Q:R->Exit->Act->World->Prop}{G:R->Act->World->Prop}
theorem bd{α:Type}{x:Option α}{f:α->Option R}(h:∀ y,x=some y->Sq X l m (f y) G):Sq X l m (x.bind f) G:=by
 intro r a w γ hr hi;cases d:x with
 | none=>rw[d] at hr;cases hr
 | some y=>rw[d] at hr;exact h y d r a w γ hr hi
theorem sent{l' m'}(h:Ent X l m l' m')(k:Sq X l' m' md G):Sq X l m md G:=by intro r a w γ hr hi;obtain⟨γ',d⟩:=h a w γ hi;exact k r a w γ' hr d
theorem join{σ:Type}{A:Option σ}{k:σ->Option R}{G':R->Act->World->Prop}(L:σ->List (Nat×Ly))(M:σ->List (Nat×Ct))
 (h:(∀ s,Sq X (L s) (M s) (k s) G')->Sq X l m (A.bind k) G) (J:∀ s,Sq X (L s) (M s) (k s) G'):Sq X l m (A.bind k) G:=h J
theorem sif{b:Bool}{d e:Option R}(f:b=true->Sq X l m d G)(g:b=false->Sq X l m e G):Sq X l m (bif b then d else e) G:=by cases b;exact g rfl;exact f rfl
theorem sifd{b:Bool}{f g:Option R}(d:Nat)(hd:lk l d=some (bl b))(j:Sq X ((d,bl true)::l) m f G)(k:Sq X ((d,bl false)::l) m g G):Sq X l m (bif b then f else g) G:=by
 refine sif (λhb=>?_) (λhb=>?_)<;>subst hb
 exact sent (λa w γ hi=>⟨γ,{ hi with sts:=λi ly h=>hi.sts i ly (by
  simp only[lk] at h;cases e:Nat.beq d i;rw[e] at h;exact h
  rw[e] at h;rw[<-xy e,hd];exact h) }⟩) j
 exact sent (λa w γ hi=>⟨γ,{ hi with sts:=λi ly h=>hi.sts i ly (by
  simp only[lk] at h;cases e:Nat.beq d i;rw[e] at h;exact h
  rw[e] at h;rw[<-xy e,hd];exact h) }⟩) k
def OpdF(st:Nat->Option Ly):Operand->Ly->Prop
 | .tmp t,ly=>st t=some ly
 | .const v,ly=>∀ w S γ,ly.val w S γ v
 | .func f,ly=>∀ w S γ,ly.val w S γ (.func (.func f) #[] #[])
 | .global g,ly=>∀ w S γ,ly.val w S γ (.pointer (some ⟨g,0,none⟩))
theorem OpdF.val{st mm a w γ}(hi:Inv X st mm a w γ){x:Operand}{ly:Ly}(h:OpdF st x ly):ly.val w (X.S γ mm) γ (a.eval x):=by
 cases x with
 | tmp t=>obtain⟨v,e,d⟩:=hi.sts t ly h;simpa [Act.eval,e] using d
 | const v=>exact h _ _ _
 | func f=>exact h _ _ _
 | global g=>exact h _ _ _
theorem scond{b:Bool}{c:Operand}{x y:Code}{d e:Option R}(i:OpdF (lk l) c (bl b))
 (f:Sq X l m d (λr=>x.wp X.P (Q r))) (g:Sq X l m e (λr=>y.wp X.P (Q r))) :
 Sq X l m (bif b then d else e) (λr=>(Code.cond c x y).wp X.P (Q r)):=by
 intro r a w γ hr hi;have:=i.val hi;simp only[bl,Ly.val,cpB] at this;refine wp_cond_split this (λhb=>?_) (λhb=>?_)<;>subst hb;exact f r a w γ hr hi;exact g r a w γ hr hi
theorem sskip(h:Sq X l m md (λr=>Q r .normal)):Sq X l m md (λr=>Code.skip.wp X.P (Q r)):=λr a w γ hr hi=>wp_skip (h r a w γ hr hi)
theorem sexit{id:Nat}(h:Sq X l m md (λr=>Q r (.exit id))):Sq X l m md (λr=>(Code.exit id).wp X.P (Q r)):=λr a w γ hr hi=>wp_exit (h r a w γ hr hi)
theorem sret(h:Sq X l m md (λr=>Q r .ret)):Sq X l m md (λr=>Code.ret.wp X.P (Q r)):=λr a w γ hr hi=>wp_ret (h r a w γ hr hi)
theorem sseq{x y:Code}(h:Sq X l m md (λr=>x.wp X.P (Exit.then (y.wp X.P (Q r)) (Q r)))):Sq X l m md (λr=>(Code.seq x y).wp X.P (Q r)):=
 λr a w γ hr hi=>wp_seq (h r a w γ hr hi)
theorem sblk{id:Nat}{c:Code}(h:Sq X l m md (λr=>c.wp X.P (Exit.inBlock id (Q r)))):Sq X l m md (λr=>(Code.block id c).wp X.P (Q r)):=
 λr a w γ hr hi=>wp_block (h r a w γ hr hi)
theorem sreg{id:Nat}{ls:List Oper}(h:Sq X l m md (λr=>wpList X.P ⟨ls⟩ (Q r) ls)):Sq X l m md (λr=>(Code.region id ⟨ls⟩ false).wp X.P (Q r)):=
 λr a w γ hr hi=>wp_region_list (h r a w γ hr hi)
theorem snil{ops:Array Oper}(h:Sq X l m md (λr=>Q r .normal)):Sq X l m md (λr=>wpList X.P ops (Q r) []):=h
theorem sx{id:Nat}(h:Sq X l m md (λr=>Q r .normal)):Sq X l m md (λr=>Exit.inBlock id (Q r) (.exit id)):=
 λr a w γ hr hi=>by simp only[Exit.inBlock,yf];exact h r a w γ hr hi
theorem sxo{id d:Nat}(f:Nat.beq d id=false)(h:Sq X l m md (λr=>Q r (.exit d))):Sq X l m md (λr=>Exit.inBlock id (Q r) (.exit d)):=
 λr a w γ hr hi=>by
  have:d≠id:=λe=>by subst e;simp at f
  simp only[Exit.inBlock,oj this];exact h r a w γ hr hi
theorem so{d op ty pos after}{ops:Array Oper}{rest:List Oper}{el em}(h:OpOk X (lk l) (lk m) ⟨d,op,ty,pos,after,none⟩ el em)
 (k:Sq X (el++l) (em++m) md (λr=>wpList X.P ops (Q r) rest)):Sq X l m md (λr=>wpList X.P ops (Q r) (⟨d,op,ty,pos,after,none⟩::rest)):=by
 intro r a w γ hr hi;refine wpList_plain rfl λK g=>h a w γ K (Q r) hi λf w' γ' e=>g f w' (k r f w' γ' hr ?_);rw[up_lk,up_lk] at e;exact e
theorem s1{d op ty pos after}{ops:Array Oper}{rest:List Oper}{e}(h:OpOk X (lk l) (lk m) ⟨d,op,ty,pos,after,none⟩ [e] [])
 (k:Sq X (e::l) m md (λr=>wpList X.P ops (Q r) rest)):Sq X l m md (λr=>wpList X.P ops (Q r) (⟨d,op,ty,pos,after,none⟩::rest)):=so h k
theorem Qo5{ops:Array Oper}{j d:Nat}{b:Bool}{st mm a w γ}(hi:Inv X st mm a w γ)(g:((ops[j]?).bind (·.dst))=some d)(i:st d=some (bl b)):yielded ops a.tmps j=some b:=by obtain⟨v,e,f⟩:=hi.sts d _ i;simp only[bl,Ly.val,cpB] at f;subst f;unfold yielded;simp[g,e]
theorem sg{d op ty pos after j b}{ops:Array Oper}{rest:List Oper}{el em}(g:Nat)(n:((ops[j]?).bind (·.dst))=some g)(p:lk l g=some (bl b))(h:OpOk X (lk l) (lk m) ⟨d,op,ty,pos,after,none⟩ el em)
 (k:Sq X (el++l) (em++m) md (λr=>wpList X.P ops (Q r) rest)):Sq X l m md (λr=>wpList X.P ops (Q r) (⟨d,op,ty,pos,after,some (j,b)⟩::rest)):=by
 intro r a w γ hr hi;refine wpList_step λK i=>?_;rw[oq (by simp[Region.wanted,Qo5 hi n p])];refine h a w γ K (Q r) hi λf w' γ' e=>i f w' (k r f w' γ' hr ?_);rw[up_lk,up_lk] at e;exact e
theorem sp{d op ty pos after j b}{ops:Array Oper}{rest:List Oper}(e:Nat)(g:((ops[j]?).bind (·.dst))=some e)(i:lk l e=some (bl (!b)))(hd:Nat.blt d X.N=true)
 (k:Sq X ((d,.any)::l) m md (λr=>wpList X.P ops (Q r) rest)):Sq X l m md (λr=>wpList X.P ops (Q r) (⟨some d,op,ty,pos,after,some (j,b)⟩::rest)):=by
 intro r a w γ hr hi;refine wpList_step λK f=>?_;rw[oj (by cases b<;>simp[Region.wanted,Qo5 hi g i])];refine f _ w (k r _ w γ hr ?_);have:=hi.put (d:=d) (v:=undef) (ly:=.any) (by simpa using hd) (by simp[Ly.val]);rw[up_lk] at this;exact this
def LpQ{σ τ:Type}(X:Cx)(L:σ->List (Nat×Ly))(M:σ->List (Nat×Ct))(k:τ->Option R)(Q:R->Exit->Act->World->Prop):Lp σ τ->Exit->Act->World->Prop
 | .go s,e,a,w=>e=.normal/\∃ γ,Inv X (lk (L s)) (lk (M s)) a w γ
 | .out t,e,a,w=>e≠.normal/\∀ r,k t=some r->Q r e a w
theorem sgo{σ τ:Type}{L:σ->List (Nat×Ly)}{M:σ->List (Nat×Ct)}{k:τ->Option R}{s:σ}(h:Ent X l m (L s) (M s)):
 Sq X l m (some (Lp.go s)) (λo=>LpQ X L M k Q o .normal):=by
 intro o a w γ d hi;cases d;exact⟨rfl,h a w γ hi⟩
theorem sout{σ τ:Type}{L:σ->List (Nat×Ly)}{M:σ->List (Nat×Ct)}{k:τ->Option R}{t:τ}{e:Exit}(d:e≠.normal)(h:Sq X l m (k t) (λr=>Q r e)):
 Sq X l m (some (Lp.out t)) (λ(o:Lp σ τ)=>LpQ X L M k Q o e):=by
 intro o a w γ f hi;cases f;exact⟨d,λr hr=>h r a w γ hr hi⟩
theorem Q85{P:Program}{Q:Exit->Act->World->Prop}{c:Code}(I:Nat->Act->World->Prop)
 (round:∀ n a w,I n a w->c.wp P (Exit.then (λg w'=>∃ i,i<n/\I i g w') Q) a w):∀ n a w,I n a w->(Code.loop c).wp P Q a w:=by
 intro r a0 w0 h0 b k cs;have p:∀ n a w,I n a w->∃ e g w',Q e g w'/\Arrives P (lone (b.at a (.code c::.inLoop c::k)) cs w) b k cs e g w':=by
  intro n
  induction n using Nat.strongRecOn with
  | _ n q=>
    intro a w hI;obtain⟨e,a₁,w₁,f,d⟩:=round n a w hI b (.inLoop c::k) cs;cases e with
    | normal=>
      obtain⟨i,j,hI₁⟩:=f;obtain⟨e₂,a₂,w₂,f₂,d₂⟩:=q i j a₁ w₁ hI₁;exact⟨e₂,a₂,w₂,f₂,.of_steps (Steps.trans d (.one step_inLoop)) d₂⟩
    | exit id=>exact⟨_,a₁,w₁,f,.pass (x:=.inLoop c) rfl (λ_ _=>.inl oc) d⟩
    | goto l=>exact⟨_,a₁,w₁,f,.pass (x:=.inLoop c) rfl (λ_ _=>.inl oc) d⟩
    | ret=>exact⟨_,a₁,w₁,f,.pass (x:=.inLoop c) rfl (λ_ _=>.inl oc) d⟩
    | panic ch=>exact⟨_,a₁,w₁,f,.pass (x:=.inLoop c) rfl (λ_ _=>.inl oc) d⟩
    | outgrown=>exact⟨_,a₁,w₁,f,.pass (x:=.inLoop c) rfl (λ_ _=>.inl oc) d⟩
 obtain⟨e,g,w',f,d⟩:=p r a0 w0 h0;exact⟨e,g,w',f,.of_steps (.one step_loop) d⟩
theorem sloop{σ τ τ0:Type}{body:Code}{f:σ->Option (Lp σ τ)}{n:Nat}{s0:σ}{k:τ->Option R}{G':R->Act->World->Prop}(inj:τ0->τ)
 (L:σ->List (Nat×Ly)) (M:σ->List (Nat×Ct)) (Lo:τ0->List (Nat×Ly)) (Mo:τ0->List (Nat×Ct)) (h0:Ent X l m (L s0) (M s0))
 (hb:(∀ t,Sq X (Lo t) (Mo t) (k (inj t)) G')->∀ s,Sq X (L s) (M s) (f s) (λo=>body.wp X.P (LpQ X L M k Q o)))
 (u:∀ t,Sq X (Lo t) (Mo t) (k (inj t)) G') :
 Sq X l m ((loopM f n s0).bind k) (λr=>(Code.loop body).wp X.P (Q r)):=by
 have hb:=hb u;intro r a w γ hr hi;obtain⟨γ0,j⟩:=h0 a w γ hi;refine Q85 (λn a w=>∃ s γ,((loopM f n s).bind k=some r)/\Inv X (lk (L s)) (lk (M s)) a w γ) ?_ n a w ⟨s0,γ0,hr,j⟩;rintro n a w ⟨s,γ,hr,hi⟩;cases n with
 | zero=>cases hr
 | succ n=>
   cases d:f s with
   | none=>simp[loopM,d] at hr
   | some o=>
     refine Code.wp_mono (λe v w' g=>?_) (hb s o a w γ d hi);cases o with
     | go s'=>
       obtain⟨rfl,γ',i⟩:=g;exact⟨n,Nat.lt_succ_self n,s',γ',by simpa [loopM,d] using hr,i⟩
     | out t=>
       obtain⟨q,g⟩:=g;have p:k t=some r:=by simpa [loopM,d] using hr
       have:=g r p;cases e<;>first | exact this | exact absurd rfl q
theorem pnm{y:Code}(h:Sq X l m md (λr=>y.wp X.P (Q r))):Sq X l m md (λr=>Exit.then (y.wp X.P (Q r)) (Q r) .normal):=h
theorem pth{N:R->Act->World->Prop}(h:Sq X l m md (λr=>Q r .ret)):Sq X l m md (λr=>Exit.then (N r) (Q r) .ret):=h
theorem ptx{N:R->Act->World->Prop}{id:Nat}(h:Sq X l m md (λr=>Q r (.exit id))):Sq X l m md (λr=>Exit.then (N r) (Q r) (.exit id)):=h
theorem pbn{id:Nat}(h:Sq X l m md (λr=>Q r .normal)):Sq X l m md (λr=>Exit.inBlock id (Q r) .normal):=h
theorem pbl{id:Nat}(h:Sq X l m md (λr=>Q r .ret)):Sq X l m md (λr=>Exit.inBlock id (Q r) .ret):=h
def jn{σ ρ:Type}(A:(σ->Option ρ)->Option ρ)(k:σ->Option ρ):Option ρ:=A k
def nkey{α:Type}(d:Nat):List (Nat×α)->Bool
 | []=>true
 | (i,_)::l=>!(Nat.beq i d) && nkey d l
theorem Qwu{α:Type}{d:Nat}:∀ {l:List (Nat×α)},nkey d l=true->lk l d=none
 | [],_=>rfl
 | (i,_)::l,h=>by simp only[nkey,ua,wd] at h;simp only[lk,h.1,cond_false];exact Qwu h.2
theorem srange{α σ τ:Type}{f:Nat->α->σ->Option (Lp σ τ)}{xs:List α}{s0:σ}{k:Lp σ τ->Option R}
 {id1 id2 e j g p q T1 T2 T3 T4 Y Z ty3:Nat}{p1 p2 p3:String}{f1 f2 f3:Array Edge}{B:Code}
 (L:σ->List (Nat×Ly)) (M:σ->List (Nat×Ct))
 (hd:(Nat.blt j X.N && Nat.blt g X.N && Nat.blt q X.N && !(Nat.beq j g) && !(Nat.beq j p) && !(Nat.beq g p) && !(Nat.beq q p) && !(Nat.beq q g))=true)
 (hk:∀ s,(nkey j (L s) && nkey g (L s) && nkey q (L s) && nkey p (L s))=true)
 (h0:Ent X l m ((g,i64 (0:Nat))::(p,i64 xs.length)::L s0) (M s0))
 (hb:∀(i:Nat) x s,xs[i]?=some x->Sq X ((g,i64 i)::(p,i64 xs.length)::L s) (M s) (f i x s)
  (λo=>B.wp X.P (LpQ X (λs=>(g,i64 i)::(p,i64 xs.length)::L s) M (λt=>k (.out t)) Q o)))
 (hJ:∀ s,Sq X (L s) (M s) (k (.go s)) (λr=>Q r (.exit e))) :
 Sq X l m ((rangeL f xs 0 s0).bind k) (λr=>(Code.loop (.seq (.region id1 ⟨[⟨some j,.binOp .lss T1 (.tmp g) (.tmp p) T2,Y,p1,f1,none⟩]⟩ false)
  (.seq (.cond (.tmp j) .skip (.exit e)) (.seq B (.region id2 ⟨[⟨some q,.binOp .add T3 (.tmp g) (.const (.int .i64 1)) T4,Z,p2,f2,none⟩,⟨some g,.move (.tmp q),ty3,p3,f3,none⟩]⟩ false))))).wp X.P (Q r)):=by
 simp only[ua,wd,Nat.blt_eq] at hd;obtain⟨⟨⟨⟨⟨⟨⟨hN1,hN2⟩,hN3⟩,e1⟩,e2⟩,e3⟩,e4⟩,e5⟩:=hd;intro r a w γ hr hi;obtain⟨γ0,hi0⟩:=h0 a w γ hi;refine Q85 (λn a w=>∃ i s γ,n=xs.length - i/\i<=xs.length/\((rangeL f (xs.drop i) i s).bind k=some r)/\Inv X (lk ((g,i64 i)::(p,i64 xs.length)::L s)) (lk (M s)) a w γ) ?_ xs.length a w ⟨0,s0,γ0,rfl,yx _,by simpa using hr,hi0⟩;rintro n a w ⟨i,s,γ,rfl,hile,hr,hi⟩;have C:=hk s;simp only[ua] at C;obtain⟨⟨⟨k1,k2⟩,k3⟩,k4⟩:=C;have V:=OpdF.val hi (x:=.tmp g) (ly:=i64 i) (by simp[OpdF,lk]);have W:=OpdF.val hi (x:=.tmp p) (ly:=i64 xs.length) (by simp[OpdF,lk,e3]);simp only[i64,Ly.val,cpI] at V W;refine wp_seq (wp_region_list (wpList_plain rfl λK P=>?_));have T:(execOp a.eval ⟨some j,.binOp .lss T1 (.tmp g) (.tmp p) T2,Y,p1,f1,none⟩).run X.P w=.ok (.value (.bool (decide (i<xs.length)))) w:=by
  simp only[execOp,V.1,W.1];simp[eqGuard,binOp,Op.intCmp,bind,Sem.bind,pure]
 unfold Oper.wp;rw[T];refine P _ _ ?_;have u:Inv X (lk ((j,bl (decide (i<xs.length)))::(g,i64 i)::(p,i64 xs.length)::L s)) (lk (M s)) (a.put (some j) (.bool (decide (i<xs.length)))) w γ:=by have:=hi.put (d:=j) (v:=.bool (decide (i<xs.length))) (ly:=bl (decide (i<xs.length))) hN1 (by simp[bl,Ly.val,cpB]);rw[up_lk] at this;exact this
 show Code.wp _ _ _ _ _;have A:=OpdF.val u (x:=.tmp j) (ly:=bl (decide (i<xs.length))) (by simp[OpdF,lk]);simp only[bl,Ly.val,cpB] at A;by_cases E:i<xs.length;obtain⟨x,hx⟩:∃ x,xs[i]?=some x:=⟨_,oi E⟩
 have hdrop:xs.drop i=x::xs.drop (i+1):=by rw[xe E];rw[oi E] at hx;simp at hx;rw[hx]
 rw[hdrop] at hr;have hdt:decide (i<xs.length)=true:=by simp[E]
 rw[hdt] at A u |-;refine wp_seq (wp_cond_true A (wp_skip ?_));show Code.wp _ _ _ _ _;cases hf:f i x s with
 | none=>simp[rangeL,hf] at hr
 | some o=>
   have hi2:Inv X (lk ((g,i64 i)::(p,i64 xs.length)::L s)) (lk (M s)) (a.put (some j) (.bool true)) w γ:=
    { u with sts:=λd ly hd=>u.sts d ly (by
     have O:Nat.beq j d=false:=by
      cases hb:Nat.beq j d;rfl;have:j=d:=xy hb;subst this;have e1':Nat.beq g j=false:=by cases hb:Nat.beq g j;rfl;rw[xy hb] at e1;simp at e1
      have e2':Nat.beq p j=false:=by cases hb:Nat.beq p j;rfl;rw[xy hb] at e2;simp at e2
      simp only[lk,e1',e2',cond_false,Qwu k1] at hd;cases hd
     show lk ((j,bl true)::_) d=_
     rw[lk,O];exact hd) }
   refine wp_seq (Code.wp_mono (λe' a' w' hq=>?_) (hb i x s hx o _ w γ hf hi2));cases o with
   | out t=>
     obtain⟨O,hq⟩:=hq;have hkt:k (.out t)=some r:=by simpa [rangeL,hf] using hr
     have:=hq r hkt;cases e'<;>first | exact this | exact absurd rfl O
   | go s'=>
     obtain⟨rfl,γ',I⟩:=hq;have hr':(rangeL f (xs.drop (i+1)) (i+1) s').bind k=some r:=by simpa [rangeL,hf] using hr
     have H:=OpdF.val I (x:=.tmp g) (ly:=i64 i) (by simp[OpdF,lk]);have F:=OpdF.val I (x:=.tmp p) (ly:=i64 xs.length) (by simp[OpdF,lk,e3]);simp only[i64,Ly.val,cpI] at H F;have hw:IntKind.i64.wrap ((i:Int)+1)=((i+1:Nat):Int):=by
      have h1:(xs.length:Int)<=9223372036854775807:=by simpa [IntKind.max,IntKind.signed,IntKind.bits] using F.2.2
      rw[IntKind.wrap_i64];omega
     show Code.wp _ _ _ _ _;refine wp_region_list (wpList_plain rfl λK P=>?_);have hrun2:(execOp a'.eval ⟨some q,.binOp .add T3 (.tmp g) (.const (.int .i64 1)) T4,Z,p2,f2,none⟩).run X.P w'=.ok (.value (.int .i64 ((i+1:Nat):Int))) w':=by simp only[execOp];rw[H.1];show Sem.run X.P _ w'=_;simp[eqGuard,binOp,Op.intArith,bind,Sem.bind,pure,Act.eval,hw]
     unfold Oper.wp;rw[hrun2];refine P _ _ ?_;have y:((i+1:Nat):Int)<=IntKind.i64.max:=by have h1:=F.2.2;omega
     have S:IntKind.i64.min<=((i+1:Nat):Int):=by
      have h1:IntKind.i64.min<=0:=oz
      omega
     have J:=I.put (d:=q) (v:=.int .i64 ((i+1:Nat):Int)) (ly:=i64 ((i+1:Nat):Int)) hN3 ⟨rfl,S,y⟩;rw[up_lk] at J;have U:=OpdF.val J (x:=.tmp q) (ly:=i64 ((i+1:Nat):Int)) (by simp[OpdF,lk]);simp only[i64,Ly.val,cpI] at U;refine wpList_plain rfl λK P=>?_;unfold Oper.wp;have hrun3:(execOp (Act.put a' (some q) (.int .i64 ((i+1:Nat):Int))).eval ⟨some g,.move (.tmp q),ty3,p3,f3,none⟩).run X.P w'=.ok (.value (.int .i64 ((i+1:Nat):Int))) w':=by
      simp only[execOp,U.1];rfl
     rw[hrun3];refine P _ _ ?_;have N:=J.put (d:=g) (v:=.int .i64 ((i+1:Nat):Int)) (ly:=i64 ((i+1:Nat):Int)) hN2 ⟨rfl,S,y⟩;rw[up_lk] at N;have C:=hk s';simp only[ua] at C;obtain⟨⟨⟨k1',k2'⟩,k3'⟩,k4'⟩:=C;refine⟨xs.length - (i+1),om,i+1,s',γ',rfl,om,hr',{ N with sts:=λd ly hd=>N.sts d ly ?_ }⟩;show lk ((g,_)::(q,_)::(g,_)::(p,_)::_) d=some ly;simp only[lk] at hd |-;cases y:Nat.beq g d;simp only[y,cond_false] at hd |-;cases hb2:Nat.beq q d
     simpa using hd
     have:q=d:=xy hb2;subst this;have e4':Nat.beq p q=false:=by cases hb:Nat.beq p q;rfl;rw[xy hb] at e4;simp at e4
     rw[e4',cond_false,Qwu k3'] at hd;cases hd;simp only[y,cond_true] at hd |-;exact hd
 have:xs.drop i=[]:=tg om;rw[this] at hr;have hdf:decide (i<xs.length)=false:=by simp[E]
 rw[hdf] at A u |-;refine wp_seq (wp_cond_false A (wp_exit ?_));show Q r (.exit e) _ _;refine hJ s r _ w γ (by simpa [rangeL] using hr) { u with sts:=λd ly hd=>u.sts d ly ?_ }
 have nk:∀ t,nkey t (L s)=true->Nat.beq t d=false:=λt ht=>by cases hb:Nat.beq t d;rfl;rw[xy hb] at ht;rw[Qwu ht] at hd;cases hd
 show lk ((j,_)::(g,_)::(p,_)::_) d=some ly;simp only[lk,nk j k1,nk g k2,nk p k4,cond_false];exact hd
end rules
def i32(x:Int):Ly:=.cell (cpI .i32 x)
def uk(k:IntKind)(x:Nat):Ly:=.cell (cpI k x)
abbrev u8(x:Nat):Ly:=uk .u8 x
abbrev u32(x:Nat):Ly:=uk .u32 x
abbrev u64(x:Nat):Ly:=uk .u64 x
def cpX(v0:Value)(h:v0.oneCell'=true):CP where
 p:=λ_ _ v=>v=v0
 one:=by intro _ _ v d;subst d;exact h
 mono:=λh _ _=>h
def cpS(s:List UInt8):CP where
 p:=λ_ _ v=>v=.string ⟨s.toArray⟩/\s.length<=maxLen
 one:=by intro _ _ v h;obtain⟨rfl,_⟩:=h;rfl
 mono:=λh _ _=>h
def str(s:List UInt8):Ly:=.cell (cpS s)
def cpL(k:Nat)(ls:List Ly):CP where
 p:=λw S v=>(v=.slice none 0 0/\ls=[])\/(∃ b o cap cs,v=.slice (some ⟨b,o,none⟩) ls.length cap/\ls.length<=cap/\cap<=maxLen/\b<w.heap.size/\¬ S b /\
  (∀ j u,cs[j]?=some u->w.cell? ⟨b,o+j,none⟩=some u)/\Ly.holds w S (λ_=>none) ls cs/\∀ ly∈ls,ly.sz=k)\/(ls=[]/\∃ d,v=.slice (some d) 0 0)
 one:=by rintro _ _ v (⟨rfl,_⟩ | ⟨b,o,cap,cs,rfl,_⟩ | ⟨_,d,rfl⟩)<;>rfl
 mono:=by rintro w S v w' S' (⟨rfl,h⟩ | ⟨b,o,cap,cs,rfl,g,i,n,e,q,r,s⟩ | h) hk hs;exact .inl ⟨rfl,h⟩;exact .inr (.inl ⟨b,o,cap,cs,rfl,g,i,xt n hk.1,λf=>(hs b f).elim e (λh''=>by omega),λj u t=>hk.cell e (q j u t),Ly.holds_mono hk hs (Ng.refl _) ls cs r,s⟩);exact .inr (.inr h)
def sli(k:Nat)(ls:List Ly):Ly:=.cell (cpL k ls)
theorem Vw{x}:IF (i64 x):=Qi6 _
theorem Joy{x}:IF (i32 x):=Qi6 _
theorem if_u8{x}:IF (u8 x):=Qi6 _
theorem Xm{x}:IF (u32 x):=Qi6 _
theorem Joz{x}:IF (u64 x):=Qi6 _
theorem if_bl{x}:IF (bl x):=Qi6 _
theorem Qz7{x}:IF (str x):=Qi6 _
theorem Qa4{k x}:IF (sli k x):=Qi6 _
section ops
variable {X:Cx}{st:Nat->Option Ly}{mm:Nat->Option Ct}
theorem Xn{d op ty pos af ly}(hd:Nat.blt d X.N=true)
 (h:∀ a w γ,Inv X st mm a w γ->∃ v,(execOp a.eval ⟨some d,op,ty,pos,af,none⟩).run X.P w=.ok (.value v) w/\ly.val w (X.S γ mm) γ v) :
 OpOk X st mm ⟨some d,op,ty,pos,af,none⟩ [(d,ly)] []:=by
 intro a w γ K Q hi e;obtain⟨v,hr,f⟩:=h a w γ hi;unfold Oper.wp;rw[hr];exact e _ _ γ (hi.put (by simpa using hd) f)
theorem mv{d x ty pos af ly}(hd:Nat.blt d X.N=true)(e:OpdF st x ly):OpOk X st mm ⟨some d,.move x,ty,pos,af,none⟩ [(d,ly)] []:=
 Xn hd λ_ _ _ hi=>⟨_,rfl,e.val hi⟩
theorem asg{d x ty pos af ly}(hd:Nat.blt d X.N=true)(e:OpdF st x ly):OpOk X st mm ⟨some d,.assign x,ty,pos,af,none⟩ [(d,ly)] []:=
 Xn hd λ_ _ _ hi=>⟨_,rfl,e.val hi⟩
theorem pickT{d c x y ty pos af ly}(hd:Nat.blt d X.N=true)(e:OpdF st c (bl true))(f:OpdF st x ly):OpOk X st mm ⟨some d,.pick c x y,ty,pos,af,none⟩ [(d,ly)] []:=
 Xn hd λ_ _ _ hi=>⟨_,by
  have:=e.val hi;simp only[bl,Ly.val,cpB] at this
  simp only[execOp,this];rfl,f.val hi⟩
theorem pickF{d c x y ty pos af ly}(hd:Nat.blt d X.N=true)(e:OpdF st c (bl false))(f:OpdF st y ly):OpOk X st mm ⟨some d,.pick c x y,ty,pos,af,none⟩ [(d,ly)] []:=
 Xn hd λ_ _ _ hi=>⟨_,by
  have:=e.val hi;simp only[bl,Ly.val,cpB] at this
  simp only[execOp,this];rfl,f.val hi⟩
theorem kB{b}:OpdF st (.const (.bool b)) (bl b):=λ_ _ _=>by simp[bl,Ly.val,cpB]
theorem kI{x:Int}(h:(decide (-9223372036854775808<=x) && decide (x<=9223372036854775807))=true):OpdF st (.const (.int .i64 x)) (i64 x):=λ_ _ _=>by simp only[ua,gj] at h;exact⟨rfl,h.1,h.2⟩
theorem k32{x:Nat}(h:Nat.ble x 4294967295=true):OpdF st (.const (.int .u32 x)) (u32 x):=λ_ _ _=>by have:=vz h;exact⟨rfl,by show(0:Int)<=_;omega,by show(x:Int)<=4294967295;omega⟩
theorem k8{x:Nat}(h:Nat.ble x 255=true):OpdF st (.const (.int .u8 x)) (u8 x):=λ_ _ _=>by have:=vz h;exact⟨rfl,by show(0:Int)<=_;omega,by show(x:Int)<=255;omega⟩
theorem k64{x:Nat}(h:Nat.ble x 18446744073709551615=true):OpdF st (.const (.int .u64 x)) (u64 x):=λ_ _ _=>by have:=vz h;exact⟨rfl,by show(0:Int)<=_;omega,by show(x:Int)<=18446744073709551615;omega⟩
theorem kS{s:List UInt8}(h:Nat.ble s.length 1000000=true):OpdF st (.const (.string ⟨s.toArray⟩)) (str s):=λ_ _ _=>
 ⟨rfl,by have:=vz h;unfold maxLen;omega⟩
theorem Qm7{d o T x y k ty pos af i g j}(hd:Nat.blt d X.N=true)(r:OpdF st x i)(s:OpdF st y g)
 (h:∀ w S γ e f,i.val w S γ e->g.val w S γ f->∃ v,(∀ w,(eqGuard o T x y e f).run X.P w=.ok () w)/\(∀ w,(binOp o T e f).run X.P w=.ok v w)/\j.val w S γ v) :
 OpOk X st mm ⟨some d,.binOp o T x y k,ty,pos,af,none⟩ [(d,j)] []:=
 Xn hd λa w γ hi=>by obtain⟨v,n,p,q⟩:=h w _ γ _ _ (r.val hi) (s.val hi);refine⟨v,?_,q⟩;simp only[execOp];simp[n,p]
theorem w64_b(n:Int):IntKind.i64.min<=wrap64 n/\wrap64 n<=IntKind.i64.max:=by
 have d:IntKind.i64.min=-9223372036854775808:=oz
 have e:IntKind.i64.max=9223372036854775807:=oz
 rw[d,e];unfold wrap64;omega
theorem Qm8(n:Int):IntKind.i64.wrap n=wrap64 n:=by rw[IntKind.wrap_i64];simp only[wrap64]
theorem arI{d x y T e ty pos af p q z}{o:BinOp}(k:∀ w,(binOp o T (.int .i64 p) (.int .i64 q)).run X.P w=.ok (.int .i64 (wrap64 z)) w)(n:(o matches .eql | .neq)=false)
 (hd:Nat.blt d X.N=true) (i:OpdF st x (i64 p)) (j:OpdF st y (i64 q)) :
 OpOk X st mm ⟨some d,.binOp o T x y e,ty,pos,af,none⟩ [(d,i64 (wrap64 z))] []:=
 Qm7 hd i j λw S γ r s f g=>by obtain⟨rfl,_⟩:=f;obtain⟨rfl,_⟩:=g;exact⟨_,λw=>by cases o<;>simp_all [eqGuard],k,rfl,w64_b z⟩
theorem addI{d x y T e ty pos af p q}(hd:Nat.blt d X.N=true)(f:OpdF st x (i64 p))(g:OpdF st y (i64 q)):
 OpOk X st mm ⟨some d,.binOp .add T x y e,ty,pos,af,none⟩ [(d,i64 (wrap64 (p+q)))] []:=arI (λw=>by simp[binOp,Op.intArith,Qm8]) rfl hd f g
theorem subI{d x y T e ty pos af p q}(hd:Nat.blt d X.N=true)(f:OpdF st x (i64 p))(g:OpdF st y (i64 q)):
 OpOk X st mm ⟨some d,.binOp .sub T x y e,ty,pos,af,none⟩ [(d,i64 (wrap64 (p - q)))] []:=arI (λw=>by simp[binOp,Op.intArith,Qm8]) rfl hd f g
theorem mulI{d x y T e ty pos af p q}(hd:Nat.blt d X.N=true)(f:OpdF st x (i64 p))(g:OpdF st y (i64 q)):
 OpOk X st mm ⟨some d,.binOp .mul T x y e,ty,pos,af,none⟩ [(d,i64 (wrap64 (p*q)))] []:=arI (λw=>by simp[binOp,Op.intArith,Qm8]) rfl hd f g
theorem quoI{d x y T e ty pos af p q}(f:(q == 0)=false)(hd:Nat.blt d X.N=true)(g:OpdF st x (i64 p))(i:OpdF st y (i64 q)):
 OpOk X st mm ⟨some d,.binOp .quo T x y e,ty,pos,af,none⟩ [(d,i64 (wrap64 (p.tdiv q)))] []:=
 arI (λw=>by have:q≠0:=by simpa using f
             simp[binOp,Op.intDiv,Qm8,this]) rfl hd g i
theorem remI{d x y T r ty pos af p q}(s:(q == 0)=false)(hd:Nat.blt d X.N=true)(t:OpdF st x (i64 p))(u:OpdF st y (i64 q)):
 OpOk X st mm ⟨some d,.binOp .rem T x y r,ty,pos,af,none⟩ [(d,i64 (p.tmod q))] []:=
 Qm7 hd t u λw S γ B C e f=>by
  have j:q≠0:=by simpa using s
  obtain⟨rfl,g,i⟩:=e;obtain⟨rfl,k,n⟩:=f;refine⟨_,λw=>by simp[eqGuard],λw=>by simp[binOp,Op.intDiv,j],rfl,?_⟩;have e:IntKind.i64.min=-9223372036854775808:=oz
  have f:IntKind.i64.max=9223372036854775807:=oz
  rw[e] at g k |-;rw[f] at i n |-;have v:(p.tmod q).natAbs=p.natAbs%q.natAbs:=Int.natAbs_tmod p q;have A:p.natAbs%q.natAbs<q.natAbs:=uw _ om;omega
theorem negI{d x T ty pos af p}(hd:Nat.blt d X.N=true)(f:OpdF st x (i64 p)):
 OpOk X st mm ⟨some d,.unOp .neg T x,ty,pos,af,none⟩ [(d,i64 (wrap64 (-p)))] []:=
 Xn hd λa w γ hi=>by obtain⟨e,_⟩:=f.val hi;exact⟨.int .i64 (wrap64 (-p)),by simp only[execOp,e];simp[Op.unary,Op.intArith,Qm8],rfl,w64_b _⟩
theorem notB{d x T ty pos af b}(hd:Nat.blt d X.N=true)(f:OpdF st x (bl b)):
 OpOk X st mm ⟨some d,.unOp .not T x,ty,pos,af,none⟩ [(d,bl (!b))] []:=
 Xn hd λa w γ hi=>by have e:=f.val hi;simp only[bl,Ly.val,cpB] at e;exact⟨.bool (!b),by simp only[execOp,e];simp[Op.unary],by simp[bl,Ly.val,cpB]⟩
theorem cmI{d x y T e ty pos af p q b}{o:BinOp}{k:IntKind}(n:∀ w,(binOp o T (.int k p) (.int k q)).run X.P w=.ok (.bool b) w)
 (hd:Nat.blt d X.N=true) (i:OpdF st x (.cell (cpI k p))) (j:OpdF st y (.cell (cpI k q))) :
 OpOk X st mm ⟨some d,.binOp o T x y e,ty,pos,af,none⟩ [(d,bl b)] []:=
 Qm7 hd i j λw S γ r s f g=>by obtain⟨rfl,_⟩:=f;obtain⟨rfl,_⟩:=g;exact⟨_,λw=>by cases o<;>simp[eqGuard],n,by simp[bl,Ly.val,cpB]⟩
theorem ltI{d x y T e ty pos af p q}(hd:Nat.blt d X.N=true)(f:OpdF st x (i64 p))(g:OpdF st y (i64 q)):
 OpOk X st mm ⟨some d,.binOp .lss T x y e,ty,pos,af,none⟩ [(d,bl (decide (p<q)))] []:=cmI (λw=>by simp[binOp,Op.intCmp]) hd f g
theorem leI{d x y T e ty pos af p q}(hd:Nat.blt d X.N=true)(f:OpdF st x (i64 p))(g:OpdF st y (i64 q)):
 OpOk X st mm ⟨some d,.binOp .leq T x y e,ty,pos,af,none⟩ [(d,bl (decide (p<=q)))] []:=cmI (λw=>by simp[binOp,Op.intCmp]) hd f g
theorem gtI{d x y T e ty pos af p q}(hd:Nat.blt d X.N=true)(f:OpdF st x (i64 p))(g:OpdF st y (i64 q)):
 OpOk X st mm ⟨some d,.binOp .gtr T x y e,ty,pos,af,none⟩ [(d,bl (decide (q<p)))] []:=cmI (λw=>by simp[binOp,Op.intCmp]) hd f g
theorem geI{d x y T e ty pos af p q}(hd:Nat.blt d X.N=true)(f:OpdF st x (i64 p))(g:OpdF st y (i64 q)):
 OpOk X st mm ⟨some d,.binOp .geq T x y e,ty,pos,af,none⟩ [(d,bl (decide (q<=p)))] []:=cmI (λw=>by simp[binOp,Op.intCmp]) hd f g
theorem eqI{d x y T e ty pos af p q}(hd:Nat.blt d X.N=true)(f:OpdF st x (i64 p))(g:OpdF st y (i64 q)):
 OpOk X st mm ⟨some d,.binOp .eql T x y e,ty,pos,af,none⟩ [(d,bl (decide (p=q)))] []:=cmI (λw=>by simp[binOp,Op.intCmp];rfl) hd f g
theorem neI{d x y T e ty pos af p q}(hd:Nat.blt d X.N=true)(f:OpdF st x (i64 p))(g:OpdF st y (i64 q)):
 OpOk X st mm ⟨some d,.binOp .neq T x y e,ty,pos,af,none⟩ [(d,bl (!decide (p=q)))] []:=cmI (λw=>by simp[binOp,Op.intCmp];rfl) hd f g
theorem ltU{d x y T e ty pos af p q}(k:IntKind)(hd:Nat.blt d X.N=true)(f:OpdF st x (uk k p))(g:OpdF st y (uk k q)):
 OpOk X st mm ⟨some d,.binOp .lss T x y e,ty,pos,af,none⟩ [(d,bl (decide (p<q)))] []:=cmI (k:=k) (p:=p) (q:=q) (λw=>by simp[binOp,Op.intCmp]) hd f g
theorem leU{d x y T e ty pos af p q}(k:IntKind)(hd:Nat.blt d X.N=true)(f:OpdF st x (uk k p))(g:OpdF st y (uk k q)):
 OpOk X st mm ⟨some d,.binOp .leq T x y e,ty,pos,af,none⟩ [(d,bl (decide (p<=q)))] []:=cmI (k:=k) (p:=p) (q:=q) (λw=>by simp[binOp,Op.intCmp]) hd f g
theorem gtU{d x y T e ty pos af p q}(k:IntKind)(hd:Nat.blt d X.N=true)(f:OpdF st x (uk k p))(g:OpdF st y (uk k q)):
 OpOk X st mm ⟨some d,.binOp .gtr T x y e,ty,pos,af,none⟩ [(d,bl (decide (q<p)))] []:=cmI (k:=k) (p:=p) (q:=q) (λw=>by simp[binOp,Op.intCmp]) hd f g
theorem geU{d x y T e ty pos af p q}(k:IntKind)(hd:Nat.blt d X.N=true)(f:OpdF st x (uk k p))(g:OpdF st y (uk k q)):
 OpOk X st mm ⟨some d,.binOp .geq T x y e,ty,pos,af,none⟩ [(d,bl (decide (q<=p)))] []:=cmI (k:=k) (p:=p) (q:=q) (λw=>by simp[binOp,Op.intCmp]) hd f g
theorem eqU{d x y T e ty pos af p q}(k:IntKind)(hd:Nat.blt d X.N=true)(f:OpdF st x (uk k p))(g:OpdF st y (uk k q)):
 OpOk X st mm ⟨some d,.binOp .eql T x y e,ty,pos,af,none⟩ [(d,bl (decide (p=q)))] []:=cmI (k:=k) (p:=p) (q:=q) (λw=>by
  have:((p:Int) == (q:Int))=decide (p=q):=by rw[Bool.eq_iff_iff];simp;omega
  simp[binOp,Op.intCmp,this]) hd f g
theorem neU{d x y T e ty pos af p q}(k:IntKind)(hd:Nat.blt d X.N=true)(f:OpdF st x (uk k p))(g:OpdF st y (uk k q)):
 OpOk X st mm ⟨some d,.binOp .neq T x y e,ty,pos,af,none⟩ [(d,bl (!decide (p=q)))] []:=cmI (k:=k) (p:=p) (q:=q) (λw=>by
  have:((p:Int) != (q:Int))=!decide (p=q):=by rw[Bool.eq_iff_iff];simp;omega
  simp[binOp,Op.intCmp,this]) hd f g
structure UK(k:IntKind)(N:Nat):Prop where
 wrap:∀ n:Int,k.wrap n=n%N
 min:k.min=0
 max:k.max=(N:Int) - 1
 bits:2 ^ k.bits=N
 pos:0<N
theorem uk8:UK .u8 256:=⟨λn=>IntKind.wrap_u8 n,oz,oz,oz,oz⟩
theorem uk32:UK .u32 4294967296:=⟨λn=>IntKind.wrap_u32 n,oz,oz,oz,oz⟩
theorem uk64:UK .u64 18446744073709551616:=⟨λn=>IntKind.wrap_u64 n,oz,oz,oz,oz⟩
theorem uk_b{k N}(h:UK k N)(x:Nat)(d:x<N):k.min<=(x:Int)/\(x:Int)<=k.max:=by rw[h.min,h.max];omega
theorem arU{d x y T f ty pos af p q}{z:Nat}{o:BinOp}{k N}(e:UK k N)(u:p<N->q<N->z<N/\∀ w,(binOp o T (.int k p) (.int k q)).run X.P w=.ok (.int k z) w)(v:(o matches .eql | .neq)=false)
 (hd:Nat.blt d X.N=true) (s:OpdF st x (uk k p)) (t:OpdF st y (uk k q)) :
 OpOk X st mm ⟨some d,.binOp o T x y f,ty,pos,af,none⟩ [(d,uk k z)] []:=
 Qm7 hd s t λw S γ A B i j=>by obtain⟨rfl,_,a2⟩:=i;obtain⟨rfl,_,g⟩:=j;rw[e.max] at a2 g;obtain⟨n,r⟩:=u om om;exact⟨_,λw=>by cases o<;>simp_all [eqGuard],r,rfl,uk_b e z n⟩
theorem addU{d x y T f ty pos af p q k N}(e:UK k N)(hd:Nat.blt d X.N=true)(g:OpdF st x (uk k p))(i:OpdF st y (uk k q)):
 OpOk X st mm ⟨some d,.binOp .add T x y f,ty,pos,af,none⟩ [(d,uk k ((p+q)%N))] []:=
 arU e (λ_ _=>⟨uw _ e.pos,λw=>by simp[binOp,Op.intArith,e.wrap]⟩) rfl hd g i
theorem subU{d x y T f ty pos af p q k N}(e:UK k N)(hd:Nat.blt d X.N=true)(g:OpdF st x (uk k p))(i:OpdF st y (uk k q)):
 OpOk X st mm ⟨some d,.binOp .sub T x y f,ty,pos,af,none⟩ [(d,uk k ((p+N - q)%N))] []:=
 arU e (λhp j=>⟨uw _ e.pos,λw=>by
  have:((p:Int) - q)%(N:Int)=((p+N - q:Nat):Int)%(N:Int):=by rw[Int.ofNat_sub om,Int.natCast_add,show(p:Int)+N - q=p - q+N by omega,Int.add_emod_right]
  simp[binOp,Op.intArith,e.wrap,this]⟩) rfl hd g i
theorem mulU{d x y T f ty pos af p q k N}(e:UK k N)(hd:Nat.blt d X.N=true)(g:OpdF st x (uk k p))(i:OpdF st y (uk k q)):
 OpOk X st mm ⟨some d,.binOp .mul T x y f,ty,pos,af,none⟩ [(d,uk k ((p*q)%N))] []:=
 arU e (λ_ _=>⟨uw _ e.pos,λw=>by simp[binOp,Op.intArith,e.wrap]⟩) rfl hd g i
theorem quoU{d x y T f ty pos af p q k N}(e:UK k N)(j:Nat.beq q 0=false)(hd:Nat.blt d X.N=true)(n:OpdF st x (uk k p))(r:OpdF st y (uk k q)):
 OpOk X st mm ⟨some d,.binOp .quo T x y f,ty,pos,af,none⟩ [(d,uk k (p / q))] []:=
 arU e (λhp _=>⟨um (jl _ _) hp,λw=>by
  have h0:q≠0:=by rintro rfl;simp at j
  have g:((p / q:Nat):Int)%(N:Int)=((p / q:Nat):Int):=by
   rw[Int.emod_eq_of_lt (dp _)]
   exact_mod_cast um (jl _ _) hp
  have i:(p:Int).tdiv q=((p / q:Nat):Int):=rfl;simp[binOp,Op.intDiv,e.wrap,h0,i]
  simpa using g⟩) rfl hd n r
theorem remU{d x y T e ty pos af p q k N}(i:UK k N)(g:Nat.beq q 0=false)(hd:Nat.blt d X.N=true)(j:OpdF st x (uk k p))(n:OpdF st y (uk k q)):
 OpOk X st mm ⟨some d,.binOp .rem T x y e,ty,pos,af,none⟩ [(d,uk k (p%q))] []:=
 arU i (λhp _=>⟨um (Nat.mod_le _ _) hp,λw=>by
  have h0:q≠0:=by rintro rfl;simp at g
  have f:(p:Int).tmod q=((p%q:Nat):Int):=rfl
  simp[binOp,Op.intDiv,h0,f]⟩) rfl hd j n
theorem orU{d x y T j ty pos af p q k N}(f:UK k N)(hd:Nat.blt d X.N=true)(r:OpdF st x (uk k p))(s:OpdF st y (uk k q)):
 OpOk X st mm ⟨some d,.binOp .or T x y j,ty,pos,af,none⟩ [(d,uk k (p ||| q))] []:=
 arU f (λhp g=>by
  have e:p ||| q<N:=by rw[<-f.bits] at hp g |-;exact Nat.or_lt_two_pow hp g
  refine⟨e,λw=>?_⟩
  have i:∀ n:Nat,n<N->n%2 ^ k.bits=n:=λn hn=>by rw[f.bits];exact xv hn
  have:((p ||| q:Nat):Int)%(N:Int)=((p ||| q:Nat):Int):=Int.emod_eq_of_lt (dp _) (by exact_mod_cast e);simp only[binOp,Op.intBits];simp[BitVec.toNat_or,f.wrap,i p hp,i q g]
  exact this) rfl hd r s
theorem andU{d x y T i ty pos af p q k N}(f:UK k N)(hd:Nat.blt d X.N=true)(r:OpdF st x (uk k p))(s:OpdF st y (uk k q)):
 OpOk X st mm ⟨some d,.binOp .and T x y i,ty,pos,af,none⟩ [(d,uk k (p &&& q))] []:=
 arU f (λhp j=>by
  have e:p &&& q<N:=um Nat.and_le_left hp;refine⟨e,λw=>?_⟩
  have g:∀ n:Nat,n<N->n%2 ^ k.bits=n:=λn hn=>by rw[f.bits];exact xv hn
  have:((p &&& q:Nat):Int)%(N:Int)=((p &&& q:Nat):Int):=Int.emod_eq_of_lt (dp _) (by exact_mod_cast e);simp only[binOp,Op.intBits];simp[BitVec.toNat_and,f.wrap,g p hp,g q j]
  exact this) rfl hd r s
end ops
def getI{α:Type}(l:List α)(i:Int):Option α:=if 0<=i then l[i.toNat]? else none
def getS(l:List UInt8)(i:Int):Option Nat:=if 0<=i then (l[i.toNat]?).map (·.toNat) else none
def grd(b:Bool):Option Unit:=bif b then some () else none
def sub{α:Type}(l:List α)(lo hi:Int):Option (List α):=if 0<=lo/\lo<=hi/\hi<=l.length then some ((l.take hi.toNat).drop lo.toNat) else none
def appM{α:Type}(b:Nat)(l r:List α):Option (List α):=if (l.length+r.length)*b<=140737488355328/\l.length+r.length<=9223372036854775807 then some (l++r) else none
def mkM{α:Type}(b:Nat)(z:α)(n:Int):Option (List α):=if 0<=n/\n*b<=140737488355328/\n<=9223372036854775807 then some (List.replicate n.toNat z) else none
def catS(x y:List UInt8):Option (List UInt8):=if x.length+y.length<=9223372036854775807 then some (x++y) else none
theorem Qew{b:Bool}{u:Unit}(h:grd b=some u):b=true:=by cases b<;>simp[grd] at h;rfl
section ops
variable {X:Cx}{st:Nat->Option Ly}{mm:Nat->Option Ct}
theorem cv_ok{d x S T ty pos af f g ds k}(i:X.P.underlying S=some ds)(j:X.P.underlying T=some (.int k))(hd:Nat.blt d X.N=true)(r:OpdF st x f)
 (h:∀ w S γ v,f.val w S γ v->∃ e n,v=.int e n/\g.val w S γ (.int k (k.wrap n))) :
 OpOk X st mm ⟨some d,.convert S T x,ty,pos,af,none⟩ [(d,g)] []:=
 Xn hd λa w γ hi=>by obtain⟨e,n,q,p⟩:=h w _ γ _ (r.val hi);refine⟨_,?_,p⟩;simp only[execOp,q];simp[convert,underlying,i,j,Conv.intToInt]
theorem cvU{d x S T ty pos af ds k n N p}(e:UK k N)(f:X.P.underlying S=some ds)(g:X.P.underlying T=some (.int k))(hd:Nat.blt d X.N=true)(j:OpdF st x (uk n p)):
 OpOk X st mm ⟨some d,.convert S T x,ty,pos,af,none⟩ [(d,uk k (p%N))] []:=
 cv_ok f g hd j λw S γ v i=>by obtain⟨rfl,_⟩:=i;refine⟨_,_,rfl,?_,uk_b e _ (uw _ e.pos)⟩;rw[e.wrap];simp
theorem cvUw{d x S T ty pos af ds k g N N' p}(f:UK k N)(e:UK g N')(j:Nat.ble N' N=true)(n:X.P.underlying S=some ds)(q:X.P.underlying T=some (.int k))(hd:Nat.blt d X.N=true)(s:OpdF st x (uk g p)):
 OpOk X st mm ⟨some d,.convert S T x,ty,pos,af,none⟩ [(d,uk k p)] []:=
 cv_ok n q hd s λw S γ v r=>by
  obtain⟨rfl,_,i⟩:=r;rw[e.max] at i;have:=vz j;have hp:p<N:=om
  refine⟨_,_,rfl,?_,uk_b f _ hp⟩;rw[f.wrap,Int.emod_eq_of_lt (dp _) (by exact_mod_cast hp)]
theorem cvIU{d x S T ty pos af ds k n N}{p:Int}(e:UK k N)(f:X.P.underlying S=some ds)(g:X.P.underlying T=some (.int k))(hd:Nat.blt d X.N=true)(j:OpdF st x (.cell (cpI n p))):
 OpOk X st mm ⟨some d,.convert S T x,ty,pos,af,none⟩ [(d,uk k (p%(N:Int)).toNat)] []:=
 cv_ok f g hd j λw S γ v i=>by obtain⟨rfl,_⟩:=i;have r:=e.pos;have h0:=Int.emod_nonneg p (b:=(N:Int)) om;have q:=Int.emod_lt_of_pos p (b:=(N:Int)) om;refine⟨_,_,rfl,?_,uk_b e _ om⟩;rw[e.wrap,Int.toNat_of_nonneg h0]
theorem cvUI{d x S T ty pos af ds j p}(e:X.P.underlying S=some ds)(f:X.P.underlying T=some (.int .i64))(hd:Nat.blt d X.N=true)(i:OpdF st x (uk j p)):
 OpOk X st mm ⟨some d,.convert S T x,ty,pos,af,none⟩ [(d,i64 (wrap64 p))] []:=
 cv_ok e f hd i λw S γ v g=>by obtain⟨rfl,_⟩:=g;exact⟨_,_,rfl,by rw[Qm8],w64_b _⟩
theorem cvUIw{d x S T ty pos af ds g N' p}(f:UK g N')(j:Nat.ble N' 9223372036854775808=true)(k:X.P.underlying S=some ds)(n:X.P.underlying T=some (.int .i64))(hd:Nat.blt d X.N=true)(r:OpdF st x (uk g p)):
 OpOk X st mm ⟨some d,.convert S T x,ty,pos,af,none⟩ [(d,i64 p)] []:=
 cv_ok k n hd r λw S γ v q=>by
  obtain⟨rfl,_,i⟩:=q;rw[f.max] at i;have:=vz j;have e:wrap64 (p:Int)=p:=by unfold wrap64;omega
  have hb:=w64_b (p:Int);rw[e] at hb;exact⟨_,_,rfl,by rw[Qm8,e],hb⟩
theorem shlU{d x y T f ty pos af p k N s}{q:Int}(e:UK k N)(j:(decide (0<=q))=true)(hd:Nat.blt d X.N=true)(n:OpdF st x (uk k p))(r:OpdF st y (.cell (cpI s q))):
 OpOk X st mm ⟨some d,.binOp .shl T x y f,ty,pos,af,none⟩ [(d,uk k ((p*2 ^ (min q.toNat k.bits))%N))] []:=
 Qm7 hd n r λw S γ t u g i=>by
  obtain⟨rfl,_⟩:=g;obtain⟨rfl,_⟩:=i;have:¬ q<0:=by have:=vm j;omega
  exact⟨_,λw=>by simp[eqGuard],λw=>by simp[binOp,Op.shift,this,e.wrap];rfl,oc,uk_b e _ (uw _ e.pos)⟩
theorem shrU{d x y T g ty pos af p k N t}{q:Int}(f:UK k N)(n:(decide (0<=q))=true)(hd:Nat.blt d X.N=true)(r:OpdF st x (uk k p))(s:OpdF st y (.cell (cpI t q))):
 OpOk X st mm ⟨some d,.binOp .shr T x y g,ty,pos,af,none⟩ [(d,uk k (p / 2 ^ (min q.toNat k.bits)))] []:=
 Qm7 hd r s λw S γ u v i j=>by
  obtain⟨rfl,a1,a2⟩:=i;obtain⟨rfl,_⟩:=j;rw[f.max] at a2;have:¬ q<0:=by have:=vm n;omega
  have e:(p:Int).fdiv (2 ^ (min q.toNat k.bits))=((p / 2 ^ (min q.toNat k.bits):Nat):Int):=by rw[Int.fdiv_eq_ediv_of_nonneg _ (by exact_mod_cast yx _)];norm_cast
  refine⟨_,λw=>by simp[eqGuard],λw=>by simp only[binOp,Op.shift,oj this,e];rfl,rfl,uk_b f _ (um (jl _ _) om)⟩
theorem Q41{d x T ty pos af e n}(hd:Nat.blt d X.N=true)(j:OpdF st x e)
 (h:∀ a w γ,Inv X st mm a w γ->∀ v,e.val w (X.S γ mm) γ v->(Builtin.len_ #[T] ty #[v]).run X.P w=.ok (.int .i64 n) w/\IntKind.i64.min<=n/\n<=IntKind.i64.max) :
 OpOk X st mm ⟨some d,.call { callee:=.builtin .len,args:=#[x],argTypes:=#[T] },ty,pos,af,none⟩ [(d,i64 n)] []:=
 Xn hd λa w γ hi=>by obtain⟨f,g,i⟩:=h a w γ hi _ (j.val hi);refine⟨_,?_,rfl,g,i⟩;simp only[execOp,resolve];simp[invoke,builtin,f]
theorem len_b{n:Nat}(h:n<=maxLen):IntKind.i64.min<=(n:Int)/\(n:Int)<=IntKind.i64.max:=by
 have d:IntKind.i64.min=-9223372036854775808:=oz
 have e:IntKind.i64.max=9223372036854775807:=oz
 unfold maxLen at h;rw[d,e];omega
theorem lenL{d x T ty pos af E k}{α:Type}{f:α->Ly}{xs:List α}(e:X.P.underlying T=some (.slice E))(hd:Nat.blt d X.N=true)(j:OpdF st x (sli k (xs.map f))):
 OpOk X st mm ⟨some d,.call { callee:=.builtin .len,args:=#[x],argTypes:=#[T] },ty,pos,af,none⟩ [(d,i64 xs.length)] []:=
 Q41 hd j λa w γ hi v i=>by
  rcases i with ⟨rfl,hn⟩ | ⟨b,o,cap,cs,rfl,g,p,_⟩ | ⟨hn,n,rfl⟩;have:xs=[]:=by simpa using hn
  subst this;exact⟨by unfold Builtin.len_;simp[underlying,e,goInt],len_b (yx _)⟩;simp only[ov] at g |-;exact⟨by unfold Builtin.len_;simp[underlying,e,goInt],len_b om⟩;have:xs=[]:=by simpa using hn
  subst this;exact⟨by unfold Builtin.len_;simp[underlying,e,goInt],len_b (yx _)⟩
theorem lenO{d x T ty pos af E E' k id}{α:Type}{f:α->Ly}{xs:List α}(j:X.P.underlying T=some (.slice E))(r:mm id=some (.sl E' k (xs.map f)))(hd:Nat.blt d X.N=true)(t:OpdF st x (.own id)):
 OpOk X st mm ⟨some d,.call { callee:=.builtin .len,args:=#[x],argTypes:=#[T] },ty,pos,af,none⟩ [(d,i64 xs.length)] []:=
 Q41 hd t λa w γ hi v s=>by
  obtain⟨u,cs,e,n,_⟩:=hi.cts id _ r;obtain⟨i,_⟩:=s;rw[i] at e;simp at e;subst e;obtain⟨_,p⟩:=n;rcases p with ⟨rfl,hn⟩ | ⟨g,cap,cur,rfl,_,_,q,y,_⟩;have:xs=[]:=by simpa using hn
  subst this;exact⟨by unfold Builtin.len_;simp[underlying,j,goInt],len_b (yx _)⟩;simp only[ov] at q |-;exact⟨by unfold Builtin.len_;simp[underlying,j,goInt],len_b om⟩
theorem lenS{d x T ty pos af s}(g:X.P.underlying T=some .string)(hd:Nat.blt d X.N=true)(j:OpdF st x (str s)):
 OpOk X st mm ⟨some d,.call { callee:=.builtin .len,args:=#[x],argTypes:=#[T] },ty,pos,af,none⟩ [(d,i64 s.length)] []:=
 Q41 hd j λa w γ hi v i=>by obtain⟨rfl,f⟩:=i;have e:(ByteArray.mk s.toArray).size=s.length:=rfl;exact⟨by unfold Builtin.len_;simp[underlying,g,goInt,e],len_b f⟩
theorem maxI{d x y ty pos af f g p q}(hd:Nat.blt d X.N=true)(j:OpdF st x (i64 p))(k:OpdF st y (i64 q)):
 OpOk X st mm ⟨some d,.call { callee:=.builtin .max,args:=#[x,y],argTypes:=#[f,g] },ty,pos,af,none⟩ [(d,i64 (max p q))] []:=
 Xn hd λa w γ hi=>by
  obtain⟨i,r,s⟩:=j.val hi;obtain⟨g1,n,g3⟩:=k.val hi;have e:max p q=if q > p then q else p:=by split<;>omega
  refine⟨.int .i64 (max p q),?_,rfl,om,om⟩;simp only[execOp,resolve];simp[invoke,builtin,i,g1,Builtin.max_,Builtin.max2,e]
theorem minI{d x y ty pos af f g p q}(hd:Nat.blt d X.N=true)(j:OpdF st x (i64 p))(k:OpdF st y (i64 q)):
 OpOk X st mm ⟨some d,.call { callee:=.builtin .min,args:=#[x,y],argTypes:=#[f,g] },ty,pos,af,none⟩ [(d,i64 (min p q))] []:=
 Xn hd λa w γ hi=>by
  obtain⟨i,r,s⟩:=j.val hi;obtain⟨g1,n,g3⟩:=k.val hi;have e:min p q=if q<p then q else p:=by split<;>omega
  refine⟨.int .i64 (min p q),?_,rfl,om,om⟩;simp only[execOp,resolve];simp[invoke,builtin,i,g1,Builtin.min_,Builtin.min2,e]
theorem ixS{r:IntKind}{d x i T ty pos af s p y}(n:X.P.underlying T=some .string)(e:getS s p=some y)(hd:Nat.blt d X.N=true)(q:OpdF st x (str s))(hi:OpdF st i (.cell (cpI r p))):
 OpOk X st mm ⟨some d,.index T x i,ty,pos,af,none⟩ [(d,uk .u8 y)] []:=
 Xn hd λa w γ hI=>by
  obtain⟨k,t⟩:=q.val hI;obtain⟨g1,_⟩:=hi.val hI;unfold getS at e;split at e;rename_i h0;simp only[Option.map_eq_some_iff] at e;obtain⟨c,g,rfl⟩:=e;refine⟨.int .u8 c.toNat,?_,rfl,uk_b uk8 _ c.toNat_lt⟩;simp only[execOp,k,g1];have f:p.toNat<s.length:=by rcases xl p.toNat s.length with h | h;exact h;simp[xd h] at g
  have j:(ByteArray.mk s.toArray)[p.toNat]?=some c:=by
   rw[getElem?_pos _ _ (by simpa [ByteArray.size] using f)];have:s[p.toNat]=c:=by rw[oi f] at g;simpa using g
   rw[<-this];rfl
  simp[Instr.index,asIntOf,underlying,n,h0,j];cases e
theorem bin_S{d o T x y g ty pos af s t f}(hd:Nat.blt d X.N=true)(p:OpdF st x (str s))(q:OpdF st y (str t))
 (h:s.length<=maxLen->t.length<=maxLen->∃ v,(∀ w,(Op.stringOp o ⟨s.toArray⟩ ⟨t.toArray⟩).run X.P w=.ok v w)/\∀ w S γ,f.val w S γ v) (k:∀(_ _:IntKind×Int),(o matches .shl | .shr)=false) :
 OpOk X st mm ⟨some d,.binOp o T x y g,ty,pos,af,none⟩ [(d,f)] []:=
 Qm7 hd p q λw S γ r u i j=>by
  obtain⟨rfl,a1⟩:=i;obtain⟨rfl,a2⟩:=j;obtain⟨v,hr,n⟩:=h a1 a2;have e:=k (.i64,0) (.i64,0);refine⟨v,λw=>by cases o<;>simp[eqGuard],λw=>?_,n _ _ _⟩;have:binOp o T (.string ⟨s.toArray⟩) (.string ⟨t.toArray⟩)=Op.stringOp o ⟨s.toArray⟩ ⟨t.toArray⟩:=by cases o<;>simp at e<;>rfl
  rw[this];exact hr w
theorem Q86(s:List UInt8):(ByteArray.mk s.toArray).toList=s:=by rw[ByteArray.toList_eq]
theorem Jh9(s t:List UInt8):(s == t)=decide (s=t):=by rw[Bool.eq_iff_iff];simp
theorem catStr{d x y T T2 ty pos af s t z}(hz:catS s t=some z)(hd:Nat.blt d X.N=true)(hx:OpdF st x (str s))(hy:OpdF st y (str t)):
 OpOk X st mm ⟨some d,.binOp .add T x y T2,ty,pos,af,none⟩ [(d,str z)] []:=
 bin_S hd hx hy (λh1 h2=>by
  unfold catS at hz;split at hz;rename_i hle;cases hz;refine⟨_,λw=>?_,λw S γ=>⟨rfl,by unfold maxLen;simp;omega⟩⟩;have:¬(((s.length+t.length:Nat):Int) > IntKind.i64.max):=by
   have h2:IntKind.i64.max=9223372036854775807:=oz
   rw[h2];omega
  have e:Op.stringOp .add ⟨s.toArray⟩ ⟨t.toArray⟩=if (((ByteArray.mk s.toArray).size+(ByteArray.mk t.toArray).size:Nat):Int) > IntKind.i64.max then unsupported (.resourceLimit "string concatenation: a sum of the lengths that is no int") else pure (.string (⟨s.toArray⟩++⟨t.toArray⟩)):=rfl
  have e2:(ByteArray.mk s.toArray)++(ByteArray.mk t.toArray)=⟨(s++t).toArray⟩:=by apply ByteArray.ext;simp[ByteArray.data_append]
  rw[e,oj (by simpa [ByteArray.size] using this),e2];rfl
  cases hz) (λ_ _=>rfl)
theorem eqS{d x y T e ty pos af s t}(hd:Nat.blt d X.N=true)(f:OpdF st x (str s))(g:OpdF st y (str t)):
 OpOk X st mm ⟨some d,.binOp .eql T x y e,ty,pos,af,none⟩ [(d,bl (decide (s=t)))] []:=
 bin_S hd f g (λi j=>⟨_,λw=>by simp only[Op.stringOp,Q86];rfl,λw S γ=>by rw[Jh9];simp[bl,Ly.val,cpB]⟩) (λ_ _=>rfl)
theorem neS{d x y T e ty pos af s t}(hd:Nat.blt d X.N=true)(f:OpdF st x (str s))(g:OpdF st y (str t)):
 OpOk X st mm ⟨some d,.binOp .neq T x y e,ty,pos,af,none⟩ [(d,bl (!decide (s=t)))] []:=
 bin_S hd f g (λi j=>⟨_,λw=>by simp only[Op.stringOp,Q86];rfl,λw S γ=>by rw[Jh9];simp[bl,Ly.val,cpB]⟩) (λ_ _=>rfl)
end ops
def TyI(P:Program)(E k b:Nat)(z:Value):Prop:=∃ i,P.info? E=some i/\i.zero=some z/\i.size=k/\i.bytes=b
theorem tyI{P:Program}{E k b:Nat}{z:Value}(h:(P.info? E).map (λi=>(i.zero,i.size,i.bytes))=some (some z,k,b)):TyI P E k b z:=by
 cases hi:P.info? E with
 | none=>rw[hi] at h;cases h
 | some i=>rw[hi] at h;simp at h;exact⟨i,hi,h.1,h.2.1,h.2.2⟩
def agB:TypeDesc->Bool
 | .struct _=>true
 | .array _ _=>true
 | _=>false
def Shp(P:Program)(T:Nat)(e:Bool)(k:Nat):Prop:=∃ d,P.underlying T=some d/\agB d=e/\∃ i,P.info? T=some i/\i.size=k
theorem shp{P:Program}{T:Nat}{e:Bool}{k b:Nat}{d:TypeDesc}{z:Value}(hd:P.underlying T=some d)(j:agB d=e)(hi:TyI P T k b z):Shp P T e k:=by obtain⟨i,f,n,g,p⟩:=hi;exact⟨d,hd,j,i,f,g⟩
theorem Qu5{P T e k}(h:Shp P T e k)(w:World):(isAgg T).run P w=.ok e w:=by obtain⟨d,f,g,_⟩:=h;subst g;cases d<;>simp[isAgg,underlying,f,agB]
theorem Qsq{P T e k}(h:Shp P T e k)(w:World):(sizeOf T).run P w=.ok k w:=by obtain⟨d,j,n,i,f,g⟩:=h;subst g;simp[sizeOf,typeInfo,f]
theorem V7{P T k b z}(h:TyI P T k b z)(w:World):(sizeOf T).run P w=.ok k w:=by obtain⟨i,d,f,e,g⟩:=h;subst e;simp[sizeOf,typeInfo,d]
theorem Qfs{P T k b z}(h:TyI P T k b z)(w:World):(zeroValue T).run P w=.ok z w:=by obtain⟨i,d,e,_⟩:=h;simp[zeroValue,typeInfo,d,e]
theorem add0(b o n:Nat):Addr.add ⟨b,o,none⟩ n=⟨b,o+n,none⟩:=by unfold Addr.add;split<;>simp_all
theorem Qiy{P:Program}{b o:Nat}{w:World}:∀(us:List Value) (i:Nat) (d:Array Value),(∀ j u,us[j]?=some u->w.cell? ⟨b,o+i+j,none⟩=some u) ->
 (loadCellsFrom ⟨b,o,none⟩ i us.length d).run P w=.ok (d++us.toArray) w
 | [],i,d,_=>by simp[loadCellsFrom]
 | u::us,i,d,h=>by have h0:=h 0 u rfl;simp only[xp] at h0;have f:=Qiy (P:=P) us (i+1) (d.push u) (λj v e=>by have:=h (j+1) v e;rw[show o+(i+1)+j=o+i+(j+1) by omega];exact this);simp only[xn,loadCellsFrom,Sem.run_bind,run_load,add0,h0,Result.andThen_ok,f];simp
theorem Qm9{P:Program}{T:Nat}{e:Bool}{k b o:Nat}{w:World}{S γ}{ly:Ly}{us:List Value}(h:Shp P T e k)(hn:ly.isN=e)(p:ly.sz=k)
 (f:∀ j u,us[j]?=some u->w.cell? ⟨b,o+j,none⟩=some u) (d:ly.hold w S γ us):∃ v,(loadVar T ⟨b,o,none⟩).run P w=.ok v w/\ly.val w S γ v:=by
 have g:=Ly.hold_sz ly us d;unfold loadVar;cases e with
 | true=>
   refine⟨.agg us.toArray,?_,?_⟩;have:=Qiy (P:=P) us 0 #[] (λj u n=>by simpa using f j u n);rw[g,p] at this;simp[Qu5 h,Qsq h,loadCells,this];cases ly<;>simp[Ly.isN] at hn;simp only[Ly.val,Ly.hold] at d |-;exact⟨_,rfl,d⟩
 | false=>
   have i:us.length=1:=by cases ly<;>simp[Ly.isN] at hn<;>simpa [Ly.sz] using g
   obtain⟨u,rfl⟩:∃ u,us=[u]:=by
    match us,i with
    | [u],_=>exact⟨u,rfl⟩
   refine⟨u,?_,Ly.val_of_hold1 hn d⟩;have:=f 0 u rfl;simp[Qu5 h,show w.cell? ⟨b,o,none⟩=some u by simpa using this]
def splice(l:List Value)(p:Nat)(vs:List Value):List Value:=l.take p++vs++l.drop (p+vs.length)
theorem Wh{w:World}{b:Nat}{cur:Array Value}{E:Nat}{fz:Nat×Nat}(h:w.heap[b]?=some (.cells cur E fz))(o:Nat):w.cell? ⟨b,o,none⟩=cur[o]?:=by simp[World.cell?,h]
theorem Qqn{P:Program}{b o E:Nat}:∀(vs:List Value) (i:Nat) (w:World) (cur:Array Value),w.heap[b]?=some (.cells cur E (0,0))->o+i+vs.length<=cur.size->(∀ u∈vs,u.oneCell'=true) ->
 ∃ w' d,(storeCells ⟨b,o,none⟩ vs i).run P w=.ok () w'/\w'.heap[b]?=some (.cells d E (0,0))/\d.toList=splice cur.toList (o+i) vs/\Kp (λx=>x=b) w w'/\w'.os=w.os/\w'.tape=w.tape/\w'.output=w.output
 | [],i,w,cur,h,_,_=>⟨w,cur,by simp[storeCells],h,by simp[splice],Kp.refl _ _,rfl,rfl,rfl⟩
 | v::vs,i,w,cur,h,B,j=>by
   simp only[xn] at B;have hb:b<w.heap.size:=by rcases xl b w.heap.size with f | f;exact f;simp[uf f] at h
   have e:o+i<cur.size:=om
   have hcell:w.cell? ⟨b,o+i,none⟩=some cur[o+i]:=by rw[Wh h,ve e]
   have g:w.frozen? ⟨b,o+i,none⟩=false:=by simp[World.frozen?,h]
   have F:v.oneCell'=true:=j v vo;have A:(w.setCell ⟨b,o+i,none⟩ v).heap[b]?=some (.cells (cur.setIfInBounds (o+i) v) E (0,0)):=by simp only[World.setCell,Array.getElem?_modify,oq,h];simp
   obtain⟨w',d,n,p,q,r,s,t,y⟩:=Qqn (P:=P) (b:=b) (o:=o) (E:=E) vs (i+1) (w.setCell ⟨b,o+i,none⟩ v) (cur.setIfInBounds (o+i) v) A oh (λu C=>j u (vg _ C));refine⟨w',d,?_,p,?_,?_,s,t,y⟩;simp only[storeCells,Sem.run_bind,add0];rw[run_store P w _ v _ F,hcell];simp[g,n];rw[q];simp only[splice,Array.toList_setIfInBounds,xn];rw[show o+(i+1)=o+i+1 by omega,jw (by simpa using e)];simp only[List.getElem_set_self,xf,yu,yw];rw[List.take_set_of_le om];congr 2;rw[List.drop_set_of_lt om];congr 2;omega;refine Kp.trans (S':=λx=>x=b) ⟨by simp[World.setCell],λx k hn=>?_⟩ r (λx k=>.inl k);exact Below.heap_setCell _ _ _ _ (by simpa using hn)
def Ly.go:List Nat->Ly->Option (Ly×Nat)
 | [],ly=>some (ly,0)
 | i::p,.agg l=>match l[i]? with
   | some x=>match Ly.go p x with
     | some (y,c)=>some (y,Ly.szs (l.take i)+c)
     | none=>none
   | none=>none
 | _::_,_=>none
def Ly.pu(n:Ly):List Nat->Ly->Ly
 | [],_=>n
 | i::p,.agg l=>match l[i]? with
   | some x=>.agg (l.set i (Ly.pu n p x))
   | none=>.agg l
 | _::_,ly=>ly
theorem Qrd{w S γ}:∀ {l:List Ly}{cs:List Value}{i:Nat}{x:Ly},Ly.holds w S γ l cs->l[i]?=some x ->
 ∃ a u b,cs=a++u++b/\a.length=Ly.szs (l.take i)/\Ly.hold w S γ x u/\∀(n:Ly) (d:List Value),Ly.hold w S γ n d->Ly.holds w S γ (l.set i n) (a++d++b)
 | [],cs,i,x,_,e=>by simp at e
 | ly::l,cs,0,x,h,e=>by obtain⟨c1,g,rfl,f,j⟩:=h;simp at e;subst e;exact⟨[],c1,g,oc,by simp[Ly.szs],f,λn d hn=>⟨d,g,oc,hn,j⟩⟩
 | ly::l,cs,i+1,x,h,e=>by obtain⟨c1,g,rfl,f,j⟩:=h;obtain⟨a,u,b,rfl,k,p,q⟩:=Qrd (i:=i) j (by simpa using e);refine⟨c1++a,u,b,oc,?_,p,λn d hn=>⟨c1,a++d++b,oc,f,q n d hn⟩⟩;simp[Ly.szs,k,Ly.hold_sz ly c1 f]
theorem Qom{w S γ}:∀(p:List Nat) {ly g:Ly}{c:Nat}{cs:List Value},Ly.go p ly=some (g,c)->Ly.hold w S γ ly cs ->
 ∃ a u b,cs=a++u++b/\a.length=c/\Ly.hold w S γ g u/\∀(n:Ly) (e:List Value),Ly.hold w S γ n e->Ly.hold w S γ (Ly.pu n p ly) (a++e++b)
 | [],ly,g,c,cs,d,h=>by simp only[Ly.go,Option.some.injEq,Prod.mk.injEq] at d;obtain⟨rfl,rfl⟩:=d;exact⟨[],cs,[],oc,rfl,h,λn e hn=>by simpa [Ly.pu] using hn⟩
 | i::p,ly,g,c,cs,d,h=>by
   cases ly with
   | agg l=>
     simp only[Ly.go] at d;cases f:l[i]? with
     | none=>simp[f] at d
     | some x=>
       simp only[f] at d;cases j:Ly.go p x with
       | none=>simp[j] at d
       | some B=>
         obtain⟨y,C⟩:=B;simp only[j,Option.some.injEq,Prod.mk.injEq] at d;obtain⟨rfl,rfl⟩:=d;simp only[Ly.hold] at h;obtain⟨a,u,b,rfl,s,t,A⟩:=Qrd h f;obtain⟨k,e,q,rfl,g1,r,g3⟩:=Qom p j t;refine⟨a++k,e,q++b,oc,by simp[s,g1],r,λn v hn=>?_⟩;have:=A _ _ (g3 n v hn);simp only[Ly.pu,f,Ly.hold]
         simpa using this
   | _=>simp[Ly.go] at d
theorem Qya{k:Nat}:∀ {l:List Ly}{i:Nat},(∀ ly∈l,ly.sz=k)->i<=l.length->Ly.szs (l.take i)=i*k
 | [],i,_,hi=>by simp at hi;subst hi;simp[Ly.szs]
 | ly::l,0,_,_=>by simp[Ly.szs]
 | ly::l,i+1,h,hi=>by simp only[wn,Ly.szs];rw[Qya (λx d=>h x (vg _ d)) (by simpa using hi),h ly vo,uz];omega
theorem Q87{a u b vs:List Value}(h:vs.length=u.length):splice (a++u++b) a.length vs=a++vs++b:=by simp[splice,h,List.drop_append]
section ops
variable {X:Cx}{st:Nat->Option Ly}{mm:Nat->Option Ct}
theorem Qlh{α:Type}{l:List α}{i:Int}{y:α}(h:getI l i=some y):0<=i/\l[i.toNat]?=some y:=by unfold getI at h;split at h;exact⟨oe,h⟩;cases h
theorem Jkz{α:Type}{l:List α}{i:Nat}{y:α}(h:l[i]?=some y):getI l (i:Int)=some y:=by simp[getI,h]
theorem ixR{M:IntKind}{d x i T ty pos af E k b z p}{α:Type}{f:α->Ly}{xs:List α}{y:α}(K:X.P.underlying T=some (.slice E))(J:TyI X.P E k b z)(n:getI xs p=some y)
 (hd:Nat.blt d X.N=true) (L:OpdF st x (sli k (xs.map f))) (hi:OpdF st i (.cell (cpI M p))) :
 OpOk X st mm ⟨some d,.indexAddr T x i,ty,pos,af,none⟩ [(d,.ref (f y))] []:=
 Xn hd λa w γ hI=>by
  obtain⟨h0,n⟩:=Qlh n;obtain⟨g1,_⟩:=hi.val hI;have e:p.toNat<xs.length:=by
   rcases xl p.toNat xs.length with h | h
   . exact h
   . simp[xd h] at n
  rcases L.val hI with ⟨s,hn⟩ | ⟨bb,o,cap,cs,s,O,P,B,C,F,H,I⟩ | ⟨hn,_⟩
  rotate_left 2
  . have:xs=[]:=by simpa using hn
    subst this;simp at e
  . have:xs=[]:=by simpa using hn
    subst this;simp at e
  . have g:(xs.map f)[p.toNat]?=some (f y):=by simp[n]
    obtain⟨a1,u,N,rfl,r,A,_⟩:=Qrd H g;rw[Qya I oh] at r;refine⟨.pointer (some ⟨bb,o+p.toNat*k,none⟩),?_,?_⟩
    . have q:p<(xs.length:Int):=om
      simp only[execOp,s,g1];simp[Instr.indexAt,asIntOf,underlying,K,h0,q,V7 J,add0]
    . exact⟨bb,o+p.toNat*k,u,rfl,B,C,λj v t=>by
       have:=F (a1.length+j) v (by
        rw[xf,yz om,wz]
        rw[yh (by
         rcases xl j u.length with h | h
         . exact h
         . simp[xd h] at t)]
        exact t)
       rw[r] at this
       rw[tz];exact this,Ly.hold_mono (Kp.refl _ _) (λb hb=>.inl hb) (λ_ _ h=>by cases h) _ _ A⟩
theorem ldR{d x T ty pos af e k ly}(j:Shp X.P T e k)(hn:ly.isN=e)(q:ly.sz=k)(hd:Nat.blt d X.N=true)(p:OpdF st x (.ref ly)):
 OpOk X st mm ⟨some d,.load T x,ty,pos,af,none⟩ [(d,ly)] []:=
 Xn hd λa w γ hI=>by obtain⟨b,o,us,f,r,s,g,i⟩:=p.val hI;simp at f;obtain⟨v,hr,n⟩:=Qm9 (P:=X.P) j hn q g i;exact⟨v,by simp only[execOp,f];simp[Instr.loadAt,Instr.sureAddr,hr],n⟩
def FldAt(P:Program)(T j d:Nat):Prop:=∃ fs F,P.underlying T=some (.struct fs)/\fs[j]?=some F/\F.offset=d/\∃ i,P.info? F.type=some i/\i.size≠0
theorem Qvy{P T j d b o}(h:FldAt P T j d)(w:World):(Instr.fieldAt T (.pointer (some ⟨b,o,none⟩)) j).run P w=.ok (.pointer (some ⟨b,o+d,none⟩)) w:=by obtain⟨fs,F,e,f,g,i,k,n⟩:=h;subst g;simp[Instr.fieldAt,underlying,e,f,Instr.sureAddr,fieldPlace,sizeOf,typeInfo,k,n,add0]
theorem faR{d x T j ty pos af e l k}(y:FldAt X.P T j e)(A:Ly.go [j] (.agg l)=some (k,e))(hd:Nat.blt d X.N=true)(B:OpdF st x (.ref (.agg l))):
 OpOk X st mm ⟨some d,.fieldAddr T x j,ty,pos,af,none⟩ [(d,.ref k)] []:=
 Xn hd λa w γ hI=>by
  obtain⟨b,o,us,f,q,r,s,t⟩:=B.val hI;simp at f;obtain⟨a1,u,C,rfl,n,p,_⟩:=Qom [j] A t;refine⟨_,by simp only[execOp,f];simp[Qvy y],b,o+e,u,rfl,q,r,λi v g=>?_,p⟩
  have:=s (a1.length+i) v (by
   rw[xf,yz om,wz]
   rw[yh (by
    rcases xl i u.length with h | h;exact h
    simp[xd h] at g)]
   exact g)
  rw[n] at this;rw[tz];exact this
theorem bxI{id E ly}{a w γ}(hI:Inv X st mm a w γ)(d:mm id=some (.bx E ly)):∃ g cur,γ id=some (.pointer (some ⟨g,0,none⟩))/\w.heap[g]?=some (.cells cur E (0,0))/\Ly.hold w (X.S γ mm) γ ly cur.toList:=hI.cts id _ d
theorem faO{d x T j ty pos af e id E ly}(n:mm id=some (.bx E ly))(k:FldAt X.P T j e)(hd:Nat.blt d X.N=true)(p:OpdF st x (.own id)):
 OpOk X st mm ⟨some d,.fieldAddr T x j,ty,pos,af,none⟩ [(d,.ptr id e)] []:=
 Xn hd λa w γ hI=>by obtain⟨g,cur,i,q,r⟩:=bxI hI n;obtain⟨f,_⟩:=p.val hI;rw[i] at f;simp at f;exact⟨.pointer (some ⟨g,e,none⟩),by simp only[execOp,<-f];simp[Qvy k],_,g,i,rfl,rfl⟩
theorem faP{d x T j ty pos af e id off}(n:FldAt X.P T j e)(hd:Nat.blt d X.N=true)(p:OpdF st x (.ptr id off)):
 OpOk X st mm ⟨some d,.fieldAddr T x j,ty,pos,af,none⟩ [(d,.ptr id (off+e))] []:=
 Xn hd λa w γ hI=>by obtain⟨v0,g,f,i,k⟩:=p.val hI;exact⟨.pointer (some ⟨g,off+e,none⟩),by simp only[execOp,k];simp[Qvy n],v0,g,f,i,rfl⟩
def OwnP(mm:Nat->Option Ct)(d:Ly)(id off:Nat):Prop:=d=.ptr id off\/(d=.own id/\off=0/\∃ E ly,mm id=some (.bx E ly))
theorem Qz8{st mm a w γ i id off x}(hI:Inv X st mm a w γ)(h:OwnP mm i id off)(f:OpdF st x i):∃ v0 g,γ id=some v0/\blkOf v0=some g/\a.eval x=.pointer (some ⟨g,off,none⟩):=by rcases h with rfl | ⟨rfl,rfl,E,ly,hm⟩;exact f.val hI;obtain⟨g,cur,e,j,k⟩:=bxI hI hm;obtain⟨d,_⟩:=f.val hI;rw[e] at d;simp at d;exact⟨_,g,e,rfl,d.symm⟩
theorem ldB{d x T ty pos af i k r id E ly e off}(p:List Nat)(J:mm id=some (.bx E ly))(F:Ly.go p ly=some (e,off))(B:Shp X.P T i k)(hn:e.isN=i)(N:e.sz=k)
 (hd:Nat.blt d X.N=true) (M:OpdF st x r) (K:OwnP mm r id off) :
 OpOk X st mm ⟨some d,.load T x,ty,pos,af,none⟩ [(d,e)] []:=
 Xn hd λa w γ hI=>by
  obtain⟨g,cur,t,y,A⟩:=bxI hI J;obtain⟨v0,S,f,n,s⟩:=Qz8 hI K M;rw[t] at f;simp at f;subst f;simp[blkOf] at n;subst n;obtain⟨a1,u,O,C,I,H,_⟩:=Qom p F A
  obtain⟨v,hr,L⟩:=Qm9 (P:=X.P) (b:=g) (o:=off) B hn N (us:=u) (w:=w) (λj v q=>by
   rw[Wh y,<-yb,C,xf,yz om,I,wz]
   rw[yh (by
    rcases xl j u.length with h | h;exact h
    simp[xd h] at q)]
   exact q) H
  exact⟨v,by simp only[execOp,s];simp[Instr.loadAt,Instr.sureAddr,hr],L⟩
theorem Q88{P:Program}{T g k b o E}{w:World}{cur:Array Value}{v:Value}{vs:List Value}(r:Shp P T g k)(hb:w.heap[b]?=some (.cells cur E (0,0)))(f:v.cells.toList=vs)(s:vs.length=k)
 (t:o+k<=cur.size) (q:∀ u∈vs,u.oneCell'=true) :
 ∃ w' d,(Instr.storeAt T (.pointer (some ⟨b,o,none⟩)) v).run P w=.ok () w'/\w'.heap[b]?=some (.cells d E (0,0))/\d.toList=splice cur.toList o vs/\Kp (λx=>x=b) w w'/\w'.os=w.os/\w'.tape=w.tape/\w'.output=w.output:=by
 obtain⟨w',d,g1,i,g3,g4,j,n,p⟩:=Qqn (P:=P) (b:=b) (o:=o) (E:=E) vs 0 w cur hb om q;have e:v.cells.size=k:=by rw[<-s,<-f];simp
 refine⟨w',d,?_,i,g3,g4,j,n,p⟩;simp[Instr.storeAt,Instr.sureAddr,storeVar,Qsq r,e,f,g1]
theorem stB{x y T ty pos af M k J id E ly L ln off}(p:List Nat)(t:mm id=some (.bx E ly))(Z:Ly.go p ly=some (L,off))(W:Shp X.P T M k)(hz:L.sz=k)(f:ln.sz=k)(A:ln.lies=true)
 (hx:OpdF st x J) (ho:OwnP mm J id off) (hy:OpdF st y ln) :
 OpOk X st mm ⟨none,.store T x y,ty,pos,af,none⟩ [] [(id,.bx E (Ly.pu ln p ly))]:=by
 intro a w γ K Q hI V;obtain⟨g,cur,n,S,U⟩:=bxI hI t;obtain⟨v0,g',q,H,O⟩:=Qz8 hI ho hx;rw[n] at q;simp at q;subst q;simp[blkOf] at H;subst H;obtain⟨a1,u,N,I,hl,hh,hp⟩:=Qom p Z U;have C:=Ly.hold_of_val A (hy.val hI);have j:=Ly.hold_sz _ _ C;have B:=Ly.hold_sz _ _ hh;have Y:cur.size=a1.length+u.length+N.length:=by have:=yj List.length I;simpa [tz] using this
 obtain⟨w',d,r1,r2,r3,F,r5,r6,r7⟩:=Q88 (P:=X.P) (o:=off) (v:=a.eval y) W S rfl (by rw[j,f]) om (Ly.oneCell_of_hold _ _ C);have i:(execOp a.eval ⟨none,.store T x y,ty,pos,af,none⟩).run X.P w=.ok .skip w':=by simp only[execOp,O];simp[r1]
 unfold Oper.wp;rw[i];have s:Kp (X.S γ mm) w w':=⟨F.1,λb hb hn=>F.2 b hb (λe=>hn (.inr ⟨id,_,_,t,rfl,n,by rw[e];rfl⟩))⟩
 have hhold:=hp _ _ C;have r:Yn w' (X.S γ mm) γ id (.bx E (Ly.pu ln p ly)):=by refine⟨g,d,n,r2,?_⟩;rw[r3,I,<-hl,Q87 (by rw[j,B,f,hz])];exact Ly.hold_mono s (λb hb=>.inl hb) (Ng.refl _) _ _ hhold
 exact V _ _ γ (hI.setc r5 r6 r7 t rfl n rfl F rfl r)
end ops
def Zr(ly:Ly)(cs:List Value):Prop:=∀ w S γ,ly.hold w S γ cs
def Zrs(l:List Ly)(cs:List Value):Prop:=∀ w S γ,Ly.holds w S γ l cs
theorem Wi:Zr (i64 0) [.int .i64 0]:=λ_ _ _=>⟨_,rfl,rfl,oz,oz⟩
theorem zr_u8:Zr (u8 0) [.int .u8 0]:=λ_ _ _=>⟨_,rfl,rfl,oz,oz⟩
theorem Qgy:Zr (u32 0) [.int .u32 0]:=λ_ _ _=>⟨_,rfl,rfl,oz,oz⟩
theorem zr_bl:Zr (bl false) [.bool false]:=λ_ _ _=>⟨_,rfl,rfl⟩
theorem Qli:Zr (str []) [.string ⟨#[]⟩]:=λ_ _ _=>⟨_,rfl,rfl,oz⟩
theorem J6{k}:Zr (sli k []) [.slice none 0 0]:=λ_ _ _=>⟨_,rfl,.inl ⟨rfl,rfl⟩⟩
theorem K4{l cs}(h:Zrs l cs):Zr (.agg l) cs:=λw S γ=>by simp only[Ly.hold];exact h w S γ
theorem Kl:Zrs [] []:=λ_ _ _=>rfl
theorem Qn{ly l c1 d}(e:Zr ly c1)(f:Zrs l d):Zrs (ly::l) (c1++d):=λw S γ=>⟨c1,d,rfl,e w S γ,f w S γ⟩
theorem Qzj{ly c}(h:Zr ly c):∀ n,Zrs (List.replicate n ly) ((List.replicate n c).flatten)
 | 0=>Kl
 | n+1=>by simp only[uq,List.flatten_cons];exact Qn h (Qzj h n)
namespace Inv
variable {X:Cx}{st:Nat->Option Ly}{mm:Nat->Option Ct}{a:Act}{w:World}{γ:Nm}
theorem replace(h:Inv X st mm a w γ){w':World}(hos:w'.os=w.os)(ht:w'.tape=w.tape)(P:w'.output=w.output){id:Nat}{c:Ct}(s:mm id=some c)(N:c.alive=true)
 {v:Value}(U:γ id=some v) (hk:Kp (λb=>blkOf v=some b) w w')
 {y:Nat}{ct:Ct}{v':Value}(hy:mm y=none) (_:ct.alive=true)
 (hct:∀ S γ',(∀ b,S b->X.S γ mm b\/w.heap.size<=b)->Ng γ γ'->γ' y=some v'->Yn w' S γ' y ct)
 (hb:∀ b,blkOf v'=some b->(blkOf v=some b\/w.heap.size<=b)/\b<w'.heap.size) :
 Inv X st (up mm [(y,ct),(id,.gone)]) a w' (gset γ y v'):=by
 have hgy:γ y=none:=h.fresh y hy;have hyid:y≠id:=by rintro rfl;rw[hy] at s;cases s
 have F:Ng γ (gset γ y v'):=by intro i u C;by_cases f:y=i;subst f;rw[hgy] at C;cases C;simp[gset,f,C]
 have H:∀ i,up mm [(y,ct),(id,.gone)] i=if y=i then some ct else if id=i then some .gone else mm i:=by
  intro i;have:up mm [(y,ct),(id,.gone)]=up (up mm [(id,.gone)]) [(y,ct)]:=by
   funext j;rw[Wv];by_cases hj:y=j;subst hj;simp[up,lk];have e:Nat.beq y j=false:=by cases hb:Nat.beq y j;rfl;exact absurd (xy hb) hj
   simp[up,lk,e,hj]
  rw[this,Wv,Wv]
 have T:∀ b,Ow (gset γ y v') (up mm [(y,ct),(id,.gone)]) b->(∃ i t u,i≠id/\i≠y/\mm i=some t/\t.alive=true/\γ i=some u/\blkOf u=some b)\/blkOf v'=some b:=by rintro b ⟨i,t,u,k,q,r,B⟩;rw[H] at k;by_cases f:y=i;subst f;simp[gset] at r;subst r;exact .inr B;by_cases n:id=i;simp[f,n] at k;subst k;simp[Ct.alive] at q;simp[f,n] at k;simp[gset,f] at r;exact .inl ⟨i,t,u,λe=>n e.symm,λe=>f e.symm,k,q,r,B⟩
 have V:∀ b,blkOf v=some b->X.S γ mm b:=λb g=>.inr ⟨id,c,v,s,N,U,g⟩;have Z:∀ b,X.S (gset γ y v') (up mm [(y,ct),(id,.gone)]) b->X.S γ mm b\/w.heap.size<=b:=by rintro b (g | g);exact .inl (.inl g);rcases T b g with ⟨i,t,u,k,q,r,B,x,E⟩ | k;exact .inl (.inr ⟨i,t,u,r,B,x,E⟩);rcases(hb b k).1 with q | q;exact .inl (V b q);exact .inr q
 have O:Kp (X.S γ mm) w w':=⟨hk.1,λb g hn=>hk.2 b g (λe=>hn (V b e))⟩
 refine { h with keep:=λi u C=>F i u (h.keep i u C),os:=hos.trans h.os,tape:=ht.trans h.tape,output:=P.trans h.output,grow:=xo h.grow hk.1,old:=?_,fresh:=?_,cts:=?_,apart:=?_,mine:=?_,sts:=?_ };intro b g hM
 rw[hk.2 b (xt g h.grow) (λe=>by
  rcases(h.mine b ⟨id,c,v,s,N,U,e⟩).1 with k | k;omega
  exact hM k)]
 exact h.old b g hM;intro i hi;rw[H] at hi;by_cases f:y=i;simp[f] at hi;by_cases n:id=i;simp[f,n] at hi;simp[f,n] at hi;simp[gset,f,h.fresh i hi];intro i t p;rw[H] at p;by_cases f:y=i;subst f;simp at p;subst p;exact hct _ _ Z F (by simp[gset]);by_cases n:id=i;simp[f,n] at p;subst p;trivial;simp[f,n] at p;by_cases A:t.alive=true;refine(h.cts i t p).mono O Z F ?_;intro u b C g;refine hk.2 b (h.mine b ⟨i,t,u,p,A,C,g⟩).2.1 (λe=>n ?_);exact h.apart id i c t v u b s N p A U C e g;cases t<;>simp[Ct.alive] at A;trivial;intro i Y c1 c2 u u' b k q r B x E J M;rw[H] at k r;have W:∀ i c1 u,y≠i->(if y=i then some ct else if id=i then some Ct.gone else mm i)=some c1->c1.alive=true->gset γ y v' i=some u->blkOf u=some b->blkOf v'=some b->False:=by
  intro i c1 u f k q x J M;simp only[f,yv] at k;by_cases n:id=i;simp[n] at k;subst k;simp[Ct.alive] at q;simp[n] at k;simp[gset,f] at x;have hm:=h.mine b ⟨i,c1,u,k,q,x,J⟩;rcases(hb b M).1 with e | e;exact n (h.apart id i c c1 v u b s N k q U x e J);omega
 by_cases K:y=i<;>by_cases L:y=Y;exact K.symm.trans L;subst K;simp[gset] at x;subst x;exact(W Y c2 u' L r B E M J).elim;subst L;simp[gset] at E;subst E;exact(W i c1 u K k q x J M).elim;simp only[K,yv] at k;simp only[L,yv] at r;by_cases g1:id=i;simp[g1] at k;subst k;simp[Ct.alive] at q;by_cases I:id=Y;simp[I] at r;subst r;simp[Ct.alive] at B;simp[g1] at k;simp[I] at r;simp[gset,K] at x;simp[gset,L] at E;exact h.apart i Y c1 c2 u u' b k q r B x E J M;intro b g;rcases T b g with ⟨i,t,u,k,q,r,B,x,E⟩ | k;obtain⟨g1,I,g3⟩:=h.mine b ⟨i,t,u,r,B,x,E⟩;exact⟨g1,xt I hk.1,g3⟩;obtain⟨g1,I⟩:=hb b k;rcases g1 with g1 | g1;obtain⟨k1,k2,k3⟩:=h.mine b ⟨id,c,v,s,N,U,g1⟩;exact⟨k1,I,k3⟩;exact⟨.inl (xo h.grow g1),I,λhs=>by have:=h.s0 b hs;have:=h.grow;omega⟩;intro d ly hd;obtain⟨u,C,hl⟩:=h.sts d ly hd;exact⟨u,C,Ly.val_mono O Z F ly u hl⟩
end Inv
section ops
variable {X:Cx}{st:Nat->Option Ly}{mm:Nat->Option Ct}
theorem Qj5(S:Nat->Prop)(w:World)(o:Obj):Kp S w (w.alloc o):=⟨oc,λb hb _=>Below.heap_alloc w o b hb⟩
theorem Qqo(w:World)(o:Obj):(w.alloc o).heap[w.heap.size]?=some o:=by show(w.heap.push o)[w.heap.size]?=_;simp
theorem Qwv{d op ty pos af y ct}(hd:Nat.blt d X.N=true)(s:mm y=none)(e:ct.alive=true)
 (h:∀ a w γ,Inv X st mm a w γ->∃ v w',(execOp a.eval ⟨some d,op,ty,pos,af,none⟩).run X.P w=.ok (.value v) w'/\w'.os=w.os/\w'.tape=w.tape/\w'.output=w.output/\Kp (λ_=>False) w w'/\v.oneCell'=true /\
  (∀ S γ',(∀ b,S b->X.S γ mm b\/w.heap.size<=b)->Ng γ γ'->γ' y=some v->Yn w' S γ' y ct)/\(∀ b,blkOf v=some b->w.heap.size<=b/\b<w'.heap.size)) :
 OpOk X st mm ⟨some d,op,ty,pos,af,none⟩ [(d,.own y)] [(y,ct)]:=by
 intro a w γ K Q hi r;obtain⟨v,w',hr,g,i,j,k,n,p,q⟩:=h a w γ hi;unfold Oper.wp;rw[hr];have f:=hi.new g i j k s e (λS γ' _ h=>p S γ' h) q;exact r _ _ _ (f.put (d:=d) (v:=v) (ly:=.own y) (by simpa using hd) ⟨by simp[Inv.gset],n⟩)
theorem al{d T ty pos af y k b z ly}(f:TyI X.P T k b z)(i:Zr ly z.cells.toList)(g:mm y=none)(hd:Nat.blt d X.N=true):
 OpOk X st mm ⟨some d,.alloc T,ty,pos,af,none⟩ [(d,.own y)] [(y,.bx T ly)]:=
 Qwv hd g rfl λa w γ hi=>
  ⟨.pointer (some ⟨w.heap.size,0,none⟩),w.alloc (.cells z.cells T),by
    simp only[execOp];simp[Instr.alloc,Qfs f,newVar,newRow],rfl,rfl,rfl,Qj5 _ _ _,rfl,
    λS γ' j n e=>⟨w.heap.size,z.cells,e,Qqo _ _,i _ _ _⟩,λb hb=>by simp[blkOf] at hb;subst hb;simp⟩
theorem box{d T x ty pos af y ly}(i:ly.lies=true)(k:OpdF st x ly)(n:mm y=none)(hd:Nat.blt d X.N=true):
 OpOk X st mm ⟨some d,.box T x,ty,pos,af,none⟩ [(d,.own y)] [(y,.bx T ly)]:=
 Qwv hd n rfl λa w γ hi=>by
  have j:=Ly.hold_of_val i (k.val hi)
  refine⟨.pointer (some ⟨w.heap.size,0,none⟩),w.alloc (.cells (a.eval x).cells T),by
   simp only[execOp];simp[Instr.box,newVar,newRow],rfl,rfl,rfl,Qj5 _ _ _,rfl,
   λS γ' f g e=>⟨w.heap.size,_,e,Qqo _ _,Ly.hold_mono (Qj5 _ _ _) f g _ _ j⟩,λb hb=>by simp[blkOf] at hb;subst hb;simp⟩
theorem asgN{d ty pos af y E k}(hd:Nat.blt d X.N=true)(f:mm y=none):
 OpOk X st mm ⟨some d,.assign (.const (.slice none 0 0)),ty,pos,af,none⟩ [(d,.own y)] [(y,.sl E k [])]:=
 Qwv hd f rfl λa w γ hi=>⟨.slice none 0 0,w,rfl,rfl,rfl,rfl,Kp.refl _ _,rfl,λS γ' _ _ e=>⟨_,[],e,⟨oc,.inl ⟨rfl,rfl⟩⟩,rfl,λ_ h=>by cases h⟩,λb hb=>by simp[blkOf] at hb⟩
theorem slI{id E k ls}{a w γ}(hI:Inv X st mm a w γ)(d:mm id=some (.sl E k ls)):∃ v cs,γ id=some v/\w.ownsRow 0 E k v ls.length cs/\Ly.holds w (X.S γ mm) γ ls cs/\∀ ly∈ls,ly.sz=k:=hI.cts id _ d
theorem ixO{I:IntKind}{d x i T ty pos af E E' k s b z p id}{α:Type}{f:α->Ly}{xs:List α}{y:α}(F:mm id=some (.sl E' k (xs.map f)))(C:X.P.underlying T=some (.slice E))(B:TyI X.P E s b z)(n:getI xs p=some y)
 (hd:Nat.blt d X.N=true) (H:OpdF st x (.own id)) (hi:OpdF st i (.cell (cpI I p))) :
 OpOk X st mm ⟨some d,.indexAddr T x i,ty,pos,af,none⟩ [(d,.ptr id (p.toNat*s))] []:=
 Xn hd λa w γ hI=>by
  obtain⟨h0,n⟩:=Qlh n;obtain⟨g1,_⟩:=hi.val hI;have q:p.toNat<xs.length:=by rcases xl p.toNat xs.length with h | h;exact h;simp[xd h] at n
  obtain⟨v,cs,e,u,J,K⟩:=slI hI F;obtain⟨t,_⟩:=H.val hI;rw[t] at e;simp at e;subst e;obtain⟨_,A⟩:=u;rcases A with ⟨j,hn⟩ | ⟨g,cap,cur,j,_,L,M,N,O,P⟩;have:xs=[]:=by simpa using hn
  subst this;simp at q;have r:p<(xs.length:Int):=om
  refine⟨.pointer (some ⟨g,p.toNat*s,none⟩),?_,_,g,t,by rw[j];rfl,rfl⟩;simp only[execOp,j,g1];simp[Instr.indexAt,asIntOf,underlying,C,h0,r,V7 B,add0]
theorem Q42{w:World}{S γ}{E k:Nat}{v:Value}{α:Type}{f:α->Ly}{xs:List α}{cs:List Value}{i:Nat}{y:α}(e:w.ownsRow 0 E k v xs.length cs)(H:Ly.holds w S γ (xs.map f) cs)(J:∀ ly∈xs.map f,ly.sz=k)(j:xs[i]?=some y):
 ∃ g cap cur a u b,v=.slice (some ⟨g,0,none⟩) xs.length cap/\w.heap[g]?=some (.cells cur E (0,0))/\xs.length<=cap/\cap<=maxLen/\cur.size=cap*k/\cur.toList=(a++u++b)++cur.toList.drop (xs.length*k)/\cs=a++u++b/\a.length=i*k/\Ly.hold w S γ (f y) u /\
   ∀(n:Ly) (q:List Value),Ly.hold w S γ n q->Ly.holds w S γ ((xs.map f).set i n) (a++q++b):=by
 obtain⟨K,e⟩:=e;rcases e with ⟨_,hn⟩ | ⟨g,cap,cur,rfl,_,x,A,B,C,F⟩;have:xs=[]:=by simpa using hn
 subst this;simp at j;have d:(xs.map f)[i]?=some (f y):=by simp[j]
 have I:i<xs.length:=by rcases xl i xs.length with h | h;exact h;simp[xd h] at j
 obtain⟨a1,u,r,rfl,p,s,t⟩:=Qrd H d;rw[Qya J oh] at p;refine⟨g,cap,cur,a1,u,r,rfl,x,A,B,C,?_,rfl,p,s,t⟩;rw[<-F,ue]
theorem off0{i k:Nat}:i*k=i*k+0:=rfl
theorem ldO{d x T ty pos af r k C id E q off c i}{α:Type}{f:α->Ly}{xs:List α}{y:α}(p:List Nat)(V:mm id=some (.sl E k (xs.map f)))(Z:xs[i]?=some y)(O:Ly.go p (f y)=some (q,c))(e:off=i*k+c)
 (M:Shp X.P T r C) (hn:q.isN=r) (hz:q.sz=C) (hd:Nat.blt d X.N=true) (Y:OpdF st x (.ptr id off)) :
 OpOk X st mm ⟨some d,.load T x,ty,pos,af,none⟩ [(d,q)] []:=
 Xn hd λa w γ hI=>by
  subst e;obtain⟨v,cs,F,A,H,I⟩:=slI hI V;rw[ov] at A;obtain⟨g,cap,cur,a1,u,s,rfl,J,h3,h4,h5,K,rfl,h7,L,_⟩:=Q42 A H I Z;obtain⟨v0,g',k1,k2,k3⟩:=Y.val hI;rw[F] at k1;simp at k1;subst k1;simp[blkOf] at k2;subst k2;obtain⟨a2,n,t,N,hl,S,_⟩:=Qom p O L
  obtain⟨v,hr,W⟩:=Qm9 (P:=X.P) (b:=g) (o:=i*k+c) M hn hz (us:=n) (w:=w) (λj v B=>by
   have U:j<n.length:=by rcases xl j n.length with h | h;exact h;simp[xd h] at B
   rw[Wh J,<-yb,K,N];have:a1++(a2++n++t)++s++cur.toList.drop (xs.length*k)=(a1++a2)++(n++(t++s++cur.toList.drop (xs.length*k))):=oc
   rw[this,yz oh,yh oh]
   rw[<-B];congr 1;simp;omega) S
  exact⟨v,by simp only[execOp,k3];simp[Instr.loadAt,Instr.sureAddr,hr],W⟩
theorem stO{x y T ty pos af ag k kk id E lz ln off c i}{α:Type}{f:α->Ly}{xs:List α}{e:α}(r:α)(p:List Nat)(O:mm id=some (.sl E k (xs.map f)))(he:xs[i]?=some e)(hg:Ly.go p (f e)=some (lz,c))(B:off=i*k+c)
 (U:Ly.pu ln p (f e)=f r) (W:(f r).sz=k) (hT:Shp X.P T ag kk) (hz:lz.sz=kk) (A:ln.sz=kk) (S:ln.lies=true) (hx:OpdF st x (.ptr id off)) (hy:OpdF st y ln) :
 OpOk X st mm ⟨none,.store T x y,ty,pos,af,none⟩ [] [(id,.sl E k ((xs.set i r).map f))]:=by
 intro a w γ K Q hI hK;subst B;obtain⟨v,cs,I,J,e3,e4⟩:=slI hI O;rw[ov] at J;obtain⟨g,cap,cur,a1,u,F,rfl,h2,h3,h4,h5,h6,rfl,h7,h8,h9⟩:=Q42 J e3 e4 he;obtain⟨v0,g',k1,k2,k3⟩:=hx.val hI;rw[I] at k1;simp at k1;subst k1;simp[blkOf] at k2;subst k2;obtain⟨a2,u2,H,rfl,hl,hh,hp⟩:=Qom p hg h8;have Z:=Ly.hold_of_val S (hy.val hI);have n:=Ly.hold_sz _ _ Z;have Y:=Ly.hold_sz _ _ hh;have hvl':(a.eval y).cells.size=ln.sz:=by simpa using n
 have s:=yj List.length h6;have L:=J.1;simp only[yn,dy,uc] at s L;obtain⟨w',j,r1,r2,r3,r4,r5,r6,r7⟩:=Q88 (P:=X.P) (o:=i*k+c) (v:=a.eval y) hT h2 rfl (by rw[n,A]) om (Ly.oneCell_of_hold _ _ Z);have C:(execOp a.eval ⟨none,.store T x y,ty,pos,af,none⟩).run X.P w=.ok .skip w':=by simp only[execOp,k3];simp[r1]
 unfold Oper.wp;rw[C];have N:Kp (X.S γ mm) w w':=⟨r4.1,λb hb hn=>r4.2 b hb (λee=>hn (.inr ⟨id,_,_,O,rfl,I,by rw[ee];rfl⟩))⟩
 have hhold:=h9 _ _ (hp _ _ Z);rw[U] at hhold;have hmapset:(xs.map f).set i (f r)=(xs.set i r).map f:=by rw[List.map_set]
 rw[hmapset] at hhold;have d:j.toList=(a1++(a2++(a.eval y).cells.toList++H)++F)++cur.toList.drop (xs.length*k):=by
  rw[r3];have:cur.toList=(a1++a2)++u2++(H++F++cur.toList.drop (xs.length*k)):=by
   have:=h6
   simpa using this
  rw[this,show i*k+c=(a1++a2).length by simp;omega,Q87 (by rw[n,Y,A,hz])];have hd:(a1++a2++u2++(H++F++cur.toList.drop (xs.length*k))).drop (xs.length*k)=cur.toList.drop (xs.length*k):=by rw[<-this]
  rw[hd];simp
 have M:Yn w' (X.S γ mm) γ id (.sl E k ((xs.set i r).map f)):=by refine⟨_,a1++(a2++(a.eval y).cells.toList++H)++F,I,⟨?_,.inr ⟨g,cap,j,oc,yx _,r2,by simpa using h3,h4,?_,?_⟩⟩,Ly.holds_mono N (λb hb=>.inl hb) (Ng.refl _) _ _ hhold,?_⟩;simp only[yn,ov,vw];omega;have:=yj List.length d;simp only[yn,dy,uc] at this;omega;rw[d,ov,vw,List.take_append_of_le_length (by simp only[yn];omega),xb (by simp only[yn];omega)];intro ly t;simp only[xz] at t;obtain⟨q,V,rfl⟩:=t;rcases List.mem_or_eq_of_mem_set V with V | rfl;exact e4 _ (xz.2 ⟨q,V,rfl⟩);exact W
 exact hK _ _ γ (hI.setc r5 r6 r7 O rfl I rfl r4 rfl M)
end ops
def Sx(S0:Nat->Prop)(γ:Nm)(m:List (Nat×Ct))(b:Nat):Prop:=S0 b\/Ow γ (lk m) b
def Apart(γ:Nm)(mm:Nat->Option Ct):Prop:=∀ id d c e v v' b,mm id=some c->c.alive=true->mm d=some e->e.alive=true->γ id=some v->γ d=some v'->blkOf v=some b->blkOf v'=some b->id=d
structure Back(w:World)(S0:Nat->Prop)(γ:Nm)(mi:List (Nat×Ct))(res:Ly)(mo:List (Nat×Ct))(v:Value)(γ':Nm)(w':World):Prop where
 os:w'.os=w.os
 tape:w'.tape=w.tape
 output:w'.output=w.output
 grow:w.heap.size<=w'.heap.size
 old:∀ b,b<w.heap.size->¬ Ow γ (lk mi) b->w'.heap[b]?=w.heap[b]?
 keep:Ng γ γ'
 fresh:∀ id,lk mo id=none->γ' id=none
 cts:∀ id c,lk mo id=some c->Yn w' (Sx S0 γ' mo) γ' id c
 apart:Apart γ' (lk mo)
 mine:∀ b,Ow γ' (lk mo) b->(w.heap.size<=b\/Ow γ (lk mi) b)/\b<w'.heap.size/\¬ S0 b
 res:res.val w' (Sx S0 γ' mo) γ' v
def RetP(w:World)(S0:Nat->Prop)(γ:Nm)(mi:List (Nat×Ct))(res:Ly)(mo:List (Nat×Ct)):Ending->World->Prop:=
 λe w'=>∃ v γ',e=.returned v/\Back w S0 γ mi res mo v γ' w'
def FnOk(P:Program)(f:Nat)(args:List Ly)(mi:List (Nat×Ct))(res:Ly)(mo:List (Nat×Ct)):Prop:=
 (∃ fn,P.funcs[f]?=some fn∧(fn.name == "runtime.NumGoroutine")=false∧fn.body.isSome=true) ∧
 ∀(w:World) (S0:Nat->Prop) (γ:Nm) (vs:Array Value),(∀ b,S0 b->b<w.heap.size)->(∀ id,lk mi id=none->γ id=none) ->
  (∀ id c,lk mi id=some c->Yn w (Sx S0 γ mi) γ id c)->Apart γ (lk mi)->(∀ b,Ow γ (lk mi) b->b<w.heap.size/\¬ S0 b)->Ly.vals w (Sx S0 γ mi) γ args vs.toList->GwOk w (Sx S0 γ mi) ->
  Calls P f vs w (RetP w S0 γ mi res mo)
def argl:Nat->List Ly->List (Nat×Ly)
 | _,[]=>[]
 | i,ly::l=>(i,ly)::argl (i+1) l
theorem Q3u{w S γ}:∀ {l:List Ly}{vs:List Value}(i:Nat),Ly.vals w S γ l vs->∀ d ly,lk (argl i l) d=some ly->i<=d/\∃ v,vs[d - i]?=some v/\ly.val w S γ v
 | [],_,_,_,d,ly,h=>by cases h
 | x::l,vs,i,e,d,ly,h=>by simp only[Ly.vals] at e;obtain⟨v,r,rfl,g,j⟩:=e;simp only[argl,lk] at h;cases hb:Nat.beq i d;rw[hb] at h;obtain⟨g1,u,f,g3⟩:=Q3u (i+1) j d ly h;exact⟨om,u,by rw[show d - i=(d - (i+1))+1 by omega];simpa using f,g3⟩;rw[hb] at h;simp at h;subst h;have:i=d:=xy hb;subst this;exact⟨xr _,v,oc,g⟩
theorem Jbf{P:Program}{f N:Nat}{fn:Func}{c:Code}{args:List Ly}{mi:List (Nat×Ct)}{R:Type}{res:R->Ly}{mo:R->List (Nat×Ct)}{md:Option R}
 (hf:P.funcs[f]?=some fn) (hb:fn.body=some c) (hN:fn.ntmps=N) (hname:(fn.name == "runtime.NumGoroutine")=false) (hl:Nat.ble args.length N=true)
 (h:∀ w S0 γ,(∀ id,lk mi id=none->γ id=none)->Sq ⟨P,N,w,S0,Ow γ (lk mi),γ,[]⟩ (argl 0 args) mi md (λr=>c.wp P (bodyPost P fn (RetP w S0 γ mi (res r) (mo r))))) :
 ∀ r,md=some r->FnOk P f args mi (res r) (mo r):=by
 intro r hr;refine⟨⟨fn,hf,hname,by rw[hb];rfl⟩,λw S0 γ vs h1 h2 h3 h4 h5 h6 h7=>?_⟩;refine calls_of_wp hf hb (h w S0 γ h2 r _ w γ hr ?_);have hvl:vs.size=args.length:=by
  have:∀(l:List Ly) (vs:List Value),Ly.vals w (Sx S0 γ mi) γ l vs->vs.length=l.length:=by
   intro l
   induction l with
   | nil=>intro vs h;simp only[Ly.vals] at h;simp[h]
   | cons x l ih=>intro vs h;simp only[Ly.vals] at h;obtain⟨v,r,rfl,_,h⟩:=h;simp[ih r h]
  simpa using this args vs.toList h6
 have hle:=vz hl
 exact { size:=by simp[hN,hvl];omega,defs:=rfl,s0:=h1,gx:=h7,keep:=Ng.refl _,os:=rfl,tape:=rfl,output:=rfl,grow:=xr _,old:=λ_ _ _=>rfl,fresh:=h2,cts:=h3,apart:=h4,
         mine:=λb hb=>⟨.inr hb,(h5 b hb).1,(h5 b hb).2⟩,
         sts:=λd ly hd=>by
          obtain⟨_,v,g1,g2⟩:=Q3u 0 h6 d ly hd;refine⟨v,?_,g2⟩;simp only[Nat.sub_zero,yb] at g1;show(vs++_)[d]?=_
          rw[Array.getElem?_append_left (by
           rcases xl d vs.size with h | h;exact h
           simp[uf h] at g1)]
          exact g1 }
def KpL(σ:List (Nat×Nat)):List (Nat×Ct)->Prop
 | []=>True
 | (id,_)::r=>lk σ id=some id/\KpL σ r
theorem keepS{σ mi}{γ:Nm}(hγ:∀ id,lk mi id=none->γ id=none)(h:KpL σ mi):KeepS σ γ:=by
 intro id v f;have d:lk mi id≠none:=λe=>by rw[hγ id e] at f;cases f
 clear hγ f
 induction mi with
 | nil=>exact absurd rfl d
 | cons e r g=>
   obtain⟨i,c⟩:=e;simp only[lk] at d;cases hb:Nat.beq i id;rw[hb] at d;exact g h.2 d;rw[<-xy hb];exact h.1
def ResF(P:Program)(l:List (Nat×Ly))(m:List (Nat×Ct)):List ResultVar->List Ly->Prop
 | [],[]=>True
 | .tmp t::rs,ly::d=>lk l t=some ly/\ResF P l m rs d
 | .cell t T::rs,ly::d=>(∃ id E,lk l t=some (.own id)/\lk m id=some (.bx E ly)/\Shp P T ly.isN ly.sz)/\ResF P l m rs d
 | _,_=>False
def resItem(tmps:Array Value):ResultVar->Sem Value
 | .tmp t=>pure (tmps.getD t undef)
 | .cell t T=>do loadVar T (<-asAddr (tmps.getD t undef))
theorem Q3v{X:Cx}{l m a w γ}(hi:Inv X (lk l) (lk m) a w γ):∀(rs:List ResultVar) (d:List Ly),ResF X.P l m rs d ->
 ∃ vs:List Value,(rs.mapM (resItem a.tmps)).run X.P w=.ok vs w/\Ly.vals w (X.S γ (lk m)) γ d vs
 | [],[],_=>⟨[],oc,by simp[Ly.vals]⟩
 | .tmp t::rs,ly::d,h=>by obtain⟨vs,f,i⟩:=Q3v hi rs d h.2;obtain⟨v,g1,e⟩:=hi.sts t ly h.1;refine⟨v::vs,?_,?_⟩;simp[List.mapM_cons,resItem,g1,f];simp only[Ly.vals];exact⟨v,vs,rfl,e,i⟩
 | .cell t T::rs,ly::d,h=>by obtain⟨⟨id,E,k1,k2,r⟩,s⟩:=h;obtain⟨vs,f,i⟩:=Q3v hi rs d s;obtain⟨u,g1,e,_⟩:=hi.sts t _ k1;obtain⟨g,cur,k,n,p⟩:=bxI hi k2;rw[k] at e;simp at e;subst e;obtain⟨v,x,y⟩:=Qm9 (P:=X.P) (b:=g) (o:=0) (w:=w) r rfl rfl (us:=cur.toList) (λj u q=>by rw[Wh n];simpa using q) p;refine⟨v::vs,?_,?_⟩;simp[List.mapM_cons,resItem,g1,asAddr,x,f];simp only[Ly.vals];exact⟨v,vs,rfl,y,i⟩
 | .tmp _::_,[],h=>h.elim
 | .cell _ _::_,[],h=>h.elim
 | [],_::_,h=>h.elim
def tupV:List Value->Value
 | [v]=>v
 | vs=>.tuple ⟨vs⟩
def resL:List Ly->Ly
 | [ly]=>ly
 | l=>.tup l
theorem Jeo{P:Program}{w:World}{fn:Func}{tmps:Array Value}{rs:List ResultVar}{vs:List Value}(hr:fn.results=⟨rs⟩)
 (h:(rs.mapM (resItem tmps)).run P w=.ok vs w) :
 (results fn tmps).run P w=.ok (tupV vs) w:=by
 have d:results fn tmps=(do
  let vs <-fn.results.mapM (resItem tmps)
  pure (if h:vs.size=1 then vs[0] else .tuple vs)):=by
  unfold results;congr 1
 have e:Array.mapM (resItem tmps) (⟨rs⟩:Array ResultVar)=List.toArray <$> (rs.mapM (resItem tmps)):=by rw[show(⟨rs⟩:Array ResultVar)=rs.toArray from rfl,List.mapM_toArray]
 rw[d,hr,e];simp only[Sem.run_bind,Sem.run_map,h,Result.andThen_ok];rcases vs with _ | ⟨v,_ | ⟨v',vs⟩⟩<;>simp[tupV]
theorem ret{P:Program}{N:Nat}{w0:World}{S0 γ0}{mi:List (Nat×Ct)}{R:Type}{res:R->Ly}{mo:R->List (Nat×Ct)}{fn:Func}{l:List (Nat×Ly)}{m:List (Nat×Ct)}{r:R}(σ:List (Nat×Nat))(rs:List ResultVar)(g f:List Ly)(e:Exit)
 (hγ:∀ id,lk mi id=none->γ0 id=none)
 (he:e=.ret\/e=.normal) (hr:fn.results=⟨rs⟩) (Z:ResF P l m rs g) (hn:nodupB ((alv σ (mo r)).map (·.2))=true) (hk:KpL σ mi) (hs:NmM (mo r) σ) (q:RnM σ m (mo r)) (hl:Rns σ g f) (s:resL f=res r) :
 Sq ⟨P,N,w0,S0,Ow γ0 (lk mi),γ0,[]⟩ l m (some r) (λr=>bodyPost P fn (RetP w0 S0 γ0 mi (res r) (mo r)) e):=by
 intro r' a w γ I hi;cases I;obtain⟨vs,i,A⟩:=Q3v hi rs g Z;have t:=Jeo hr i;let γ':Nm:=λy=>match lk σ y with | some x=>γ x | none=>none
 have j:∀ y x,lk σ y=some x->γ' y=γ x:=λy x h=>by simp only[γ',h]
 obtain⟨γ'',hi'⟩:=entR (l':=[]) (m':=mo r) σ hn (keepS hγ hk) hs q trivial a w γ hi;have u:∀ b,Ow γ' (lk (mo r)) b->Ow γ (lk m) b:=by rintro b ⟨y,k,v,k1,k2,S,k4⟩;obtain⟨x,c,g1,p,g3⟩:=q.get y k k1;exact⟨x,c,v,p,g3.al k2,by rw[<-j y x g1];exact S,k4⟩
 have M:∀ b,Sx S0 γ' (mo r) b->Cx.S ⟨P,N,w0,S0,Ow γ0 (lk mi),γ0,[]⟩ γ (lk m) b:=λb h=>orM h (λx=>x) (u b);have hvals:Ly.vals w (Sx S0 γ' (mo r)) γ' f vs:=(hl w _ γ γ' j).2 vs (Ly.vals_mono (Kp.refl _ _) (λb hb=>.inl (M b hb)) (Ng.refl _) _ _ A);have C:(res r).val w (Sx S0 γ' (mo r)) γ' (tupV vs):=by rw[<-s];rcases f with _ | ⟨ly,_ | ⟨ly2,f⟩⟩;simp only[Ly.vals] at hvals;subst hvals;exact⟨#[],rfl,by simp[Ly.vals]⟩;simp only[Ly.vals] at hvals;obtain⟨v,rr,rfl,k1,rfl⟩:=hvals;exact k1;have hvals':=hvals;simp only[Ly.vals] at hvals;obtain⟨v,rr,rfl,k1,v2,rr2,rfl,k2,S⟩:=hvals;show Ly.val w _ γ' (.tup _) _;simp only[Ly.val];exact⟨_,rfl,hvals'⟩
 have hback:RetP w0 S0 γ0 mi (res r) (mo r) (.returned (tupV vs)) w:=by
  refine⟨_,γ',rfl,⟨hi.os,hi.tape,hi.output,hi.grow,hi.old,?_,?_,?_,?_,?_,C⟩⟩;intro id v C;have B:=keepS hγ hk id v C;rw[j id id B];exact hi.keep id v C;intro y hy;cases h:lk σ y with
  | none=>simp only[γ',h]
  | some x=>obtain⟨c,O⟩:=hs.get y x h;rw[hy] at O;cases O
  intro y k H;obtain⟨x,c,g1,p,g3⟩:=q.get y k H;have h0:=hi.cts x c p;have i:Yn w (Sx S0 γ' (mo r)) γ x c:=h0.mono (Kp.refl _ _) (λb hb=>.inl (M b hb)) (Ng.refl _) (λ_ _ _ _=>rfl);exact i.rn1 j g1 g3;intro y U c k v v' b i A B J K L W Y;obtain⟨x,d,g1,p,g3⟩:=q.get y c i;obtain⟨T,V,n,E,F⟩:=q.get U k B;rw[j y x g1] at K;rw[j U T n] at L;have:=hi.apart x T d V v v' b p (g3.al A) E (F.al J) K L W Y;subst this;exact Qx9 hn (Q2a (Qcz g1) i A) (Q2a (Qcz n) B J);intro b hb;exact hi.mine b (u b hb)
 rcases he with rfl | rfl<;>exact⟨hi.defs,_,t,hback⟩
section call
variable {X:Cx}{st:Nat->Option Ly}{mm:Nat->Option Ct}
def ArgF(st:Nat->Option Ly)(ρ:List (Nat×Nat)):List Operand->List Ly->Prop
 | [],[]=>True
 | x::xs,d::e=>(∃ ly,OpdF st x ly/\Rn ρ ly d)/\ArgF st ρ xs e
 | _,_=>False
theorem Qu6{a w γ γc ρ S}(hi:Inv X st mm a w γ)(f:∀ y x,lk ρ y=some x->γc y=γ x)(e:∀ b,S b->X.S γ mm b):
 ∀ {xs:List Operand}{d:List Ly},ArgF st ρ xs d->Ly.vals w S γc d (xs.map a.eval)
 | [],[],_=>by simp[Ly.vals]
 | x::xs,ly::d,h=>by obtain⟨⟨k,g,i⟩,j⟩:=h;simp only[yy,Ly.vals];exact⟨_,_,rfl,Ly.val_mono (Kp.refl _ _) (λb hb=>.inl (e b hb)) (Ng.refl _) _ _ ((i w _ γ γc f).2 _ (g.val hi)),Qu6 hi f e j⟩
 | [],_::_,h=>h.elim
 | _::_,[],h=>h.elim
def BackM(σ ρ:List (Nat×Nat))(mo:List (Nat×Ct)):List (Nat×Ct)->Prop
 | []=>True
 | (y,c)::r=>((∃ x c0,lk σ y=some x/\lk mo x=some c0/\RnC σ c0 c)\/(c=.gone/\∃ x,(x,y)∈ρ))/\BackM σ ρ mo r
theorem BackM.get{σ ρ mo}:∀ {em},BackM σ ρ mo em->∀ y c,lk em y=some c->(∃ x c0,lk σ y=some x/\lk mo x=some c0/\RnC σ c0 c)\/(c=.gone/\∃ x,(x,y)∈ρ)
 | [],_,y,c,h=>by cases h
 | (i,x)::r,d,y,c,h=>by simp only[lk] at h;cases hb:Nat.beq i y;rw[hb] at h;exact BackM.get d.2 y c h;rw[hb] at h;have:i=y:=xy hb;subst this;simp at h;subst h;exact d.1
def AllIn(em:List (Nat×Ct)):List Nat->Prop
 | []=>True
 | y::r=>(∃ c,lk em y=some c)/\AllIn em r
theorem AllIn.get{em}:∀ {l},AllIn em l->∀ y∈l,∃ c,lk em y=some c
 | [],_,y,h=>by cases h
 | x::l,d,y,h=>by rcases xu.1 h with rfl | h;exact d.1;exact AllIn.get d.2 y h
def Fresh(mm:Nat->Option Ct):List (Nat×Nat)->Prop
 | []=>True
 | (y,_)::r=>mm y=none/\Fresh mm r
theorem Fresh.get{mm}:∀ {τ},Fresh mm τ->∀ y x,lk τ y=some x->mm y=none
 | [],_,y,x,h=>by cases h
 | (i,x0)::r,d,y,x,h=>by simp only[lk] at h;cases hb:Nat.beq i y;rw[hb] at h;exact Fresh.get d.2 y x h;rw[<-xy hb];exact d.1
def SigT(τ ρ:List (Nat×Nat)):List (Nat×Nat)->Prop
 | []=>True
 | (y,x)::r=>(lk τ y=some x\/lk ρ x=some y)/\SigT τ ρ r
theorem SigT.get{τ ρ}:∀ {σ},SigT τ ρ σ->∀ y x,lk σ y=some x->lk τ y=some x\/lk ρ x=some y
 | [],_,y,x,h=>by cases h
 | (i,x0)::r,d,y,x,h=>by simp only[lk] at h;cases hb:Nat.beq i y;rw[hb] at h;exact SigT.get d.2 y x h;rw[hb] at h;have:i=y:=xy hb;subst this;simp at h;subst h;exact d.1
def calG(ρ:List (Nat×Nat))(γ:Nm):Nm:=λx=>match lk ρ x with | some y=>γ y | none=>none
def calS(X:Cx)(mm:Nat->Option Ct)(ρ:List (Nat×Nat))(γ:Nm)(b:Nat):Prop:=X.S0 b\/∃ id c v,mm id=some c/\c.alive=true/\¬(∃ x,(x,id)∈ρ)/\γ id=some v/\blkOf v=some b
theorem Jo0{mi res mo res' em}(ρ τ σ:List (Nat×Nat))
 (P:∀ x n,lk mi x=some n->∃ y c,lk ρ x=some y/\mm y=some c/\RnC ρ c n) (hρm:NmM mi ρ) (hρn:nodupB (ρ.map (·.2))=true)
 (hτ:Fresh mm τ) (hσ:SigT τ ρ σ) (hσn:nodupB (σ.map (·.2))=true) (K:BackM σ ρ mo em) (hall:AllIn em (ρ.map (·.2))) (hall2:AllIn em (τ.map (·.1)))
 (hres:Rn σ res res') {a:Act}{w:World}{γ:Nm}(hi:Inv X st mm a w γ) :
 ∃(γc:Nm) (S0c:Nat->Prop),γc=calG ρ γ/\S0c=calS X mm ρ γ/\(∀ y x,lk ρ y=some x->γc y=γ x)/\(∀ b,Sx S0c γc mi b->X.S γ mm b)/\(∀ b,S0c b->b<w.heap.size)/\(∀ x,lk mi x=none->γc x=none) /\
  (∀ x n,lk mi x=some n->Yn w (Sx S0c γc mi) γc x n)/\Apart γc (lk mi)/\(∀ b,Ow γc (lk mi) b->b<w.heap.size/\¬ S0c b) /\
  ∀(v:Value) (γ':Nm) (w':World),Back w S0c γc mi res mo v γ' w'->∃ γ'',Inv X st (up mm em) a w' γ''/\Ng γ γ''/\res'.val w' (X.S γ'' (up mm em)) γ'' v:=by
 let γc:Nm:=calG ρ γ;have L:∀ x y,lk ρ x=some y->γc x=γ y:=λx y h=>by simp only[γc,calG,h]
 let img:Nat->Prop:=λy=>∃ x,(x,y)∈ρ;let S0c:Nat->Prop:=calS X mm ρ γ;have Y:∀ b,S0c b->X.S γ mm b:=by rintro b (h | ⟨id,c,v,e,f,p,j,r⟩);exact .inl h;exact .inr ⟨id,c,v,e,f,j,r⟩
 have A:∀ b,Ow γc (lk mi) b->∃ y c v,img y/\mm y=some c/\c.alive=true/\γ y=some v/\blkOf v=some b:=by rintro b ⟨x,n,v,e,f,p,j⟩;obtain⟨y,c,g1,q,g3⟩:=P x n e;exact⟨y,c,v,⟨x,Qcz g1⟩,q,g3.alive.1,by rw[<-L x y g1];exact p,j⟩
 have N:∀ b,Ow γc (lk mi) b->X.S γ mm b:=λb h=>by obtain⟨y,c,v,e,f,p,j,r⟩:=A b h;exact .inr ⟨y,c,v,f,p,j,r⟩
 have hSc:∀ b,Sx S0c γc mi b->X.S γ mm b:=λb h=>h.elim (Y b) (N b);have hS0lt:∀ b,S0c b->b<w.heap.size:=by rintro b (h | ⟨id,c,v,e,f,p,j,r⟩);exact xt (hi.s0 b h) hi.grow;exact(hi.mine b ⟨id,c,v,e,f,j,r⟩).2.1
 have hdis:∀ b,Ow γc (lk mi) b->¬ S0c b:=by intro b h hs;obtain⟨y,c,v,e,f,p,j,r⟩:=A b h;rcases hs with hs | ⟨id,c2,v2,g1,q,g3,g4,g5⟩;exact(hi.mine b ⟨y,c,v,f,p,j,r⟩).2.2 hs;have:=hi.apart y id c c2 v v2 b f p g1 q j g4 r g5;subst this;exact g3 e
 refine⟨γc,S0c,rfl,rfl,L,hSc,hS0lt,
  (λx hx=>by
   cases h:lk ρ x with
   | none=>simp only[γc,calG,h]
   | some y=>obtain⟨c,hc⟩:=hρm.get x y h;rw[hx] at hc;cases hc),
  (λx n hx=>by
   obtain⟨y,c,g1,q,g3⟩:=P x n hx;have h0:=hi.cts y c q;have e:Yn w (Sx S0c γc mi) γ y c:=h0.mono (Kp.refl _ _) (λb hb=>.inl (hSc b hb)) (Ng.refl _) (λ_ _ _ _=>rfl)
   exact e.rn L g1 g3),
  (λx x' c n v v' b e f p j r M V W=>by
   obtain⟨y,d,g1,q,g3⟩:=P x c e;obtain⟨t,d',F,g2',g3'⟩:=P x' n p;rw[L x y g1] at r;rw[L x' t F] at M;have:=hi.apart y t d d' v v' b q g3.alive.1 g2' g3'.alive.1 r M V W;subst this
   exact Qrl hρn (Qcz g1) (Qcz F) g1 F),
  (λb hb=>by
   obtain⟨y,c,v,e,f,p,j,r⟩:=A b hb
   exact⟨(hi.mine b ⟨y,c,v,f,p,j,r⟩).2.1,hdis b hb⟩),?_⟩
 rintro v γ' w' hb;let γ'':Nm:=λy=>match lk τ y with | some x=>γ' x | none=>γ y
 have hnτ:∀ y c,mm y=some c->lk τ y=none:=λy c hy=>by
  cases h:lk τ y with
  | none=>rfl
  | some x=>rw[hτ.get y x h] at hy;cases hy
 have S:Ng γ γ'':=by
  intro y u B;cases h:lk τ y with
  | none=>simp only[γ'',h];exact B
  | some x=>have:=hi.fresh y (hτ.get y x h);rw[this] at B;cases B
 have I:∀ y x,lk σ y=some x->γ'' y=γ' x:=by
  intro y x h;rcases hσ.get y x h with e | e;simp only[γ'',e];obtain⟨n,hc'⟩:=hρm.get x y e;obtain⟨y2,c,g1,q,g3⟩:=P x n hc';rw[e] at g1;simp at g1;subst g1;have O:=g3.alive.1;have h0:=hi.cts y c q;obtain⟨u,B⟩:∃ u,γ y=some u:=by
   cases c with
   | gone=>simp[Ct.alive] at O
   | sl E k ls=>obtain⟨u,_,B,_⟩:=h0;exact⟨u,B⟩
   | bx E ly=>obtain⟨g,_,B,_⟩:=h0;exact⟨_,B⟩
   | ob o=>obtain⟨g,B,_⟩:=h0;exact⟨_,B⟩
  have J:γ'' y=γ y:=by simp only[γ'',hnτ y c q]
  rw[J,B];exact(hb.keep x u (by rw[L x y e];exact B)).symm
 let s:=up mm em;have C:∀ y c,s y=some c->lk em y=some c\/(lk em y=none/\mm y=some c):=by
  intro y c h;simp only[s,up] at h;cases he:lk em y with
  | none=>rw[he] at h;exact .inr ⟨rfl,h⟩
  | some n=>rw[he] at h;exact .inl h
 have hnimg:∀ y,lk em y=none->¬ img y:=by rintro y h ⟨x,hx⟩;obtain⟨c,hc⟩:=hall.get y (xz.2 ⟨_,hx,rfl⟩);rw[h] at hc;cases hc
 have how:∀ b,Ow γ'' s b->Ow γ' (lk mo) b\/S0c b:=by
  rintro b ⟨y,c,u,e,f,p,j⟩;rcases C y c e with h | ⟨h,U⟩;rcases K.get y c h with ⟨x,c0,g1,q,g3⟩ | ⟨rfl,_⟩;exact .inl ⟨x,c0,u,q,g3.alive.1,by rw[<-I y x g1];exact p,j⟩;simp[Ct.alive] at f;refine .inr (.inr ⟨y,c,u,U,f,hnimg y h,?_,j⟩);have J:γ'' y=γ y:=by simp only[γ'',hnτ y c U]
  rw[<-J];exact p
 have hS2:∀ b,X.S γ'' s b->Sx S0c γ' mo b:=by rintro b (h | h);exact .inl (.inl h);rcases how b h with h | h;exact .inr h;exact .inl h
 have Z:∀ b,X.S γ'' s b->X.S γ mm b\/w.heap.size<=b:=by intro b h;rcases hS2 b h with h | h;exact .inl (Y b h);rcases(hb.mine b h).1 with h | h;exact .inr h;exact .inl (N b h)
 have hk:Kp (X.S γ mm) w w':=⟨hb.grow,λb H hn=>hb.old b H (λh=>hn (N b h))⟩
 have hinv:Inv X st s a w' γ'':={
  size:=hi.size,defs:=hi.defs,s0:=hi.s0,gx:=hi.gx,keep:=λid u B=>S id u (hi.keep id u B)
  os:=hb.os.trans hi.os,tape:=hb.tape.trans hi.tape,output:=hb.output.trans hi.output,grow:=xo hi.grow hb.grow
  old:=by
   intro b H hM
   rw[hb.old b (xt H hi.grow) (λh=>by
    obtain⟨y,c,u,e,f,p,j,r⟩:=A b h;rcases(hi.mine b ⟨y,c,u,f,p,j,r⟩).1 with h | h;omega
    exact hM h)]
   exact hi.old b H hM
  fresh:=by
   intro y hy;have e:lk em y=none:=by
    cases he:lk em y with
    | none=>rfl
    | some c=>simp only[s,up,he] at hy;cases hy
   have f:mm y=none:=by simpa only[s,up,e] using hy
   have p:lk τ y=none:=by
    cases h:lk τ y with
    | none=>rfl
    | some x=>
      obtain⟨c,hc⟩:=hall2.get y (xz.2 ⟨_,Qcz h,rfl⟩);rw[e] at hc;cases hc
   simp only[γ'',p];exact hi.fresh y f
  cts:=by intro y c hy;rcases C y c hy with h | ⟨h,U⟩;rcases K.get y c h with ⟨x,c0,g1,q,g3⟩ | ⟨rfl,_⟩;have h0:=hb.cts x c0 q;have e:Yn w' (X.S γ'' s) γ' x c0:=h0.mono (Kp.refl _ _) (λb hb=>.inl (hS2 b hb)) (Ng.refl _) (λ_ _ _ _=>rfl);exact e.rn I g1 g3;trivial;by_cases O:c.alive=true;refine(hi.cts y c U).mono hk Z S ?_;intro u b B H;refine hb.old b (hi.mine b ⟨y,c,u,U,O,B,H⟩).2.1 (λho=>?_);obtain⟨y2,c2,u2,k1,k2,k3,k4,k5⟩:=A b ho;have:=hi.apart y y2 c c2 u u2 b U O k2 k3 B k4 H k5;subst this;exact hnimg y h k1;cases c<;>simp[Ct.alive] at O;trivial
  apart:=by
   have cross:∀ y t c n u T b,lk em y=some c->c.alive=true->lk em t=none->mm t=some n->n.alive=true->γ'' y=some u->γ'' t=some T->blkOf u=some b->blkOf T=some b->False:=by
    intro y t c n u T b e f p j r M V W h9;rcases K.get y c e with ⟨x,c0,g1,q,g3⟩ | ⟨rfl,_⟩;have:=(hb.mine b ⟨x,c0,u,q,g3.alive.1,by rw[<-I y x g1];exact M,W⟩).2.2;refine this (.inr ⟨t,n,T,j,r,hnimg t p,?_,h9⟩);have J:γ'' t=γ t:=by simp only[γ'',hnτ t n j]
    rw[<-J];exact V;simp[Ct.alive] at f
   intro y t c n u T b e f p j r M V W;rcases C y c e with J | ⟨J,e1'⟩<;>rcases C t n p with e2 | ⟨e2,e2'⟩;rcases K.get y c J with ⟨x,c0,g1,q,g3⟩ | ⟨rfl,_⟩;rcases K.get t n e2 with ⟨x',c0',F,g2',g3'⟩ | ⟨rfl,_⟩;rw[I y x g1] at r;rw[I t x' F] at M;have:=hb.apart x x' c0 c0' u T b q g3.alive.1 g2' g3'.alive.1 r M V W;subst this;exact Qrl hσn (Qcz g1) (Qcz F) g1 F;simp[Ct.alive] at j;simp[Ct.alive] at f;exact(cross y t c n u T b J f e2 e2' j r M V W).elim;exact(cross t y n c T u b e2 j J e1' f M r W V).elim;have k1:γ'' y=γ y:=by simp only[γ'',hnτ y c e1']
   have k2:γ'' t=γ t:=by simp only[γ'',hnτ t n e2']
   rw[k1] at r;rw[k2] at M;exact hi.apart y t c n u T b e1' f e2' j r M V W
  mine:=by
   intro b h;rcases how b h with h | h;obtain⟨g1,q,g3⟩:=hb.mine b h;refine⟨?_,q,λU=>g3 (.inl U)⟩;rcases g1 with g1 | g1;exact .inl (xo hi.grow g1);obtain⟨y,c,u,k1,k2,k3,k4,k5⟩:=A b g1;exact(hi.mine b ⟨y,c,u,k2,k3,k4,k5⟩).1;obtain⟨y,c,u,e,f,p,j⟩:=‹Ow γ'' s b›;rcases h with h | ⟨id,c2,u2,k1,k2,k3,k4,k5⟩;rcases C y c e with J | ⟨J,e1'⟩;rcases K.get y c J with ⟨x,c0,g1,q,g3⟩ | ⟨rfl,_⟩;exact((hb.mine b ⟨x,c0,u,q,g3.alive.1,by rw[<-I y x g1];exact p,j⟩).2.2 (.inl h)).elim;simp[Ct.alive] at f;have k1:γ'' y=γ y:=by simp only[γ'',hnτ y c e1']
   rw[k1] at p;obtain⟨g1,q,g3⟩:=hi.mine b ⟨y,c,u,e1',f,p,j⟩;exact(g3 h).elim;obtain⟨g1,q,g3⟩:=hi.mine b ⟨id,c2,u2,k1,k2,k4,k5⟩;exact⟨g1,xt q hb.grow,g3⟩
  sts:=by
   intro i ly hly;obtain⟨u,B,hl⟩:=hi.sts i ly hly
   exact⟨u,B,Ly.val_mono hk Z S ly u hl⟩ }
 have hv:res'.val w' (X.S γ'' s) γ'' v:=Ly.val_mono (Kp.refl _ _) (λb hb=>.inl (hS2 b hb)) (Ng.refl _) _ _ ((hres w' _ γ' γ'' I).2 v hb.res);exact⟨γ'',hinv,S,hv⟩
theorem callX{mi res mo res' em}(ρ τ σ:List (Nat×Nat))
 (i:∀ x d,lk mi x=some d->∃ y c,lk ρ x=some y/\mm y=some c/\RnC ρ c d) (hρm:NmM mi ρ) (hρn:nodupB (ρ.map (·.2))=true)
 (hτ:Fresh mm τ) (hσ:SigT τ ρ σ) (hσn:nodupB (σ.map (·.2))=true) (g:BackM σ ρ mo em) (e:AllIn em (ρ.map (·.2))) (hall2:AllIn em (τ.map (·.1)))
 (f:Rn σ res res') {a:Act}{w:World}{γ:Nm}(hi:Inv X st mm a w γ) :
 (∀ y x,lk ρ y=some x->calG ρ γ y=γ x)/\(∀ b,Sx (calS X mm ρ γ) (calG ρ γ) mi b->X.S γ mm b)/\(∀ b,calS X mm ρ γ b->b<w.heap.size)/\(∀ x,lk mi x=none->calG ρ γ x=none) /\
  (∀ x d,lk mi x=some d->Yn w (Sx (calS X mm ρ γ) (calG ρ γ) mi) (calG ρ γ) x d)/\Apart (calG ρ γ) (lk mi)/\(∀ b,Ow (calG ρ γ) (lk mi) b->b<w.heap.size/\¬ calS X mm ρ γ b) /\
  ∀(v:Value) (γ':Nm) (w':World),Back w (calS X mm ρ γ) (calG ρ γ) mi res mo v γ' w'->∃ γ'',Inv X st (up mm em) a w' γ''/\Ng γ γ''/\res'.val w' (X.S γ'' (up mm em)) γ'' v:=by
 obtain⟨_,_,rfl,rfl,h⟩:=Jo0 (res':=res') ρ τ σ i hρm hρn hτ hσ hσn g e hall2 f hi;exact h
theorem callR{d f o largs mi res mo res' em}(ρ τ σ:List (Nat×Nat))(hf:FnOk X.P f largs mi res mo)(hdst:o.dst=some d)
 (hrun:∀ fn,X.P.funcs[f]?=some fn->(fn.name == "runtime.NumGoroutine")=false->fn.body.isSome=true->∀ a w γ,Inv X st mm a w γ->∃ vs:Array Value,(execOp a.eval o).run X.P w=.ok (.enter f vs) w ∧
  ∀(γc:Nm) (S:Nat->Prop),(∀ y x,lk ρ y=some x->γc y=γ x)->(∀ b,S b->X.S γ mm b)->Ly.vals w S γc largs vs.toList)
 (hmi:∀ x c',lk mi x=some c'->∃ y c,lk ρ x=some y/\mm y=some c/\RnC ρ c c') (hρm:NmM mi ρ) (hρn:nodupB (ρ.map (·.2))=true)
 (hτ:Fresh mm τ) (hσ:SigT τ ρ σ) (hσn:nodupB (σ.map (·.2))=true) (hem:BackM σ ρ mo em) (hall:AllIn em (ρ.map (·.2))) (hall2:AllIn em (τ.map (·.1)))
 (hres:Rn σ res res') (hd:Nat.blt d X.N=true) :
 OpOk X st mm o [(d,res')] em:=by
 obtain⟨⟨fn,hfn,hname,hbody⟩,hc⟩:=hf;intro a w γ K Q hi hK;obtain⟨vs,hrun,hvals⟩:=hrun fn hfn hname hbody a w γ hi;obtain⟨g1,g2,g3,g4,g5,g6,g7,g8⟩:=callX (res':=res') ρ τ σ hmi hρm hρn hτ hσ hσn hem hall hall2 hres hi;unfold Oper.wp;rw[hrun,Oper.upon_enter];refine(hc w _ _ vs g3 g4 g5 g6 g7 (hvals _ _ g1 g2) (hi.gw g2)).mono ?_;rintro e w' ⟨v,γ',rfl,hb⟩;show K (a.put o.dst v) w';rw[hdst];obtain⟨γ'',hinv,_,hv⟩:=g8 v γ' w' hb;exact hK _ _ _ (hinv.put (by simpa using hd) hv)
theorem callG{d f args argTypes ty pos af largs mi res mo res' em}(ρ τ σ:List (Nat×Nat))(hf:FnOk X.P f largs mi res mo)
 (ha:ArgF st ρ args largs) (hmi:∀ x c',lk mi x=some c'->∃ y c,lk ρ x=some y/\mm y=some c/\RnC ρ c c') (hρm:NmM mi ρ) (hρn:nodupB (ρ.map (·.2))=true)
 (hτ:Fresh mm τ) (hσ:SigT τ ρ σ) (hσn:nodupB (σ.map (·.2))=true) (hem:BackM σ ρ mo em) (hall:AllIn em (ρ.map (·.2))) (hall2:AllIn em (τ.map (·.1)))
 (hres:Rn σ res res') (hd:Nat.blt d X.N=true) :
 OpOk X st mm ⟨some d,.call { callee:=.value (.func f),args:=⟨args⟩,argTypes:=argTypes },ty,pos,af,none⟩ [(d,res')] em:=by
 refine callR ρ τ σ hf rfl (λfn hfn hname hbody a w γ hi=>⟨(args.map a.eval).toArray,?_,fun γc S hgc hSc=>by simpa using Qu6 hi hgc hSc ha⟩) hmi hρm hρn hτ hσ hσn hem hall hall2 hres hd;have hrun:(execOp a.eval ⟨some d,.call { callee:=.value (.func f),args:=⟨args⟩,argTypes:=argTypes },ty,pos,af,none⟩).run X.P w=.ok (.enter f (args.map a.eval).toArray) w:=by
  have e1:fn.body.isNone=false:=by cases h:fn.body<;>simp[h] at hbody |-
  have e2:¬ fn.name= "runtime.NumGoroutine":=by simpa using hname
  simp only[execOp,resolve,Act.eval];simp[Deferred.ofValue,invoke,callFunc,hfn,e2];intro e3;rw[e3] at e1;cases e1
 exact hrun
theorem call0{d f args argTypes ty pos af largs res}(i:FnOk X.P f largs [] res [])(g:ArgF st [] args largs)(e:IF res)(hd:Nat.blt d X.N=true):
 OpOk X st mm ⟨some d,.call { callee:=.value (.func f),args:=⟨args⟩,argTypes:=argTypes },ty,pos,af,none⟩ [(d,res)] []:=
 callG [] [] [] i g (λ_ _ h=>by cases h) trivial rfl trivial trivial rfl trivial trivial trivial (rn_id e) hd
end call
section ops
variable {X:Cx}{st:Nat->Option Ly}{mm:Nat->Option Ct}
theorem ext{d x i ty pos af l ly}(n:l[i]?=some ly)(hd:Nat.blt d X.N=true)(p:OpdF st x (.tup l)):OpOk X st mm ⟨some d,.extract x i,ty,pos,af,none⟩ [(d,ly)] []:=
 Xn hd λa w γ hi=>by
  obtain⟨vs,j,k⟩:=p.val hi;have f:∀ {l:List Ly}{vs:List Value}{i:Nat}{ly},Ly.vals w (X.S γ mm) γ l vs->l[i]?=some ly->∃ v,vs[i]?=some v/\ly.val w (X.S γ mm) γ v:=by
   intro l
   induction l with
   | nil=>intro vs i ly _ h;simp at h
   | cons x l q=>
     intro vs i ly g h;simp only[Ly.vals] at g;obtain⟨v,r,rfl,k1,k2⟩:=g;cases i with
     | zero=>simp at h;subst h;exact⟨v,oc,k1⟩
     | succ i=>
       obtain⟨u,g1,e⟩:=q (vs:=r) (i:=i) (ly:=ly) k2 (by simpa using h);exact⟨u,by simpa using g1,e⟩
  obtain⟨v,g1,e⟩:=f k n;exact⟨v,by simp only[execOp,j];simp only[yb] at g1;simp[Instr.extract,g1],e⟩
def Jia(mm:Nat->Option Ct):Ly->Prop
 | .ptr _ _=>True
 | .ref _=>True
 | .own id=>∃ E ly,mm id=some (.bx E ly)
 | _=>False
theorem nck{d x ty pos af ly}(hn:Jia mm ly)(hd:Nat.blt d X.N=true)(n:OpdF st x ly):OpOk X st mm ⟨some d,.nilCheck x,ty,pos,af,none⟩ [(d,ly)] []:=
 Xn hd λa w γ hi=>by
  have e:=n.val hi;have:∃ i,a.eval x=.pointer (some i):=by
   cases ly with
   | ptr id off=>obtain⟨_,g,_,_,h⟩:=e;exact⟨_,h⟩
   | ref l=>obtain⟨b,o,us,h,_⟩:=e;simp at h;exact⟨_,h⟩
   | own id=>
     obtain⟨E,ly,k⟩:=hn;obtain⟨g,cur,j,_⟩:=bxI hi k;obtain⟨f,_⟩:=e;rw[j] at f;simp at f;exact⟨_,f.symm⟩
   | _=>exact hn.elim
  obtain⟨i,h⟩:=this;exact⟨_,by simp only[execOp,h];rfl,h ▸ e⟩
theorem Jbg{z:Array Value}{n k:Nat}(f:z.size=k)(_:0<k):(madeCells z (n*k)).toList=(List.replicate n z.toList).flatten:=by
 induction n with
 | zero=>simp[madeCells]
 | succ n g=>
   have:(madeCells z ((n+1)*k)).toList=(madeCells z (n*k)).toList++z.toList:=by
    unfold madeCells;simp only[Array.toList_map,Array.toList_range];rw[show(n+1)*k=n*k+k by rw[uz],List.range_add,xw,yo];congr 1;apply vh;simp[f];intro i d j;simp only[ov,wo] at d;simp only[gy,gq,Function.comp_def,f];have e:(n*k+i)%k=i:=by rw[uv,Nat.mul_add_mod];exact xv d
    rw[e];simp[getElem!_pos z i om]
   rw[this,g,ju,List.flatten_append];simp
theorem mks{d H x2 T ty pos af y E k b z n}{α:Type}{f:α->Ly}{zx:α}{xs:List α}(s:mkM b zx n=some xs)(L:X.P.underlying T=some (.slice E))(K:TyI X.P E k b z)(F:Zr (f zx) z.cells.toList)(hk:(f zx).sz=k)(u:Nat.blt 0 k=true)(N:mm y=none)
 (hd:Nat.blt d X.N=true) (x:OpdF st H (i64 n)) (A:OpdF st x2 (i64 n)) :
 OpOk X st mm ⟨some d,.makeSlice T H x2,ty,pos,af,none⟩ [(d,.own y)] [(y,.sl E k (xs.map f))]:=by
 have j:0<k:=by simpa using u
 unfold mkM at s;split at s;rename_i hn;obtain⟨v,M,q⟩:=hn;cases s;obtain⟨i,hi,C,r,t⟩:=K;have g:z.cells.size=k:=by have:=Ly.hold_sz _ _ (F default (λ_=>False) (λ_=>none));rw[hk] at this;simpa using this
 refine Qwv hd N rfl λa w γ hI=>?_;obtain⟨I,_⟩:=x.val hI;obtain⟨J,_⟩:=A.val hI;have hr:=run_make (P:=X.P) w T E i z L hi C .i64 .i64 n n v (Int.le_refl _) (by rw[t,Int.mul_comm];omega) q;refine⟨.slice (some ⟨w.heap.size,0,none⟩) n.toNat n.toNat,w.alloc (.cells (madeCells z.cells (n.toNat*i.size)) E),by simp only[execOp,I,J];simp[hr],rfl,rfl,rfl,Qj5 _ _ _,rfl,λS γ' O U B=>?_,λbb hb=>by simp[blkOf] at hb;subst hb;simp⟩;have hcells:(madeCells z.cells (n.toNat*i.size)).toList=(List.replicate n.toNat z.cells.toList).flatten:=by rw[r];exact Jbg g j
 have e:(List.replicate n.toNat zx).map f=List.replicate n.toNat (f zx):=oc
 refine⟨_,(List.replicate n.toNat z.cells.toList).flatten,B,⟨?_,.inr ⟨w.heap.size,n.toNat,_,oc,yx _,Qqo _ _,oc,by unfold maxLen;omega,by rw[size_madeCells,r],?_⟩⟩,?_,?_⟩;simp[g];rw[hcells,xb];simp[g];rw[e];exact Qzj F _ _ _ _;intro ly p;rw[e] at p;rw[List.eq_of_mem_replicate p];exact hk;cases s
def Parts(st:Nat->Option Ly)(k:Nat):Nat->List (Nat×Operand)->List Ly->Prop
 | _,[],[]=>True
 | j,(i,x)::d,ly::ls=>i=j/\OpdF st x ly/\ly.sz=k/\ly.lies=true/\Parts st k (j+1) d ls
 | _,_,_=>False
theorem Q89(vs:List Value):∀(cells:Array Value) (off n:Nat),off+n+vs.length<=cells.size ->
 ((vs.zipIdx n).foldl (λcs (c,j)=>cs.setIfInBounds (off+j) c) cells).toList=cells.toList.take (off+n)++vs++cells.toList.drop (off+n+vs.length):=by
 induction vs with
 | nil=>intro cells off n _;simp
 | cons v vs d=>
   intro cells off n h;simp only[xn] at h;rw[List.zipIdx_cons,dr,d _ off (n+1) oh];simp only[Array.toList_setIfInBounds,xn];rw[show off+(n+1)=off+n+1 by omega,jw oh];simp only[List.getElem_set_self,xf,yu,yw];rw[List.take_set_of_le om];congr 2;rw[List.drop_set_of_lt om];congr 2;omega
theorem Q43{a w γ k}(hi:Inv X st mm a w γ):∀(d:List (Nat×Operand)) (ls:List Ly) (j:Nat) (cells:Array Value) ,Parts st k j d ls->(j+d.length)*k<=cells.size ->
 ∃ cells' cs,Instr.fill (λi=>some (i*k,k)) cells (d.map λ(i,x)=>(i,a.eval x))=some cells'/\cells'.size=cells.size/\Ly.holds w (X.S γ mm) γ ls cs/\cs.length=d.length*k/\cells'.toList=cells.toList.take (j*k)++cs++cells.toList.drop ((j+d.length)*k)
 | [],[],j,cells,_,_=>⟨cells,[],by simp[Instr.fill],rfl,rfl,oc,oc⟩
 | (i,x)::d,ly::ls,j,cells,h,n=>by
   obtain⟨rfl,A,B,y,h⟩:=h;have r:=Ly.hold_of_val y (A.val hi);have e:(a.eval x).cells.size=k:=by have:=Ly.hold_sz _ _ r;rw[B] at this;simpa using this
   simp only[xn] at n;have C:i*k+k<=cells.size:=by
    have:(i+(d.length+1))*k=i*k+(d.length*k+k):=by rw[Nat.add_mul,uz]
    omega
   have hfold:=Q89 (a.eval x).cells.toList cells (i*k) 0 (by simp[e];omega);simp only[xp,dy,e] at hfold;let cells1:=((a.eval x).cells.toList.zipIdx 0).foldl (λcs (c,j)=>cs.setIfInBounds (i*k+j) c) cells;have g:cells1.toList=cells.toList.take (i*k)++(a.eval x).cells.toList++cells.toList.drop (i*k+k):=hfold;have f:cells1.size=cells.size:=by have:=yj List.length g;simp only[dy,yn,xa,uc] at this;omega
   obtain⟨cells',cs,g1,u,g3,g4,v⟩:=Q43 hi d ls (i+1) cells1 h (by rw[f,show i+1+d.length=i+(d.length+1) by omega];exact n);refine⟨cells',(a.eval x).cells.toList++cs,?_,by rw[u,f],⟨_,_,rfl,r,g3⟩,by simp[e,g4,uz];omega,?_⟩;simp only[yy,Instr.fill];rw[oj (by simp[e];omega)]
   rw[show(a.eval x).cells.zipIdx.foldl (λcs (c,j)=>cs.setIfInBounds (i*k+j) c) cells=cells1 by rw[<-Array.foldl_toList,Array.toList_zipIdx]]
   exact g1;rw[v,g];have p:(i+1)*k=i*k+k:=by rw[uz]
   have q:(i+1+d.length)*k=i*k+k+d.length*k:=by rw[Nat.add_mul,p]
   have s:(i+(d.length+1))*k=i*k+k+d.length*k:=by rw[<-q];congr 1;omega
   have l1:(cells.toList.take (i*k)++(a.eval x).cells.toList).length=i*k+k:=by simp[e];omega
   rw[p,q,xn,s,List.take_left' l1];have t:(cells.toList.take (i*k)++(a.eval x).cells.toList++cells.toList.drop (i*k+k)).drop (i*k+k+d.length*k)=cells.toList.drop (i*k+k+d.length*k):=by rw[List.drop_append,l1,show i*k+k+d.length*k - (i*k+k)=d.length*k by omega,xj (by rw[l1];omega),List.drop_drop,yw]
   rw[t];simp
 | [],_::_,_,_,h,_=>h.elim
 | (_,_)::_,[],_,_,h,_=>h.elim
end ops
def cpyL{α:Type}(xs ys:List α):List α:=ys.take xs.length++xs.drop ys.length
section ops
variable {X:Cx}{st:Nat->Option Ly}{mm:Nat->Option Ct}
def SlF(mm:Nat->Option Ct)(d:Ly)(k:Nat)(ls:List Ly):Prop:=d=sli k ls\/∃ id E,d=.own id/\mm id=some (.sl E k ls)
theorem Jbh{s k ls x a w γ}(hI:Inv X st mm a w γ)(h:SlF mm s k ls)(r:OpdF st x s):
 (a.eval x=.slice none 0 0/\ls=[])\/(∃ b o cap cs,a.eval x=.slice (some ⟨b,o,none⟩) ls.length cap/\ls.length<=cap/\cap<=maxLen/\b<w.heap.size /\
   (∀ j u,cs[j]?=some u->w.cell? ⟨b,o+j,none⟩=some u)/\Ly.holds w (X.S γ mm) γ ls cs/\∀ ly∈ls,ly.sz=k)\/(ls=[]/\∃ t,a.eval x=.slice (some t) 0 0):=by
 rcases h with rfl | ⟨id,E,rfl,hm⟩;rcases r.val hI with ⟨d,e⟩ | ⟨b,o,cap,cs,d,e,n,p,C,q,F,H⟩ | h;exact .inl ⟨d,e⟩;exact .inr (.inl ⟨b,o,cap,cs,d,e,n,p,q,Ly.holds_mono (Kp.refl _ _) (λb hb=>.inl hb) (λ_ _ h=>by cases h) _ _ F,H⟩);exact .inr (.inr h);obtain⟨v,cs,i,⟨J,y⟩,A,B⟩:=slI hI hm;obtain⟨I,_⟩:=r.val hI;rw[I] at i;simp at i;rcases y with ⟨d,hn⟩ | ⟨g,cap,cur,d,_,e,n,p,C,q⟩;exact .inl ⟨by rw[i,d],by simpa using hn⟩;refine .inr (.inl ⟨g,0,cap,cs,by rw[i,d],n,p,?_,λj u f=>?_,A,B⟩);rcases xl g w.heap.size with h | h;exact h;simp[uf h] at e;rw[Wh e,<-yb,xg];rw[<-q] at f;rw[ur] at f;split at f;exact f;cases f
theorem Qvz{P:Program}(w:World)(base:Nat)(T ty E:TypeId)(i:TypeInfo)(k:Nat)(d:P.underlying T=some (.slice E))(hi:P.info? E=some i)(v:Value)(n:Nat)(cs:List Value)(h:w.ownsRow base E k v n cs)(e:Addr):
 (Builtin.append_ #[T,T] ty #[v,.slice (some e) 0 0]).run P w=.ok v w:=by
 rcases h.2 with ⟨rfl,rfl⟩ | ⟨g,cap,cur,rfl,_,_,f,_⟩;simp[Builtin.append_,underlying,d,sizeOf,typeInfo,hi,Builtin.lenOf,Builtin.firstCells,loadCells,loadCellsFrom];simp[Builtin.append_,underlying,d,sizeOf,typeInfo,hi,Builtin.lenOf,Builtin.firstCells,loadCells,loadCellsFrom,storeCells,f]
theorem Qlj{w S γ}:∀ {l1 f:List Ly}{c1 d:List Value},Ly.holds w S γ l1 c1->Ly.holds w S γ f d->Ly.holds w S γ (l1++f) (c1++d)
 | [],f,c1,d,e,g=>by simp only[Ly.holds] at e;subst e;simpa using g
 | ly::l1,f,c1,d,e,g=>by obtain⟨i,j,rfl,g1,k⟩:=e;exact⟨i,j++d,oc,g1,Qlj k g⟩
theorem Q2b{k:Nat}:∀ {l:List Ly},(∀ ly∈l,ly.sz=k)->Ly.szs l=l.length*k
 | [],_=>by simp[Ly.szs]
 | ly::l,h=>by simp[Ly.szs,h ly vo,Q2b (λx d=>h x (vg _ d)),uz];omega
theorem app{d s x T ty pos af y id E k b z lx}{α:Type}{f:α->Ly}{xs ys zs:List α}(hz:appM b xs ys=some zs)(hm:mm id=some (.sl E k (xs.map f)))(F:X.P.underlying T=some (.slice E))(hE:TyI X.P E k b z)(hzk:z.cells.size=k)(hk0:Nat.blt 0 k=true)
 (hs:OpdF st s (.own id)) (hx:OpdF st x lx) (hF:SlF mm lx k (ys.map f)) (hy:mm y=none) (hd:Nat.blt d X.N=true) :
 OpOk X st mm ⟨some d,.call { callee:=.builtin .append,args:=#[s,x],argTypes:=#[T,T] },ty,pos,af,none⟩ [(d,.own y)] [(y,.sl E k (zs.map f)),(id,.gone)]:=by
 intro a w γ K Q hI hK;unfold appM at hz;split at hz
 case isFalse=>cases hz
 rename_i hle;obtain⟨hbytes,h63⟩:=hle;cases hz;obtain⟨i,hi,J,t,H⟩:=hE;have B:0<k:=by simpa using hk0
 obtain⟨v,cs,e1,A,e3,e4⟩:=slI hI hm;obtain⟨hv,hv1⟩:=hs.val hI;have hvs:a.eval s=v:=by rw[hv] at e1;simpa using e1
 rw[ov] at A
 have fin:∀ v' w' news,(Builtin.append_ #[T,T] ty #[v,a.eval x]).run X.P w=.ok v' w'->w'.ownsRow 0 E k v' (xs.length+ys.length) (cs++news)->w.grownBy w' v.ownBlock->Ly.holds w (X.S γ mm) γ (ys.map f) news ->
  (∀ b,blkOf v'=some b->(blkOf v=some b\/w.heap.size<=b))->(∀ ly∈ys.map f,ly.sz=k) ->
  Oper.wp X.P ⟨some d,.call { callee:=.builtin .append,args:=#[s,x],argTypes:=#[T,T] },ty,pos,af,none⟩ a w K Q:=by
  intro v' w' news hr r N hh hb hz2;have Z:(execOp a.eval ⟨some d,.call { callee:=.builtin .append,args:=#[s,x],argTypes:=#[T,T] },ty,pos,af,none⟩).run X.P w=.ok (.value v') w':=by simp only[execOp,resolve];simp[invoke,builtin,hvs,hr]
  unfold Oper.wp;rw[Z];have hob:v.ownBlock=blkOf v:=by rcases A.2 with ⟨rfl,_⟩ | ⟨g,cap,cur,rfl,_⟩<;>rfl
  have hk:Kp (λb=>blkOf v=some b) w w':=⟨N.size,λb n hn=>N.block b n (by rw[hob];exact λh=>hn h.symm)⟩
  have hkS:Kp (X.S γ mm) w w':=⟨N.size,λb n hn=>hk.2 b n (λh=>hn (.inr ⟨id,_,v,hm,rfl,e1,h⟩))⟩
  have Y:v'.oneCell'=true:=by rcases r.2 with ⟨rfl,_⟩ | ⟨g,cap,cur,rfl,_⟩<;>rfl
  have V:=hI.replace N.os N.tape N.output hm rfl e1 hk (y:=y) (ct:=.sl E k ((xs++ys).map f)) (v':=v') hy rfl
   (λS γ' hS hng hy'=>by
    refine⟨v',cs++news,hy',by simpa using r,?_,?_⟩
    . rw[xw]
      exact Ly.holds_mono hkS hS hng _ _ (Qlj e3 hh)
    . intro ly W
      rw[xw] at W;rcases yd.1 W with h | h
      . exact e4 ly h
      . exact hz2 ly h)
   (λb n=>⟨hb b n,by
    rcases r.2 with ⟨rfl,_⟩ | ⟨g,cap,cur,rfl,_,M,_⟩
    . simp[blkOf] at n
    . simp[blkOf] at n;subst n
      rcases xl g w'.heap.size with h | h
      . exact h
      . simp[uf h] at M⟩)
  exact hK _ _ _ (V.put (d:=d) (v:=v') (ly:=.own y) (by simpa using hd) ⟨by simp[Inv.gset],Y⟩)
 rcases Jbh hI hF hx with ⟨L,M⟩ | ⟨bb,o,cap,news,L,M,h3,h4,h5,O,h7⟩ | ⟨M,ad,L⟩
 rotate_left 2
 . have:ys=[]:=by simpa using M
   subst this;have hr:=Qvz (P:=X.P) w 0 T ty E i k F hi v xs.length cs A ad;exact fin v w [] (by rw[L];exact hr) (by simpa using A) ⟨rfl,rfl,rfl,xr _,λ_ _ _=>rfl⟩ (by simp[Ly.holds]) (λb h=>.inl h) (λly h=>by cases h)
 . have:ys=[]:=by simpa using M
   subst this;have hr:=run_append_owned_none (P:=X.P) w 0 T ty E i k F hi v xs.length cs A;exact fin v w [] (by rw[L];exact hr) (by simpa using A) ⟨rfl,rfl,rfl,xr _,λ_ _ _=>rfl⟩ (by simp[Ly.holds]) (λb h=>.inl h) (λly h=>by cases h)
 . have I:news.length=ys.length*k:=by
    have:=Ly.holds_sz _ _ O;rw[Q2b h7] at this;simpa using this
   rw[ov] at L
   obtain⟨v',w',r1,r2,r3,r4⟩:=run_append_own (P:=X.P) w 0 T ty E i z k b F hi J t H hzk B v xs.length cs A ⟨bb,o,none⟩ ys.length cap news I
    (λj u q=>by rw[add0];exact h5 j u q) (Ly.oneCell_of_holds _ _ O) (by unfold maxLen;omega) hbytes (yx _)
   refine fin v' w' news (by rw[L];exact r1) r2 r3 O (λbk hb=>?_) h7;have C:Src X.P i.size T (.slice (some ⟨bb,o,none⟩) ys.length cap) ys.length news w:=Src.ofSlice w F _ _ _ _ (by rw[t];exact I) (λj u q=>by rw[add0];exact h5 j u q) (Ly.oneCell_of_holds _ _ O);rcases A with ⟨U,⟨rfl,hn0⟩ | ⟨g,e,cur,rfl,_,g2,g3,g4,g5,g6⟩⟩
   . 
    obtain⟨v2,w2,q1,q2,_,_⟩:=run_append_own (P:=X.P) w w.heap.size T ty E i z k b F hi J t H hzk B (.slice none 0 0) xs.length cs ⟨U,.inl ⟨rfl,hn0⟩⟩ ⟨bb,o,none⟩ ys.length cap news I
     (λj u q=>by rw[add0];exact h5 j u q) (Ly.oneCell_of_holds _ _ O) (by unfold maxLen;omega) hbytes (xr _)
    rw[r1] at q1;obtain⟨rfl,rfl⟩:v'=v2/\w'=w2:=by simpa using q1
    rcases q2.2 with ⟨rfl,_⟩ | ⟨g,cap1,cur1,rfl,hge,_⟩
    . simp[blkOf] at hb
    . simp[blkOf] at hb;subst hb;exact .inr hge
   . by_cases hroom:xs.length+ys.length<=e
     . have p:=run_append_room_src (P:=X.P) w T T ty E i F hi g 0 xs.length e _ ys.length news C hroom
        (λj q=>by
         rw[Wh g2,t];have:0+xs.length*k+j<cur.size:=by rw[g5];have:=xh k hroom;rw[Nat.add_mul] at this;omega
         rw[ve this];rfl)
        (λj q=>by simp[World.frozen?,g2])
       rw[r1] at p;simp at p;rw[p.1] at hb;exact .inl hb
     . have hold:(Builtin.firstCells i.size xs.length (.slice (some ⟨g,0,none⟩) xs.length e)).run X.P w.drew=.ok cs.toArray w.drew:=
        run_firstCells_some w.drew i.size xs.length ⟨g,0,none⟩ xs.length e cs (by rw[t];exact U) (λj u q=>by
         rw[add0,xg];have:w.drew.cell? ⟨g,j,none⟩=w.cell? ⟨g,j,none⟩:=rfl;rw[this,Wh g2,<-yb];rw[<-g6,ur] at q;split at q
         . exact q
         . cases q)
       have p:=run_append_grow_src (P:=X.P) w T T ty E i z F hi J (some ⟨g,0,none⟩) xs.length e cs hold _ ys.length news C om om (growslice_fits om (by rw[H];exact hbytes));rw[r1] at p;simp at p;rw[p.1] at hb;simp[blkOf] at hb;subst hb;exact .inr (xr _)
end ops
section ops
variable {X:Cx}{st:Nat->Option Ly}{mm:Nat->Option Ct}
theorem bsl{d T len parts ty pos af y E k b z ls}(H:X.P.underlying T=some (.slice E))(F:TyI X.P E k b z)(_:z.cells.size=k)(e:parts.length=len)(n:ls.length=len)(A:Nat.ble (len*k) 16777216=true)(v:Nat.blt 0 k=true)
 (hp:Parts st k 0 parts ls) (V:mm y=none) (hd:Nat.blt d X.N=true) :
 OpOk X st mm ⟨some d,.buildSlice T len ⟨parts⟩,ty,pos,af,none⟩ [(d,.own y)] [(y,.sl E k ls)]:=by
 have I:=vz A;have t:0<k:=by simpa using v
 refine Qwv hd V rfl λa w γ hI=>?_;have g:=F;obtain⟨i,hi,s,U,O⟩:=F;let zc:Array Value:=if len*k=0 then #[] else z.cells
 let cells0:Array Value:=(Array.range (len*k)).map (λx=>zc[x%zc.size]!);obtain⟨cells',cs,g1,K,g3,g4,C⟩:=Q43 hI parts ls 0 cells0 hp (by simp[cells0,e]);have r:cells'.toList=cs:=by rw[C];simp only[Nat.zero_mul,List.take_zero,yw,xg];rw[xj (by simp[cells0,e])];simp
 refine⟨.slice (some ⟨w.heap.size,0,none⟩) len len,w.alloc (.cells cells' E),?_,rfl,rfl,rfl,Qj5 _ _ _,rfl,λS γ' N P B=>?_,λbb hb=>by simp[blkOf] at hb;subst hb;simp⟩;have hn:¬ 16777216<len*k:=om
 simp only[execOp];have hzero:∀ w:World,(if len*k=0 then (pure #[]:Sem (Array Value)) else do pure (<-zeroValue E).cells).run X.P w=.ok zc w:=by intro w;by_cases h0:len*k=0;simp[h0,zc];simp[h0,zc,Qfs g]
 have hfill:Instr.fill (λi=>some (i*k,k)) cells0 (parts.map λ(i,x)=>(i,a.eval x))=some cells':=g1;by_cases h0:len*k=0;have s:zc=#[]:=by simp[zc,h0]
 simp[Instr.buildSlice,underlying,H,V7 g,h0];have J:cells0=#[]:=by simp[cells0,h0]
 have q:Instr.fill (λi=>some (i*k,k)) (Array.map (λ_=>(default:Value)) (Array.range 0)) (List.map (λx=>(x.fst,a.eval x.snd)) parts)=some cells':=by rw[show Array.map (λ_=>(default:Value)) (Array.range 0)=cells0 by rw[J];simp];exact g1
 rw[q];simp[newRow];have s:zc=z.cells:=by simp[zc,h0]
 simp[Instr.buildSlice,underlying,H,V7 g,Qfs g,hn,h0];have q:Instr.fill (λi=>some (i*k,k)) (Array.map (λx=>z.cells[x%z.cells.size]!) (Array.range (len*k))) (List.map (λx=>(x.fst,a.eval x.snd)) parts)=some cells':=by rw[<-s];exact g1
 rw[q];simp[newRow];refine⟨_,cs,B,⟨by rw[g4,e,n],.inr ⟨w.heap.size,len,cells',by rw[n],yx _,Qqo _ _,om,?_,?_,?_⟩⟩,Ly.holds_mono (Qj5 _ _ _) N P _ _ g3,?_⟩;unfold maxLen;have:len<=len*k:=Nat.le_mul_of_pos_right _ t;omega;have:=yj List.length r;simp only[dy] at this;rw[this,g4,e];rw[r,n,xb (by rw[g4,e];exact xr _)];clear g1 K g3 g4 C r n e;have:∀(u:List (Nat×Operand)) (ls:List Ly) (j:Nat),Parts st k j u ls->∀ ly∈ls,ly.sz=k:=by
  intro u
  induction u with
  | nil=>intro ls j h ly f;cases ls with | nil=>cases f | cons _ _=>exact h.elim
  | cons p u W=>
    intro ls j h ly f;obtain⟨i,x⟩:=p;cases ls with
    | nil=>exact h.elim
    | cons l ls=>
      obtain⟨_,_,L,_,M⟩:=h;rcases xu.1 f with rfl | f;exact L;exact W ls (j+1) M ly f
 exact this parts ls 0 hp
theorem Qyb{α:Type}{l r:List α}{lo hi:Int}(h:sub l lo hi=some r):0<=lo/\lo<=hi/\hi<=l.length/\r=(l.take hi.toNat).drop lo.toNat:=by unfold sub at h;split at h;rename_i d;exact⟨d.1,d.2.1,d.2.2,by simpa using h.symm⟩;cases h
def BndF(st:Nat->Option Ly)(p:Int):Option Operand->Int->Prop
 | none,q=>q=p
 | some x,q=>∃ d,OpdF st x (.cell (cpI d q))
theorem Qon{a w γ p q o}(hI:Inv X st mm a w γ)(h:BndF st p o q):(o=none/\q=p)\/∃ x d,o=some x/\a.eval x=.int d q:=by
 cases o with
 | none=>exact .inl ⟨rfl,h⟩
 | some x=>obtain⟨d,h⟩:=h;exact .inr ⟨x,d,rfl,((OpdF.val hI h:Ly.val _ _ _ _ _)).1⟩
theorem Qbq{P:Program}{w:World}{isS:Bool}{len cap:Nat}{lo hi:Option Value}{p q:Int}(g:(lo=none/\p=0)\/∃ d,lo=some (.int d p))(f:(hi=none/\q=len)\/∃ d,hi=some (.int d q))
 (h0:0<=p) (k:p<=q) (e:q<=cap):(Instr.sliceBounds isS len cap lo hi none).run P w=.ok (p.toNat,q.toNat,cap) w:=by
 have i:(0<=q/\q<=(cap:Int)):=⟨om,e⟩
 have j:(0<=p/\p<=((q.toNat:Nat):Int)):=⟨h0,om⟩
 rcases g with ⟨rfl,rfl⟩ | ⟨r,rfl⟩<;>rcases f with ⟨rfl,rfl⟩ | ⟨n,rfl⟩ <;>
  simp_all [Instr.sliceBounds,Instr.sliceBound,asIntOf]
theorem Qem{w S γ k}:∀ {l:List Ly}{cs:List Value}(i:Nat),Ly.holds w S γ l cs->(∀ ly∈l,ly.sz=k)->Ly.holds w S γ (l.take i) (cs.take (i*k))/\Ly.holds w S γ (l.drop i) (cs.drop (i*k))
 | l,cs,0,h,_=>by simpa [Ly.holds] using h
 | [],cs,i+1,h,_=>by simp only[Ly.holds] at h;subst h;simp[Ly.holds]
 | ly::l,cs,i+1,h,g=>by
   obtain⟨c1,q,rfl,f,n⟩:=h;obtain⟨g1,j⟩:=Qem i n (λx p=>g x (vg _ p));have d:c1.length=k:=by rw[Ly.hold_sz _ _ f,g ly vo]
   have e:(i+1)*k=c1.length+i*k:=by rw[d,uz];omega
   rw[e];simp only[wn,jb,List.take_length_add_append,List.drop_length_add_append];exact⟨⟨c1,_,rfl,f,g1⟩,j⟩
theorem slR{d x lo hi T ty pos af E k b z p q}{α:Type}{f:α->Ly}{xs ys:List α}(hs:sub xs p q=some ys)(A:X.P.underlying T=some (.slice E))(y:TyI X.P E k b z)
 (hd:Nat.blt d X.N=true) (N:OpdF st x (sli k (xs.map f))) (C:BndF st 0 lo p) (B:BndF st xs.length hi q) :
 OpOk X st mm ⟨some d,.slice T x lo hi none,ty,pos,af,none⟩ [(d,sli k (ys.map f))] []:=
 Xn hd λa w γ hI=>by
  obtain⟨h0,M,v,rfl⟩:=Qyb hs;have i:(lo.map a.eval=none/\p=0)\/∃ s,lo.map a.eval=some (.int s p):=by
   rcases Qon hI C with ⟨rfl,h⟩ | ⟨x,s,rfl,h⟩
   . exact .inl ⟨rfl,h⟩
   . exact .inr ⟨s,by simp[h]⟩
  have g:(hi.map a.eval=none/\q=(xs.length:Nat))\/∃ s,hi.map a.eval=some (.int s q):=by
   rcases Qon hI B with ⟨rfl,h⟩ | ⟨x,s,rfl,h⟩
   . exact .inl ⟨rfl,h⟩
   . exact .inr ⟨s,by simp[h]⟩
  rcases N.val hI with ⟨r,hn⟩ | ⟨bb,o,cap,cs,r,k1,k2,J,K,O,S,F⟩ | ⟨hn,H,r⟩
  rotate_left 2
  . have:xs=[]:=by simpa using hn
    subst this;simp only[yr] at v;obtain rfl:q=0:=by simp at v;omega
    obtain rfl:p=0:=om
    refine⟨.slice (some H) 0 0,?_,.inr (.inr ⟨oc,H,rfl⟩)⟩;have:=Qbq (P:=X.P) (w:=w) (isS:=true) (len:=0) (cap:=0) i g om om om;simp only[execOp,r];simp[Instr.sliceAt,Instr.slice,underlying,A,this,V7 y]
  . have:xs=[]:=by simpa using hn
    subst this;simp only[yr] at v;obtain rfl:q=0:=by simp at v;omega
    obtain rfl:p=0:=om
    refine⟨.slice none 0 0,?_,.inl ⟨rfl,oc⟩⟩;have:=Qbq (P:=X.P) (w:=w) (isS:=true) (len:=0) (cap:=0) i g om om om;simp only[execOp,r];simp[Instr.sliceAt,Instr.slice,underlying,A,this,V7 y]
  . rw[ov] at r k1
    have hb:=Qbq (P:=X.P) (w:=w) (isS:=true) (len:=xs.length) (cap:=cap) i g h0 M om;have e:(((xs.take q.toNat).drop p.toNat).map f).length=q.toNat - p.toNat:=oh
    by_cases I:cap=p.toNat
    . subst I
      refine⟨.slice (some ⟨bb,o,none⟩) (q.toNat - p.toNat) (p.toNat - p.toNat),?_,.inr (.inl ⟨bb,o,p.toNat - p.toNat,[],by rw[e],by rw[e];omega,om,J,K,λj u t=>by simp at t,?_,?_⟩)⟩
      . simp only[execOp,r]
        simp[Instr.sliceAt,Instr.slice,underlying,A,hb,V7 y]
      . have:((xs.take q.toNat).drop p.toNat).map f=[]:=xx (by rw[e];omega)
        rw[this];rfl
      . intro ly n
        have:((xs.take q.toNat).drop p.toNat).map f=[]:=xx (by rw[e];omega);rw[this] at n;cases n
    . obtain⟨g1,_⟩:=Qem q.toNat S F
      obtain⟨_,L⟩:=Qem p.toNat g1 (λly h=>F ly (ym h));refine⟨.slice (some ⟨bb,o+p.toNat*k,none⟩) (q.toNat - p.toNat) (cap - p.toNat),?_,.inr (.inl ⟨bb,o+p.toNat*k,cap - p.toNat,_,by rw[e],by rw[e];omega,om,J,K,λj u t=>?_,by rw[wt,wc];exact L,?_⟩)⟩
      . simp only[execOp,r]
        simp[Instr.sliceAt,Instr.slice,underlying,A,hb,V7 y,I,add0]
      . rw[vc,ur] at t
        split at t
        . rw[tz];exact O _ u t
        . cases t
      . intro ly n
        rw[wt,wc] at n;exact F ly (ym (vu n))
theorem slS{d x lo hi T ty pos af p q s t}(hs:sub s p q=some t)(v:X.P.underlying T=some .string)
 (hd:Nat.blt d X.N=true) (A:OpdF st x (str s)) (k:BndF st 0 lo p) (j:BndF st s.length hi q) :
 OpOk X st mm ⟨some d,.slice T x lo hi none,ty,pos,af,none⟩ [(d,str t)] []:=
 Xn hd λa w γ hI=>by
  obtain⟨h0,r,u,rfl⟩:=Qyb hs;have i:(lo.map a.eval=none/\p=0)\/∃ f,lo.map a.eval=some (.int f p):=by rcases Qon hI k with ⟨rfl,h⟩ | ⟨x,f,rfl,h⟩;exact .inl ⟨rfl,h⟩;exact .inr ⟨f,by simp[h]⟩
  have g:(hi.map a.eval=none/\q=(s.length:Nat))\/∃ f,hi.map a.eval=some (.int f q):=by rcases Qon hI j with ⟨rfl,h⟩ | ⟨x,f,rfl,h⟩;exact .inl ⟨rfl,h⟩;exact .inr ⟨f,by simp[h]⟩
  obtain⟨y,B⟩:=A.val hI;have hb:=Qbq (P:=X.P) (w:=w) (isS:=false) (len:=s.length) (cap:=s.length) i g h0 r u;have e:(ByteArray.mk s.toArray).size=s.length:=rfl;refine⟨.string ⟨((s.take q.toNat).drop p.toNat).toArray⟩,?_,rfl,oh⟩;have n:(ByteArray.mk s.toArray).extract p.toNat q.toNat=⟨((s.take q.toNat).drop p.toNat).toArray⟩:=by apply ByteArray.ext;rw[ByteArray.data_extract];apply dv;simp[List.extract_eq_take_drop,List.drop_take]
  simp only[execOp,y];simp[Instr.sliceAt,Instr.slice,underlying,v,e,hb,n]
end ops
def FzR(id k:Nat)(ls:List Ly)(ly d:Ly):Prop:=∀ w S (γ:Nm) v,γ id=some v->(cpL k ls).p w S v->(∀ cs,ly.hold w S γ cs->d.hold w S γ cs)/\(∀ v,ly.val w S γ v->d.val w S γ v)
def FzRs(id k:Nat)(ls:List Ly)(l l':List Ly):Prop:=∀ w S (γ:Nm) v,γ id=some v->(cpL k ls).p w S v->(∀ cs,Ly.holds w S γ l cs->Ly.holds w S γ l' cs)
theorem fz_id{id k ls ly}:FzR id k ls ly ly:=λ_ _ _ _ _ _=>⟨λ_ h=>h,λ_ h=>h⟩
theorem Jib{id k ls}:FzR id k ls (.own id) (sli k ls):=λw S γ v e hp=>
 ⟨λcs h=>by obtain⟨u,rfl,d,f⟩:=h;rw[e] at d;simp at d;subst d;exact⟨v,rfl,hp⟩,
  λu h=>by obtain⟨d,f⟩:=h;rw[e] at d;simp at d;subst d;exact hp⟩
theorem Jff{id k ls}:FzRs id k ls [] []:=λ_ _ _ _ _ _ _ h=>h
theorem Jbi{id k ls ly d l l'}(i:FzR id k ls ly d)(j:FzRs id k ls l l'):FzRs id k ls (ly::l) (d::l'):=λw S γ v e hp cs h=>by obtain⟨c1,f,rfl,g1,g⟩:=h;exact⟨c1,f,rfl,(i w S γ v e hp).1 _ g1,j w S γ v e hp _ g⟩
theorem Jic{id k ls l l'}(h:FzRs id k ls l l'):FzR id k ls (.agg l) (.agg l'):=λw S γ v d hp=>
 ⟨λcs g=>by simp only[Ly.hold] at g |-;exact h w S γ v d hp _ g,λu g=>by simp only[Ly.val] at g |-;obtain⟨cs,rfl,g⟩:=g;exact⟨cs,rfl,h w S γ v d hp _ g⟩⟩
def FzL(id k:Nat)(ls:List Ly)(l:List (Nat×Ly)):List (Nat×Ly)->Prop
 | []=>True
 | (d,e)::r=>(∃ ly,lk l d=some ly/\FzR id k ls ly e)/\FzL id k ls l r
def FzM(id k:Nat)(ls:List Ly)(m:List (Nat×Ct)):List (Nat×Ct)->Prop
 | []=>True
 | (i,.bx E d)::r=>(Nat.beq id i=false/\∃ ly,lk m i=some (.bx E ly)/\FzR id k ls ly d)/\FzM id k ls m r
 | _::_=>False
theorem FzL.get{id k ls l}:∀ {r:List (Nat×Ly)},FzL id k ls l r->∀ d e,lk r d=some e->∃ ly,lk l d=some ly/\FzR id k ls ly e
 | [],_,d,e,h=>by cases h
 | (i,x)::r,f,d,e,h=>by simp only[lk] at h;cases hb:Nat.beq i d;rw[hb] at h;exact FzL.get f.2 d e h;rw[hb] at h;have:i=d:=xy hb;subst this;simp at h;subst h;exact f.1
theorem FzM.get{id k ls m}:∀ {r:List (Nat×Ct)},FzM id k ls m r->∀ i c,lk r i=some c->∃ E ly f,id≠i/\c=.bx E f/\lk m i=some (.bx E ly)/\FzR id k ls ly f
 | [],_,d,f,h=>by cases h
 | (i,x)::r,g,d,c,h=>by
   cases x with
   | bx E f=>
     simp only[lk] at h;cases hb:Nat.beq i d;rw[hb] at h;exact FzM.get g.2 d c h;rw[hb] at h;have:i=d:=xy hb;subst this;simp at h;subst h;obtain⟨⟨j,ly,n,p⟩,_⟩:=g;exact⟨E,ly,f,λe=>by subst e;simp at j,rfl,n,p⟩
   | _=>exact g.elim
theorem Q3w{α:Type}{st:Nat->Option α}{el i}(h:lk el i=none):up st el i=st i:=by simp[up,h]
theorem Jbj{α:Type}{st:Nat->Option α}{el i x}(h:lk el i=some x):up st el i=some x:=by simp[up,h]
theorem frz{R:Type}{X:Cx}{l:List (Nat×Ly)}{m:List (Nat×Ct)}{md:Option R}{G:R->Act->World->Prop}{id E k ls}(l1:List (Nat×Ly))(s:List (Nat×Ct))(T:lk m id=some (.sl E k ls))(P:IFs ls)
 (S:FzL id k ls l l1) (C:FzM id k ls m s) (K:Sq X (l1++l) (s++(id,.gone)::m) md G):Sq X l m md G:=by
 intro r a w γ hr hi;refine K r a w γ hr ?_;obtain⟨v,cs,L,⟨e2,e3⟩,e4,e5⟩:=slI hi T;have hd:=hi.drop id;have hS:∀ b,X.S γ (up (lk m) [(id,.gone)]) b->X.S γ (lk m) b:=by rintro b (h | ⟨i,n,u,p,B,t,y⟩);exact .inl h;rw[Wv] at p;by_cases e:id=i;simp[e] at p;subst p;simp[Ct.alive] at B;simp[e] at p;exact .inr ⟨i,n,u,p,B,t,y⟩
 have hp:(cpL k ls).p w (X.S γ (up (lk m) [(id,.gone)])) v:=by rcases e3 with ⟨rfl,hn⟩ | ⟨g,cap,cur,rfl,_,B,t,y,W,N⟩;exact .inl ⟨rfl,xx hn⟩;have hmine:=hi.mine g ⟨id,_,_,T,rfl,L,rfl⟩;refine .inr (.inl ⟨g,0,cap,cs,rfl,t,y,hmine.2.1,?_,λj u M=>?_,Ly.holds_mono (Kp.refl _ _) (λb hb=>.inl (hS b hb)) (Ng.refl _) _ _ ((P w _ γ (λ_=>none)).1 _ e4),e5⟩);rintro(h | ⟨i,n,u,k1,k2,U,k4⟩);exact hmine.2.2 h;rw[Wv] at k1;by_cases e:id=i;simp[e] at k1;subst k1;simp[Ct.alive] at k2;simp[e] at k1;exact e (hi.apart id i _ n _ u g T rfl k1 k2 L U rfl k4);rw[Wh B,<-yb,xg];rw[<-N,ur] at M;split at M;exact M;cases M
 have F:lk (s++(id,.gone)::m)=up (up (lk m) [(id,.gone)]) s:=by rw[up_lk,up_lk];rfl
 have I:∀ b,Ow γ (lk (s++(id,.gone)::m)) b↔Ow γ (up (lk m) [(id,.gone)]) b:=by
  intro b;rw[F];constructor;rintro⟨i,c,u,p,B,t,y⟩;simp only[up] at p;cases f:lk s i with
  | none=>rw[f] at p;exact⟨i,c,u,p,B,t,y⟩
  | some n=>
    rw[f] at p;simp at p;subst p;obtain⟨E',ly,A,g0,g1,H,g3⟩:=C.get i n f;exact⟨i,_,u,by rw[Wv,oj g0];exact H,rfl,t,y⟩
  rintro⟨i,c,u,p,B,t,y⟩;cases f:lk s i with
  | none=>exact⟨i,c,u,by simp only[up];rw[f];exact p,B,t,y⟩
  | some n=>
    obtain⟨E',ly,A,g0,g1,H,g3⟩:=C.get i n f;exact⟨i,n,u,by simp only[up];rw[f],by rw[g1];rfl,t,y⟩
 have J:X.S γ (lk (s++(id,.gone)::m))=X.S γ (up (lk m) [(id,.gone)]):=by funext b;exact propext ⟨λh=>orM h (λx=>x) (I b).1,λh=>orM h (λx=>x) (I b).2⟩
 refine { hd with fresh:=?_,cts:=?_,apart:=?_,mine:=λb hb=>hd.mine b ((I b).1 hb),sts:=?_ };intro i h;rw[F] at h;simp only[up] at h;cases f:lk s i with
 | none=>rw[f] at h;exact hd.fresh i h
 | some n=>rw[f] at h;cases h
 intro i c h;rw[J];rw[F] at h;cases f:lk s i with
 | none=>rw[Q3w f] at h;exact hd.cts i c h
 | some n=>
   rw[Jbj f] at h;simp at h;subst h;obtain⟨E',ly,A,g0,rfl,H,g3⟩:=C.get i n f;obtain⟨g,cur,k1,k2,U⟩:=hd.cts i (.bx E' ly) (by rw[Wv,oj g0];exact H);exact⟨g,cur,k1,k2,(g3 w _ γ v L hp).1 _ U⟩
 intro i Y c1 Z u u' b p B t y W N h7 h8;have tr:∀ i c,lk (s++(id,.gone)::m) i=some c->c.alive=true->∃ n,up (lk m) [(id,.gone)] i=some n/\n.alive=true:=by
  intro i c h O;rw[F] at h;cases f:lk s i with
  | none=>rw[Q3w f] at h;exact⟨c,h,O⟩
  | some n=>
    obtain⟨E',ly,A,g0,g1,H,g3⟩:=C.get i n f;exact⟨_,by rw[Wv,oj g0];exact H,rfl⟩
 obtain⟨d1,q1,q2⟩:=tr i c1 p B;obtain⟨d2,q3,q4⟩:=tr Y Z t y;exact hd.apart i Y d1 d2 u u' b q1 q2 q3 q4 W N h7 h8;intro d ly q;rw[J];rw[<-up_lk] at q;cases f:lk l1 d with
 | none=>rw[Q3w f] at q;exact hd.sts d ly q
 | some A=>
   rw[Jbj f] at q;simp at q;subst q;obtain⟨V,g1,H⟩:=S.get d A f;obtain⟨u,k1,k2⟩:=hd.sts d V g1;exact⟨u,k1,(H w _ γ v L hp).2 _ k2⟩
section ops
variable {X:Cx}{st:Nat->Option Ly}{mm:Nat->Option Ct}
theorem cpy{d t s T H ty pos af id E k b z lx}{α:Type}{f:α->Ly}{xs ys:List α}(hm:mm id=some (.sl E k (xs.map f)))(Z:X.P.underlying T=some (.slice E))(hE:TyI X.P E k b z)
 (ht:OpdF st t (.own id)) (hs:OpdF st s lx) (hF:SlF mm lx k (ys.map f)) (hd:Nat.blt d X.N=true) :
 OpOk X st mm ⟨some d,.call { callee:=.builtin .copy,args:=#[t,s],argTypes:=#[T,H] },ty,pos,af,none⟩ [(d,i64 (min ys.length xs.length:Nat))] [(id,.sl E k ((cpyL xs ys).map f))]:=by
 intro a w γ K Q hI hK;have x:=V7 (P:=X.P) hE;obtain⟨v,cs,J,Y,e3,e4⟩:=slI hI hm;obtain⟨hv,hv1⟩:=ht.val hI;have W:a.eval t=v:=by rw[hv] at J;simpa using J
 rw[ov] at Y;have r:∀ n:Nat,n<=maxLen->IntKind.i64.min<=(n:Int)/\(n:Int)<=IntKind.i64.max:=λn h=>len_b h;have none_:(min ys.length xs.length=0)->(Builtin.copy_ #[T,H] ty #[v,a.eval s]).run X.P w=.ok (.int .i64 (0:Nat)) w->Oper.wp X.P ⟨some d,.call { callee:=.builtin .copy,args:=#[t,s],argTypes:=#[T,H] },ty,pos,af,none⟩ a w K Q:=by
  intro h0 hr;have q:(execOp a.eval ⟨some d,.call { callee:=.builtin .copy,args:=#[t,s],argTypes:=#[T,H] },ty,pos,af,none⟩).run X.P w=.ok (.value (.int .i64 (0:Nat))) w:=by simp only[execOp,resolve];simp[invoke,builtin,W,hr]
  unfold Oper.wp;rw[q];have hxs:cpyL xs ys=xs:=by
   unfold cpyL;rcases Nat.min_eq_zero_iff.1 h0 with h | h
   . have:ys=[]:=xx h
     subst this;simp
   . have:xs=[]:=xx h
     subst this;simp
  have p:Inv X st (up mm [(id,.sl E k ((cpyL xs ys).map f))]) a w γ:=by
   rw[hxs];have:up mm [(id,.sl E k (xs.map f))]=mm:=by
    funext i;rw[Wv];split
    . rename_i h;subst h;exact hm.symm
    . rfl
   rw[this];exact hI
  exact hK _ _ _ (p.put (d:=d) (v:=.int .i64 (0:Nat)) (by simpa using hd) (by rw[h0];exact⟨rfl,r 0 (yx _)⟩))
 rcases Jbh hI hF hs with ⟨B,L⟩ | ⟨bb,o,cap,news,B,L,h3,h4,h5,h6,h7⟩ | ⟨L,ad,B⟩
 rotate_left 2
 . have:ys=[]:=by simpa using L
   subst this;refine none_ oc ?_;rw[B];rcases Y.2 with ⟨rfl,_⟩ | ⟨g,cap,cur,rfl,_⟩<;>simp[Builtin.copy_,underlying,Z,Builtin.lenOf,Builtin.firstCells,x,goInt,storeCells,loadCells,loadCellsFrom]
 . have:ys=[]:=by simpa using L
   subst this;refine none_ oc ?_;rw[B];rcases Y.2 with ⟨rfl,_⟩ | ⟨g,cap,cur,rfl,_⟩<;>simp[Builtin.copy_,underlying,Z,Builtin.lenOf,Builtin.firstCells,x,goInt,storeCells]
 . rw[ov] at B L
   rcases Y with ⟨C,⟨rfl,hn⟩ | ⟨g,I,cur,rfl,_,g2,g3,g4,g5,g6⟩⟩
   . refine none_ om ?_
     rw[B];simp[Builtin.copy_,underlying,Z,Builtin.lenOf,Builtin.firstCells,x,goInt,loadCells,loadCellsFrom]
   . let n:=Nat.min ys.length xs.length
     have hnl:news.length=ys.length*k:=by have:=Ly.holds_sz _ _ h6;rw[Q2b h7] at this;simpa using this
     have O:ys.length<=xs.length->n=ys.length:=λh=>ye h;have S:xs.length<=ys.length->n=xs.length:=λh=>Nat.min_eq_right h;have hn1:n<=ys.length:=Nat.min_le_left _ _;have hn2:n<=xs.length:=Nat.min_le_right _ _;have U:n*k<=news.length:=by rw[hnl];exact xh _ hn1
     have V:n*k<=cs.length:=by rw[C];exact xh _ hn2
     have hcur:cs.length<=cur.size:=by rw[C,g5];exact xh _ g3
     have hload:(loadCells ⟨bb,o,none⟩ (n*k)).run X.P w=.ok (news.take (n*k)).toArray w:=by
      have:=Qiy (P:=X.P) (b:=bb) (o:=o) (w:=w) (news.take (n*k)) 0 #[] (λj u hj=>by
       rw[ur] at hj;split at hj
       . simpa using h5 j u hj
       . cases hj)
      rw[xa,ye U] at this
      simpa [loadCells] using this
     obtain⟨w',A,r1,r2,r3,r4,r5,r6,r7⟩:=Qqn (P:=X.P) (b:=g) (o:=0) (E:=E) (news.take (n*k)) 0 w cur g2 oh (λu hu=>Ly.oneCell_of_holds _ _ h6 u (ym hu));have q:(execOp a.eval ⟨some d,.call { callee:=.builtin .copy,args:=#[t,s],argTypes:=#[T,H] },ty,pos,af,none⟩).run X.P w=.ok (.value (.int .i64 (n:Nat))) w':=by simp only[execOp,resolve];simp[invoke,builtin,W,B,Builtin.copy_,underlying,Z,Builtin.lenOf,Builtin.firstCells,x,goInt];rw[show(ys.length.min xs.length)=n from rfl,hload];simp[r1]
     unfold Oper.wp;rw[q];have hkS:Kp (X.S γ mm) w w':=⟨r4.1,λb hb hn=>r4.2 b hb (λee=>hn (.inr ⟨id,_,_,hm,rfl,J,by rw[ee];rfl⟩))⟩
     obtain⟨a1,_⟩:=Qem n h6 h7;obtain⟨_,a2⟩:=Qem n e3 e4;have e:(cpyL xs ys).length=xs.length:=by unfold cpyL;simp;omega
     have M:cpyL xs ys=ys.take n++xs.drop n:=by
      unfold cpyL;have e5:ys.take xs.length=ys.take n:=by
       rcases Nat.le_total ys.length xs.length with h | h
       . rw[xb h,xb (by rw[O h];exact xr _)]
       . rw[S h]
      have e6:xs.drop ys.length=xs.drop n:=by
       rcases Nat.le_total ys.length xs.length with h | h
       . rw[O h]
       . rw[xj h,xj (by rw[S h];exact xr _)]
      rw[e5,e6]
     have hhold:Ly.holds w (X.S γ mm) γ ((cpyL xs ys).map f) (news.take (n*k)++cs.drop (n*k)):=by rw[M,xw,wc,wt];exact Qlj a1 a2
     have y:(news.take (n*k)).length=n*k:=oh
     have hcs:cs=cur.toList.take (xs.length*k):=g6.symm;have F:A.toList.take (xs.length*k)=news.take (n*k)++cs.drop (n*k):=by rw[r3];simp only[splice,xg,List.take_zero,yw,y];rw[List.take_append,y,hcs,List.drop_take];congr 1;exact xb (by rw[y,<-C];exact V)
     have hct:Yn w' (X.S γ mm) γ id (.sl E k ((cpyL xs ys).map f)):=by
      refine⟨_,news.take (n*k)++cs.drop (n*k),J,⟨?_,.inr ⟨g,I,A,by simp[e],yx _,r2,by simpa [e] using g3,g4,?_,?_⟩⟩,Ly.holds_mono hkS (λb hb=>.inl hb) (Ng.refl _) _ _ hhold,?_⟩
      . simp only[yn,uc,y,ov,e];omega
      . have:=yj List.length r3
        simp only[splice,dy,yn,xa,uc] at this;rw[<-g5];omega
      . rw[ov,e];exact F
      . intro ly N
        rw[M,xw,wc,wt] at N;rcases yd.1 N with h | h
        . exact h7 ly (ym h)
        . exact e4 ly (vu h)
     have p:=hI.setc r5 r6 r7 hm rfl J rfl r4 rfl hct;exact hK _ _ γ (p.put (d:=d) (v:=.int .i64 (n:Nat)) (by simpa using hd) ⟨rfl,r n om⟩)
def Plc(P:Program)(T:Nat)(pl:List (Nat×Nat)):Prop:=∃ fs,P.underlying T=some (.struct fs)/\(fs.toList.map λf=>(P.info? f.type).map λi=>(f.offset,i.size))=pl.map some
def BPart(st:Nat->Option Ly)(pl:List (Nat×Nat)):List (Nat×Operand)->Ly->Ly->Prop
 | [],z,r=>z=r
 | (i,x)::e,z,r=>∃ ly d off,OpdF st x ly/\ly.lies=true/\Ly.go [i] z=some (d,off)/\pl[i]?=some (off,d.sz)/\ly.sz=d.sz/\BPart st pl e (Ly.pu ly [i] z) r
theorem Qre{a w γ pl}(hi:Inv X st mm a w γ):∀(e:List (Nat×Operand)) (z r:Ly) (cells:Array Value),BPart st pl e z r->Ly.hold w (X.S γ mm) γ z cells.toList ->
 ∃ cells',Instr.fill (pl[·]?) cells (e.map λ(i,x)=>(i,a.eval x))=some cells'/\Ly.hold w (X.S γ mm) γ r cells'.toList
 | [],z,r,cells,h,g=>by simp only[BPart] at h;subst h;exact⟨cells,by simp[Instr.fill],g⟩
 | (i,x)::e,z,r,cells,h,g=>by
   obtain⟨ly,s,off,v,y,A,B,C,E⟩:=h;have q:=Ly.hold_of_val y (v.val hi);have d:(a.eval x).cells.size=s.sz:=by have:=Ly.hold_sz _ _ q;rw[C] at this;simpa using this
   obtain⟨a1,u,n,p,H,I,hp⟩:=Qom [i] A g;have k:=Ly.hold_sz _ _ I;have F:cells.size=a1.length+u.length+n.length:=by have:=yj List.length p;simpa [tz] using this
   have hfold:=Q89 (a.eval x).cells.toList cells off 0 (by simp[d];omega);simp only[xp,dy,d] at hfold;let cells1:=((a.eval x).cells.toList.zipIdx 0).foldl (λcs (c,j)=>cs.setIfInBounds (off+j) c) cells;have f:cells1.toList=a1++(a.eval x).cells.toList++n:=by rw[show cells1.toList=cells.toList.take off++(a.eval x).cells.toList++cells.toList.drop (off+s.sz) from hfold,p,<-H,<-k];simp
   obtain⟨cells',g1,t⟩:=Qre hi e _ r cells1 E (by rw[f];exact hp _ _ q);refine⟨cells',?_,t⟩;simp only[yy,Instr.fill,B];rw[oj (by simp[d];omega)]
   rw[show(a.eval x).cells.zipIdx.foldl (λcs (c,j)=>cs.setIfInBounds (off+j) c) cells=cells1 by rw[<-Array.foldl_toList,Array.toList_zipIdx]]
   exact g1
theorem Qyc{P:Program}{w:World}:∀(fs:List Field) (pl:List (Nat×Nat)),(fs.map λf=>(P.info? f.type).map λi=>(f.offset,i.size))=pl.map some ->
 (fs.mapM (λf=>(do pure (f.offset,<-sizeOf f.type):Sem (Nat×Nat)))).run P w=.ok pl w
 | [],[],_=>oc
 | f::fs,(o,s)::pl,h=>by
   simp only[yy,List.cons.injEq] at h;obtain⟨d,e⟩:=h;cases hi:P.info? f.type with
   | none=>rw[hi] at d;cases d
   | some i=>
     rw[hi] at d;simp at d;obtain⟨rfl,rfl⟩:=d;have hs:(sizeOf f.type).run P w=.ok i.size w:=by simp[sizeOf,typeInfo,hi]
     simp only[List.mapM_cons,Sem.run_bind,hs,Result.andThen_ok,Sem.run_pure,Qyc fs pl e]
 | [],_::_,h=>by simp at h
 | _::_,[],h=>by simp at h
theorem bld{d T parts ty pos af pl k b z j l}(s:Plc X.P T pl)(r:TyI X.P T k b z)(t:Zr j z.cells.toList)(hp:BPart st pl parts j (.agg l))(hd:Nat.blt d X.N=true):
 OpOk X st mm ⟨some d,.build T ⟨parts⟩,ty,pos,af,none⟩ [(d,.agg l)] []:=
 Xn hd λa w γ hI=>by
  obtain⟨fs,p,q⟩:=s;obtain⟨cells',g1,n⟩:=Qre hI parts j (.agg l) z.cells hp (t _ _ _);refine⟨.agg cells',?_,⟨_,rfl,by simpa [Ly.hold] using n⟩⟩;have g:(fs.mapM (λf=>(do pure (f.offset,<-sizeOf f.type):Sem (Nat×Nat)))).run X.P w=.ok pl.toArray w:=by
   have e:fs.mapM (λf=>(do pure (f.offset,<-sizeOf f.type):Sem (Nat×Nat)))=List.toArray <$> (fs.toList.mapM (λf=>(do pure (f.offset,<-sizeOf f.type):Sem (Nat×Nat)))):=by
    conv=>lhs;rw[<-Array.toArray_toList (xs:=fs)]
    rw[List.mapM_toArray]
   rw[e];simp only[Sem.run_map,Qyc _ _ q,Result.andThen_ok]
  simp only[execOp,Instr.build];have hfill:Instr.fill (λi=>pl.toArray[i]?) z.cells (parts.map λ(i,x)=>(i,a.eval x))=some cells':=by simpa using g1
  simp only[Sem.run_bind,Qfs r,Result.andThen_ok,underlying,run_program,p,Sem.run_pure,g];simp only[List.map_toArray,hfill];rfl
end ops
end Go.Proofs.YtbdgngdpkdagoaaGreatDoor
