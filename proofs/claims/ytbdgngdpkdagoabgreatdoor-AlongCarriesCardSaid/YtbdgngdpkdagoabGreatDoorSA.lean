import Derived.Orders
import Derived.Deep.AppendSrc
import Derived.Test.YtbdgngdpkdagoabGreatDoorGw
namespace Go.Proofs.YtbdgngdpkdagoabGreatDoor
open Go
theorem orM{a b c d:Prop}(h:a\/b)(f:a->c)(g:b->d):c\/d:=h.elim (λx=>.inl (f x)) (λx=>.inr (g x))
def Kp(S:Nat->Prop)(w w':World):Prop:=
 w.heap.size<=w'.heap.size/\∀ b,b<w.heap.size->¬ S b->w'.heap[b]?=w.heap[b]?
theorem Kp.refl(S:Nat->Prop)(w:World):Kp S w w:=⟨xn _,λ_ _ _=>rfl⟩
structure CP where
 p:World->(Nat->Prop)->Value->Prop
 one:∀ {w S v},p w S v->v.oneCell'=true
 mono:∀ {w S v w' S'},p w S v->Kp S w w'->(∀ b,S' b->S b\/w.heap.size<=b)->p w' S' v
inductive Ly where
 | cell (p:CP)
 | agg (l:List Ly)
 | own (id:Nat)
 | ptr (id off:Nat)
 | ref (ly:Ly)
 | por (id:Nat)
 | win (id off len:Nat)
 | ifc (T:Nat) (ly:Ly)
 | clo (f:Nat) (l:List Nat)
 | bnd (f:Nat) (l:List Ly)
 | tup (l:List Ly)
 | any
def blkOf:Value->Option Nat
 | .slice (some a) _ _=>some a.block
 | .pointer (some a)=>some a.block
 | _=>none
def WinV(γ:Nat->Option Value)(id off len:Nat)(v:Value):Prop:=∃ v0,γ id=some v0/\((v=.slice none 0 0/\v0=.slice none 0 0/\len=0)\/∃ g cap o,blkOf v0=some g/\v=.slice (some ⟨g,o,none⟩) len cap/\(0<len->o=off)/\len<=cap/\cap<=maxLen)
def CapV(γ:Nat->Option Value):List Nat->List Value->Prop
 | [],[]=>True
 | id::l,v::us=>γ id=some v/\v.oneCell'=true/\CapV γ l us
 | _,_=>False
def CloV(γ:Nat->Option Value)(f:Nat)(l:List Nat)(v:Value):Prop:=∃ us:List Value,v=.func (.func f) #[] us.toArray/\CapV γ l us
abbrev Nm:=Nat->Option Value
mutual
def Ly.hold(w:World)(S:Nat->Prop)(γ:Nm):Ly->List Value->Prop
 | .cell p,cs=>∃ v,cs=[v]/\p.p w S v
 | .agg l,cs=>Ly.holds w S γ l cs
 | .own id,cs=>∃ v,cs=[v]/\γ id=some v/\v.oneCell'=true
 | .ptr id off,cs=>∃ v0 g,γ id=some v0/\blkOf v0=some g/\cs=[.pointer (some ⟨g,off,none⟩)]
 | .ref ly,cs=>∃ b o us,cs=[.pointer (some ⟨b,o,none⟩)]/\b<w.heap.size/\¬ S b/\(∀ j u,us[j]?=some u->w.cell? ⟨b,o+j,none⟩=some u)/\Ly.hold w S γ ly us
 | .por id,cs=>∃ v,cs=[v]/\(v=.pointer none\/∃ v0 g,γ id=some v0/\blkOf v0=some g/\v=.pointer (some ⟨g,0,none⟩))
 | .win id off len,cs=>∃ v,cs=[v]/\WinV γ id off len v
 | .ifc _ _,_=>False
 | .clo f l,cs=>∃ v,cs=[v]/\CloV γ f l v
 | .bnd _ _,_=>False
 | .tup _,_=>False
 | .any,_=>False
def Ly.holds(w:World)(S:Nat->Prop)(γ:Nm):List Ly->List Value->Prop
 | [],cs=>cs=[]
 | ly::l,cs=>∃ c1 d,cs=c1++d/\Ly.hold w S γ ly c1/\Ly.holds w S γ l d
end
mutual
def Ly.val(w:World)(S:Nat->Prop)(γ:Nm):Ly->Value->Prop
 | .agg l,v=>∃ cs,v=.agg cs/\Ly.holds w S γ l cs.toList
 | .tup l,v=>∃ vs,v=.tuple vs/\Ly.vals w S γ l vs.toList
 | .any,_=>True
 | .cell p,v=>p.p w S v
 | .own id,v=>γ id=some v/\v.oneCell'=true
 | .ptr id off,v=>∃ v0 g,γ id=some v0/\blkOf v0=some g/\v=.pointer (some ⟨g,off,none⟩)
 | .ref ly,v=>Ly.hold w S γ (.ref ly) [v]
 | .por id,v=>v=.pointer none\/∃ v0 g,γ id=some v0/\blkOf v0=some g/\v=.pointer (some ⟨g,0,none⟩)
 | .win id off len,v=>WinV γ id off len v
 | .ifc T ly,v=>∃ u,v=.iface T u/\Ly.val w S γ ly u
 | .clo f l,v=>CloV γ f l v
 | .bnd f l,v=>∃ us:List Value,v=.func (.func f) us.toArray #[]/\Ly.vals w S γ l us
def Ly.vals(w:World)(S:Nat->Prop)(γ:Nm):List Ly->List Value->Prop
 | [],vs=>vs=[]
 | ly::l,vs=>∃ v r,vs=v::r/\Ly.val w S γ ly v/\Ly.vals w S γ l r
end
mutual
def Ly.sz:Ly->Nat
 | .agg l=>Ly.szs l
 | _=>1
def Ly.szs:List Ly->Nat
 | []=>0
 | ly::l=>ly.sz+Ly.szs l
end
mutual
theorem Ly.hold_sz{w S γ}:∀(ly:Ly) (cs:List Value),ly.hold w S γ cs->cs.length=ly.sz
 | .cell p,cs,h=>by obtain⟨v,rfl,_⟩:=h;rfl
 | .agg l,cs,h=>by simpa [Ly.sz] using Ly.holds_sz l cs (by simpa [Ly.hold] using h)
 | .own id,cs,h=>by obtain⟨v,rfl,_⟩:=h;rfl
 | .ptr id off,cs,h=>by obtain⟨_,g,_,_,rfl⟩:=h;rfl
 | .ref ly,cs,h=>by obtain⟨b,o,us,rfl,_⟩:=h;rfl
 | .por id,cs,h=>by obtain⟨v,rfl,_⟩:=h;rfl
 | .win id off len,cs,h=>by obtain⟨v,rfl,_⟩:=h;rfl
 | .ifc _ _,_,h=>by simp[Ly.hold] at h
 | .clo _ _,cs,h=>by obtain⟨v,rfl,_⟩:=h;rfl
 | .bnd _ _,_,h=>by simp[Ly.hold] at h
 | .tup _,_,h=>by simp[Ly.hold] at h
 | .any,_,h=>by simp[Ly.hold] at h
theorem Ly.holds_sz{w S γ}:∀(l:List Ly) (cs:List Value),Ly.holds w S γ l cs->cs.length=Ly.szs l
 | [],cs,h=>by simp[Ly.holds] at h;simp[h,Ly.szs]
 | ly::l,cs,h=>by obtain⟨c1,d,rfl,e,f⟩:=h;simp[Ly.szs,Ly.hold_sz ly c1 e,Ly.holds_sz l d f]
end
theorem Kp.cell{S:Nat->Prop}{w w':World}(h:Kp S w w'){b o:Nat}{v:Value}(e:¬ S b)(d:w.cell? ⟨b,o,none⟩=some v):
 w'.cell? ⟨b,o,none⟩=some v:=by
 have f:b<w.heap.size:=by rcases xo b w.heap.size with h | h;exact h;simp[World.cell?,uc h] at d
 rw[World.cell?_of_block (w:=w) (h.2 b f e)];exact d
theorem Kp.trans{S S':Nat->Prop}{a b c:World}(h:Kp S a b)(k:Kp S' b c)(f:∀ x,S' x->S x\/a.heap.size<=x):Kp S a c:=
 ⟨xe h.1 k.1,λx e hn=>by
  rw[k.2 x (xw e h.1) (λd=>(f x d).elim hn (λg=>by omega))]
  exact h.2 x e hn⟩
def Ng(γ γ':Nm):Prop:=∀ id v,γ id=some v->γ' id=some v
theorem Ng.refl(γ:Nm):Ng γ γ:=λ_ _ h=>h
theorem WinV.mono{γ γ':Nm}(f:Ng γ γ'){id off len:Nat}{v:Value}(h:WinV γ id off len v):WinV γ' id off len v:=by obtain⟨v0,d,e⟩:=h;exact⟨v0,f _ _ d,e⟩
theorem CapV.mono{γ γ':Nm}(d:Ng γ γ'):∀ {l:List Nat}{us:List Value},CapV γ l us->CapV γ' l us
 | [],[],_=>trivial
 | _::_,_::_,h=>⟨d _ _ h.1,h.2.1,CapV.mono d h.2.2⟩
 | [],_::_,h=>h.elim
 | _::_,[],h=>h.elim
theorem CloV.mono{γ γ':Nm}(g:Ng γ γ'){f:Nat}{l:List Nat}{v:Value}(h:CloV γ f l v):CloV γ' f l v:=by obtain⟨us,d,e⟩:=h;exact⟨us,d,e.mono g⟩
theorem CloV.one{γ:Nm}{f:Nat}{l:List Nat}{v:Value}(h:CloV γ f l v):v.oneCell'=true:=by obtain⟨us,rfl,_⟩:=h;rfl
theorem WinV.one{γ:Nm}{id off len:Nat}{v:Value}(h:WinV γ id off len v):v.oneCell'=true:=by obtain⟨v0,_,⟨rfl,_⟩ | ⟨g,cap,o,_,rfl,_⟩⟩:=h<;>rfl
mutual
theorem Ly.hold_mono{w w':World}{S S':Nat->Prop}{γ γ':Nm}(hk:Kp S w w')(k:∀ b,S' b->S b\/w.heap.size<=b)(e:Ng γ γ'):
 ∀(ly:Ly) (cs:List Value),ly.hold w S γ cs->ly.hold w' S' γ' cs
 | .cell p,cs,h=>by obtain⟨v,rfl,hp⟩:=h;exact⟨v,rfl,p.mono hp hk k⟩
 | .agg l,cs,h=>by simp only[Ly.hold] at h |-;exact Ly.holds_mono hk k e l cs h
 | .own id,cs,h=>by obtain⟨v,rfl,d,i⟩:=h;exact⟨v,rfl,e _ _ d,i⟩
 | .ptr id off,cs,h=>by obtain⟨v0,g,d,i,rfl⟩:=h;exact⟨v0,g,e _ _ d,i,rfl⟩
 | .ref ly,cs,h=>by obtain⟨b,o,us,rfl,s,n,t,d⟩:=h;refine⟨b,o,us,rfl,xw s hk.1,λq=>(k b q).elim n (λh''=>by omega),λj u y=>hk.cell n (t j u y),Ly.hold_mono hk k e ly us d⟩
 | .por id,cs,h=>by obtain⟨v,rfl,h⟩:=h;exact⟨v,rfl,orM h (λx=>x) (λ⟨v0,g,d,i,r⟩=>⟨v0,g,e _ _ d,i,r⟩)⟩
 | .win id off len,cs,h=>by obtain⟨v,rfl,h⟩:=h;exact⟨v,rfl,h.mono e⟩
 | .ifc _ _,_,h=>by simp[Ly.hold] at h
 | .clo f l,cs,h=>by obtain⟨v,rfl,h⟩:=h;exact⟨v,rfl,h.mono e⟩
 | .bnd _ _,_,h=>by simp[Ly.hold] at h
 | .tup _,_,h=>by simp[Ly.hold] at h
 | .any,_,h=>by simp[Ly.hold] at h
theorem Ly.holds_mono{w w':World}{S S':Nat->Prop}{γ γ':Nm}(hk:Kp S w w')(f:∀ b,S' b->S b\/w.heap.size<=b)(e:Ng γ γ'):
 ∀(l:List Ly) (cs:List Value),Ly.holds w S γ l cs->Ly.holds w' S' γ' l cs
 | [],cs,h=>h
 | ly::l,cs,h=>by obtain⟨c1,d,rfl,g,i⟩:=h;exact⟨c1,d,rfl,Ly.hold_mono hk f e ly c1 g,Ly.holds_mono hk f e l d i⟩
end
mutual
theorem Ly.val_mono{w w':World}{S S':Nat->Prop}{γ γ':Nm}(hk:Kp S w w')(e:∀ b,S' b->S b\/w.heap.size<=b)(d:Ng γ γ'):
 ∀(ly:Ly) (v:Value),ly.val w S γ v->ly.val w' S' γ' v
 | .agg l,v,h=>by simp only[Ly.val] at h |-;obtain⟨cs,rfl,h⟩:=h;exact⟨cs,rfl,Ly.holds_mono hk e d l _ h⟩
 | .tup l,v,h=>by simp only[Ly.val] at h |-;obtain⟨vs,rfl,h⟩:=h;exact⟨vs,rfl,Ly.vals_mono hk e d l _ h⟩
 | .any,v,h=>by simp[Ly.val]
 | .cell p,v,h=>by simp only[Ly.val] at h |-;exact p.mono h hk e
 | .own id,v,h=>by simp only[Ly.val] at h |-;exact⟨d _ _ h.1,h.2⟩
 | .ptr id off,v,h=>by simp only[Ly.val] at h |-;obtain⟨v0,g,i,j,rfl⟩:=h;exact⟨v0,g,d _ _ i,j,rfl⟩
 | .ref ly,v,h=>by simp only[Ly.val] at h |-;exact Ly.hold_mono hk e d (.ref ly) [v] h
 | .por id,v,h=>by simp only[Ly.val] at h |-;exact orM h (λx=>x) (λ⟨v0,g,i,j,k⟩=>⟨v0,g,d _ _ i,j,k⟩)
 | .win id off len,v,h=>by simp only[Ly.val] at h |-;exact h.mono d
 | .ifc T ly,v,h=>by simp only[Ly.val] at h |-;obtain⟨u,rfl,h⟩:=h;exact⟨u,rfl,Ly.val_mono hk e d ly u h⟩
 | .clo f l,v,h=>by simp only[Ly.val] at h |-;exact h.mono d
 | .bnd f l,v,h=>by simp only[Ly.val] at h |-;obtain⟨us,rfl,h⟩:=h;exact⟨us,rfl,Ly.vals_mono hk e d l us h⟩
theorem Ly.vals_mono{w w':World}{S S':Nat->Prop}{γ γ':Nm}(hk:Kp S w w')(e:∀ b,S' b->S b\/w.heap.size<=b)(d:Ng γ γ'):
 ∀(l:List Ly) (vs:List Value),Ly.vals w S γ l vs->Ly.vals w' S' γ' l vs
 | [],vs,h=>by simp only[Ly.vals] at h |-;exact h
 | ly::l,vs,h=>by simp only[Ly.vals] at h |-;obtain⟨v,r,rfl,f,g⟩:=h;exact⟨v,r,rfl,Ly.val_mono hk e d ly v f,Ly.vals_mono hk e d l r g⟩
end
def Ly.lies:Ly->Bool
 | .tup _=>false
 | .any=>false
 | .ifc _ _=>false
 | .bnd _ _=>false
 | _=>true
def Ly.isN:Ly->Bool
 | .agg _=>true
 | _=>false
theorem Ly.hold_of_val{w S γ}{ly:Ly}{v:Value}(k:ly.lies=true)(h:ly.val w S γ v):ly.hold w S γ v.cells.toList:=by
 cases ly<;>simp[Ly.lies] at k<;>simp only[Ly.val] at h
 case cell p=>
  have:=p.one h;cases v<;>simp[Value.oneCell'] at this<;>exact⟨_,rfl,h⟩
 case agg l=>obtain⟨cs,rfl,h⟩:=h;simpa [Ly.hold,Value.cells] using h
 case own id=>
  obtain⟨e,i⟩:=h;cases v<;>simp[Value.oneCell'] at i<;>exact⟨_,rfl,e,rfl⟩
 case ptr id off=>obtain⟨v0,g,e,i,rfl⟩:=h;exact⟨v0,g,e,i,rfl⟩
 case ref ly=>
  have d:=h;obtain⟨b,o,us,j,_⟩:=h;simp at j;subst j;exact d
 case por id=>
  rcases h with rfl | ⟨v0,g,e,i,rfl⟩
  . exact⟨_,rfl,.inl rfl⟩
  . exact⟨_,rfl,.inr ⟨v0,g,e,i,rfl⟩⟩
 case win id off len=>
  have d:=h.one;cases v<;>simp[Value.oneCell'] at d<;>exact⟨_,rfl,h⟩
 case clo f l=>
  have d:=h.one;cases v<;>simp[Value.oneCell'] at d<;>exact⟨_,rfl,h⟩
theorem Ly.val_of_hold1{w S γ}{ly:Ly}{v:Value}(hn:ly.isN=false)(h:ly.hold w S γ [v]):ly.val w S γ v:=by
 cases ly<;>simp[Ly.isN] at hn
 case cell p=>obtain⟨u,d,h⟩:=h;simp at d;subst d;simpa [Ly.val] using h
 case own id=>obtain⟨u,d,e,i⟩:=h;simp at d;subst d;exact⟨e,i⟩
 case ptr id off=>obtain⟨v0,g,e,i,d⟩:=h;simp at d;subst d;exact⟨v0,g,e,i,rfl⟩
 case ref ly=>simpa [Ly.val] using h
 case por id=>obtain⟨u,d,h⟩:=h;simp at d;subst d;simpa [Ly.val] using h
 case win id off len=>obtain⟨u,d,h⟩:=h;simp at d;subst d;simpa [Ly.val] using h
 case tup l=>simp[Ly.hold] at h
 case ifc T l=>simp[Ly.hold] at h
 case clo f l=>obtain⟨u,d,h⟩:=h;simp at d;subst d;simpa [Ly.val] using h
 case bnd f l=>simp[Ly.hold] at h
 case any=>trivial
mutual
theorem Ly.oneCell_of_hold{w S γ}:∀(ly:Ly) (cs:List Value),ly.hold w S γ cs->∀ u∈cs,u.oneCell'=true
 | .cell p,cs,h=>by obtain⟨v,rfl,hp⟩:=h;intro u d;simp at d;subst d;exact p.one hp
 | .agg l,cs,h=>by simp only[Ly.hold] at h;exact Ly.oneCell_of_holds l cs h
 | .own id,cs,h=>by obtain⟨v,rfl,e,i⟩:=h;intro u d;simp at d;subst d;exact i
 | .ptr id off,cs,h=>by obtain⟨_,g,e,_,rfl⟩:=h;intro u d;simp at d;subst d;rfl
 | .ref ly,cs,h=>by obtain⟨b,o,us,rfl,_⟩:=h;intro u d;simp at d;subst d;rfl
 | .por id,cs,h=>by obtain⟨v,rfl,h⟩:=h;intro u d;simp at d;subst d;rcases h with rfl | ⟨v0,g,e,i,rfl⟩<;>rfl
 | .win id off len,cs,h=>by obtain⟨v,rfl,h⟩:=h;intro u d;simp at d;subst d;exact h.one
 | .ifc _ _,_,h=>by simp[Ly.hold] at h
 | .clo f l,cs,h=>by obtain⟨v,rfl,h⟩:=h;intro u d;simp at d;subst d;exact h.one
 | .bnd _ _,_,h=>by simp[Ly.hold] at h
 | .tup _,_,h=>by simp[Ly.hold] at h
 | .any,_,h=>by simp[Ly.hold] at h
theorem Ly.oneCell_of_holds{w S γ}:∀(l:List Ly) (cs:List Value),Ly.holds w S γ l cs->∀ u∈cs,u.oneCell'=true
 | [],cs,h=>by simp only[Ly.holds] at h;subst h;intro u d;cases d
 | ly::l,cs,h=>by obtain⟨c1,e,rfl,f,g⟩:=h;intro u d;rcases ym.1 d with h | h;exact Ly.oneCell_of_hold ly c1 f u h;exact Ly.oneCell_of_holds l e g u h
end
end Go.Proofs.YtbdgngdpkdagoabGreatDoor
namespace Go.Proofs.YtbdgngdpkdagoabGreatDoor
open Go
inductive Ct where
 | sl (E k:Nat) (ls:List Ly)
 | bx (E:Nat) (ly:Ly)
 | ob (o:Obj)
 | gone
def Ct.alive:Ct->Bool
 | .gone=>false
 | _=>true
def lk{α:Type}:List (Nat×α)->Nat->Option α
 | [],_=>none
 | (i,a)::l,j=>cond (Nat.beq i j) (some a) (lk l j)
def up{α:Type}(st:Nat->Option α)(el:List (Nat×α)):Nat->Option α:=λd=>match lk el d with
 | some x=>some x
 | none=>st d
theorem Jlv{α:Type}(st:Nat->Option α):up st []=st:=rfl
theorem up_lk{α:Type}(l el:List (Nat×α)):up (lk l) el=lk (el++l):=by
 funext d
 induction el with
 | nil=>rfl
 | cons e el f=>
   obtain⟨i,x⟩:=e;simp only[up,lk,yt];cases Nat.beq i d
   simpa [up] using f
   rfl
theorem Xg{α:Type}(st:Nat->Option α)(d:Nat)(x:α)(i:Nat):up st [(d,x)] i=if d=i then some x else st i:=by
 simp only[up,lk];by_cases h:d=i;subst h;simp;have:Nat.beq d i=false:=by cases e:Nat.beq d i;rfl;exact absurd (xz e) h
 simp[this,h]
def Ow(γ:Nm)(mm:Nat->Option Ct)(b:Nat):Prop:=∃ id c v,mm id=some c/\c.alive=true/\γ id=some v/\blkOf v=some b
def Z2(w:World)(S:Nat->Prop)(γ:Nm)(id:Nat):Ct->Prop
 | .sl E k ls=>∃ v cs,γ id=some v/\w.ownsRow 0 E k v ls.length cs/\Ly.holds w S γ ls cs/\∀ ly∈ls,ly.sz=k
 | .bx E ly=>∃ g cur,γ id=some (.pointer (some ⟨g,0,none⟩))/\w.heap[g]?=some (.cells cur E (0,0))/\Ly.hold w S γ ly cur.toList
 | .ob o=>∃ g,γ id=some (.pointer (some ⟨g,0,none⟩))/\w.heap[g]?=some o
 | .gone=>True
structure Cx where
 P:Program
 N:Nat
 w0:World
 S0:Nat->Prop
 M:Nat->Prop
 g0:Nm
 df:List Deferred
def Cx.S(X:Cx)(γ:Nm)(mm:Nat->Option Ct)(b:Nat):Prop:=X.S0 b\/Ow γ mm b
def GwOk(w:World)(S:Nat->Prop):Prop:=(∀ b,b<gN->¬ S b/\b<w.heap.size)/\GF w
structure Inv(X:Cx)(st:Nat->Option Ly)(mm:Nat->Option Ct)(a:Act)(w:World)(γ:Nm):Prop where
 size:a.tmps.size=X.N
 defs:a.defers=X.df
 s0:∀ b,X.S0 b->b<X.w0.heap.size
 gx:GwOk X.w0 (λb=>X.S0 b\/X.M b)
 keep:Ng X.g0 γ
 os:w.os=X.w0.os
 tape:w.tape=X.w0.tape
 output:w.output=X.w0.output
 grow:X.w0.heap.size<=w.heap.size
 old:∀ b,b<X.w0.heap.size->¬ X.M b->w.heap[b]?=X.w0.heap[b]?
 fresh:∀ id,mm id=none->γ id=none
 cts:∀ id c,mm id=some c->Z2 w (X.S γ mm) γ id c
 apart:∀ id id' c c' v v' b,mm id=some c->c.alive=true->mm id'=some c'->c'.alive=true->γ id=some v->γ id'=some v'->blkOf v=some b->blkOf v'=some b->id=id'
 mine:∀ b,Ow γ mm b->(X.w0.heap.size<=b\/X.M b)/\b<w.heap.size/\¬ X.S0 b
 sts:∀ d ly,st d=some ly->∃ v,a.tmps[d]?=some v/\ly.val w (X.S γ mm) γ v
def Sq{R:Type}(X:Cx)(l:List (Nat×Ly))(m:List (Nat×Ct))(md:Option R)(G:R->Act->World->Prop):Prop:=
 ∀ r a w γ,md=some r->Inv X (lk l) (lk m) a w γ->G r a w
def OpOk(X:Cx)(st:Nat->Option Ly)(mm:Nat->Option Ct)(o:Oper)(el:List (Nat×Ly))(em:List (Nat×Ct)):Prop:=
 ∀ a w γ K Q,Inv X st mm a w γ->(∀ d w' γ',Inv X (up st el) (up mm em) d w' γ'->K d w')->o.wp X.P a w K Q
theorem okm{X:Cx}{st:Nat->Option Ly}{mm:Nat->Option Ct}{o el em id c}(h:mm id=some c)(hn:lk em id=none)(g:OpOk X st mm o el ((id,c)::em)):OpOk X st mm o el em:=by
 have e:up mm ((id,c)::em)=up mm em:=by funext i;simp only[up,lk];cases k:Nat.beq id i;rfl;have:=xz k;subst this;rw[hn,h];rfl
 intro a w γ K Q hi j;exact g a w γ K Q hi λf w' γ' d=>j f w' γ' (e ▸ d)
theorem Z2.mono{w w':World}{S S':Nat->Prop}{γ γ':Nm}{id:Nat}{c:Ct}(h:Z2 w S γ id c)(hk:Kp S w w')(p:∀ b,S' b->S b\/w.heap.size<=b)(f:Ng γ γ')
 (j:∀ v b,γ id=some v->blkOf v=some b->w'.heap[b]?=w.heap[b]?):Z2 w' S' γ' id c:=by
 cases c with
 | gone=>trivial
 | sl E k ls=>
   obtain⟨v,cs,d,s,n,t⟩:=h;refine⟨v,cs,f _ _ d,?_,Ly.holds_mono hk p f ls cs n,t⟩;obtain⟨q,i⟩:=s;refine⟨q,?_⟩;rcases i with i | ⟨g,cap,cur,rfl,hg',e,r⟩;exact .inl i;exact .inr ⟨g,cap,cur,rfl,hg',by rw[j _ g d rfl];exact e,r⟩
 | bx E ly=>
   obtain⟨g,cur,d,e,n⟩:=h;exact⟨g,cur,f _ _ d,by rw[j _ g d rfl];exact e,Ly.hold_mono hk p f ly _ n⟩
 | ob o=>
   obtain⟨g,d,e⟩:=h;exact⟨g,f _ _ d,by rw[j _ g d rfl];exact e⟩
namespace Inv
variable {X:Cx}{st:Nat->Option Ly}{mm:Nat->Option Ct}{a:Act}{w:World}{γ:Nm}
theorem gw(h:Inv X st mm a w γ){S:Nat->Prop}(g:∀ b,S b->X.S γ mm b):GwOk w S:=
 ⟨λb d=>⟨λi=>by
  obtain⟨g1,j⟩:=h.gx.1 b d;rcases g b i with f | f;exact g1 (.inl f);rcases(h.mine b f).1 with e | e;omega
  exact g1 (.inr e),xw (h.gx.1 b d).2 h.grow⟩,
  GF_st h.gx.2 h.grow λb d=>h.old b (h.gx.1 b d).2 λe=>(h.gx.1 b d).1 (.inr e)⟩
theorem put(h:Inv X st mm a w γ){d:Nat}{v:Value}{ly:Ly}(hd:d<X.N)(k:ly.val w (X.S γ mm) γ v):
 Inv X (up st [(d,ly)]) mm (a.put (some d) v) w γ:=
 { h with
   size:=by simpa [Act.put] using h.size
   defs:=by simpa [Act.put] using h.defs
   sts:=by
    intro i f hi;rw[Xg] at hi;by_cases e:d=i;subst e;simp at hi;subst hi;exact⟨v,by simp[Act.put,h.size,hd],k⟩;simp[e] at hi;obtain⟨u,j,g⟩:=h.sts i f hi
    exact⟨u,by simp[Act.put,dy e,j],g⟩ }
theorem ext(h:Inv X st mm a w γ){w':World}(j:w'.os=w.os)(u:w'.tape=w.tape)(i:w'.output=w.output)(hk:Kp (λ_=>False) w w'):Inv X st mm a w' γ:=by
 have g:Kp (X.S γ mm) w w':=⟨hk.1,λb e _=>hk.2 b e (λh=>h)⟩
 refine { h with os:=j.trans h.os,tape:=u.trans h.tape,output:=i.trans h.output,grow:=xe h.grow hk.1,old:=?_,cts:=?_,mine:=?_,sts:=?_ };intro b e s;rw[hk.2 b (xw e h.grow) (λh=>h)];exact h.old b e s;intro id c n;by_cases f:c.alive=true;refine(h.cts id c n).mono g (λb e=>.inl e) (Ng.refl _) ?_;intro v b k e;exact hk.2 b (h.mine b ⟨id,c,v,n,f,k,e⟩).2.1 (λh=>h);cases c<;>simp[Ct.alive] at f;trivial;intro b e;obtain⟨p,q,r⟩:=h.mine b e;exact⟨p,xw q hk.1,r⟩;intro d ly hd;obtain⟨v,k,t⟩:=h.sts d ly hd;exact⟨v,k,Ly.val_mono g (λb e=>.inl e) (Ng.refl _) ly v t⟩
def gset(γ:Nm)(y:Nat)(v:Value):Nm:=λi=>if y=i then some v else γ i
theorem new(h:Inv X st mm a w γ){w':World}(U:w'.os=w.os)(ht:w'.tape=w.tape)(J:w'.output=w.output)(hk:Kp (λ_=>False) w w')
 {y:Nat}{ct:Ct}{v:Value}(Y:mm y=none) (O:ct.alive=true)
 (P:∀ S γ',(∀ b,X.S γ mm b->S b)->(∀ b,S b->X.S γ mm b\/w.heap.size<=b)->Ng γ γ'->γ' y=some v->Z2 w' S γ' y ct)
 (F:∀ b,blkOf v=some b->w.heap.size<=b/\b<w'.heap.size) :
 Inv X st (up mm [(y,ct)]) a w' (gset γ y v):=by
 have W:=h.ext U ht J hk;have T:γ y=none:=h.fresh y Y;have p:Ng γ (gset γ y v):=by intro i u q;by_cases j:y=i;subst j;rw[T] at q;cases q;simp[gset,j,q]
 have s:∀ b,Ow (gset γ y v) (up mm [(y,ct)]) b↔Ow γ mm b\/blkOf v=some b:=by
  intro b;constructor;rintro⟨id,c,u,g,B,k,n⟩;rw[Xg] at g;by_cases f:y=id;subst f;simp[gset] at k;subst k;exact .inr n;simp[f] at g;simp[gset,f] at k;exact .inl ⟨id,c,u,g,B,k,n⟩;rintro(⟨id,c,u,g,B,k,n⟩ | n);have f:y≠id:=by rintro rfl;rw[Y] at g;cases g
  exact⟨id,c,u,by rw[Xg];simp[f,g],B,by simp[gset,f,k],n⟩;exact⟨y,ct,v,by rw[Xg];simp,O,by simp[gset],n⟩
 have M:∀ b,X.S (gset γ y v) (up mm [(y,ct)]) b->X.S γ mm b\/w.heap.size<=b:=by rintro b (e | e);exact .inl (.inl e);rcases(s b).1 e with g | g;exact .inl (.inr g);exact .inr (F b g).1
 have N:∀ b,X.S γ mm b->X.S (gset γ y v) (up mm [(y,ct)]) b:=by rintro b (e | e);exact .inl e;exact .inr ((s b).2 (.inl e))
 have I:Kp (X.S γ mm) w w':=⟨hk.1,λb F _=>hk.2 b F (λh=>h)⟩
 refine { W with keep:=λi u q=>p i u (h.keep i u q),fresh:=?_,cts:=?_,apart:=?_,mine:=?_,sts:=?_ };intro id f;rw[Xg] at f;by_cases j:y=id;simp[j] at f;simp[j] at f;simp[gset,j,h.fresh id f];intro id c H;rw[Xg] at H;by_cases j:y=id;subst j;simp at H;subst H;exact P _ _ N M p (by simp[gset]);simp[j] at H;by_cases r:c.alive=true;refine(h.cts id c H).mono I M p ?_;intro u b q e;exact hk.2 b (h.mine b ⟨id,c,u,H,r,q,e⟩).2.1 (λh=>h);cases c<;>simp[Ct.alive] at r;trivial;intro id t c V u Z b g B k n C E K L;rw[Xg] at g k;by_cases x:y=id<;>by_cases A:y=t;exact x.symm.trans A;subst x;simp[A] at k;simp[gset] at C;subst C;simp[gset,A] at E;have:=(F b K).1;have:=(h.mine b ⟨t,V,Z,k,n,E,L⟩).2.1;omega;subst A;simp[x] at g;simp[gset] at E;subst E;simp[gset,x] at C;have:=(F b L).1;have:=(h.mine b ⟨id,c,u,g,B,C,K⟩).2.1;omega;simp[x] at g;simp[A] at k;simp[gset,x] at C;simp[gset,A] at E;exact h.apart id t c V u Z b g B k n C E K L;intro b e;rcases(s b).1 e with g | g;exact W.mine b g;obtain⟨g1,g2⟩:=F b g;exact⟨.inl (xe h.grow g1),g2,λhs=>by have:=h.s0 b hs;have:=h.grow;omega⟩;intro d ly hd;obtain⟨u,q,hl⟩:=h.sts d ly hd;exact⟨u,q,Ly.val_mono I M p ly u hl⟩
theorem setc(h:Inv X st mm a w γ){w':World}(N:w'.os=w.os)(ht:w'.tape=w.tape)(H:w'.output=w.output){id:Nat}{c ct:Ct}(k:mm id=some c)(C:c.alive=true)
 {v:Value}(O:γ id=some v) {J:Nat}(A:blkOf v=some J) (hk:Kp (λb=>b=J) w w')
 (K:ct.alive=true) (M:Z2 w' (X.S γ mm) γ id ct):Inv X st (up mm [(id,ct)]) a w' γ:=by
 have hmine:=h.mine J ⟨id,c,v,k,C,O,A⟩;have B:∀ b,Ow γ (up mm [(id,ct)]) b↔Ow γ mm b:=by intro b;constructor;rintro⟨i,q,u,g,t,n,y⟩;rw[Xg] at g;by_cases e:id=i;subst e;exact⟨id,c,u,k,C,n,y⟩;simp[e] at g;exact⟨i,q,u,g,t,n,y⟩;rintro⟨i,q,u,g,t,n,y⟩;by_cases e:id=i;subst e;exact⟨id,ct,u,by rw[Xg];simp,K,n,y⟩;exact⟨i,q,u,by rw[Xg];simp[e,g],t,n,y⟩
 have E:X.S γ (up mm [(id,ct)])=X.S γ mm:=by funext b;exact propext ⟨λh=>orM h (λx=>x) (B b).1,λh=>orM h (λx=>x) (B b).2⟩
 have F:Kp (X.S γ mm) w w':=⟨hk.1,λb j hn=>hk.2 b j (λe=>hn (.inr ⟨id,c,v,k,C,O,e ▸ A⟩))⟩
 refine { h with os:=N.trans h.os,tape:=ht.trans h.tape,output:=H.trans h.output,grow:=xe h.grow hk.1,old:=?_,fresh:=?_,cts:=?_,apart:=?_,mine:=?_,sts:=?_ };intro b j S
 rw[hk.2 b (xw j h.grow) (λe=>by
  subst e;rcases hmine.1 with g | g;omega
  exact S g)]
 exact h.old b j S;intro i hi;rw[Xg] at hi;by_cases e:id=i;simp[e] at hi;simp[e] at hi;exact h.fresh i hi;intro i q f;rw[E];rw[Xg] at f;by_cases e:id=i;subst e;simp at f;subst f;exact M;simp[e] at f;by_cases p:q.alive=true;refine(h.cts i q f).mono F (λb j=>.inl j) (Ng.refl _) ?_;intro u b I j;refine hk.2 b (h.mine b ⟨i,q,u,f,p,I,j⟩).2.1 (λL=>e ?_);subst L;exact h.apart id i c q v u b k C f p O I A j;cases q<;>simp[Ct.alive] at p;trivial;intro i P c1 T u u' b g t n y V W Y Z;rw[Xg] at g n;have g1:∃ r,mm i=some r/\r.alive=true:=by
  by_cases e:id=i;subst e;exact⟨c,k,C⟩;simp[e] at g;exact⟨c1,g,t⟩
 have U:∃ s,mm P=some s/\s.alive=true:=by by_cases e:id=P;subst e;exact⟨c,k,C⟩;simp[e] at n;exact⟨T,n,y⟩
 obtain⟨r,m1,a1⟩:=g1;obtain⟨s,m2,a2⟩:=U;exact h.apart i P r s u u' b m1 a1 m2 a2 V W Y Z;intro b j;obtain⟨g,t,n⟩:=h.mine b ((B b).1 j);exact⟨g,xw t hk.1,n⟩;intro d ly hd;rw[E];obtain⟨u,I,hl⟩:=h.sts d ly hd;exact⟨u,I,Ly.val_mono F (λb j=>.inl j) (Ng.refl _) ly u hl⟩
theorem drop(h:Inv X st mm a w γ)(id:Nat):Inv X st (up mm [(id,.gone)]) a w γ:=by
 have p:∀ b,Ow γ (up mm [(id,.gone)]) b->Ow γ mm b:=by rintro b ⟨i,r,u,f,k,j,q⟩;rw[Xg] at f;by_cases e:id=i;simp[e] at f;subst f;simp[Ct.alive] at k;simp[e] at f;exact⟨i,r,u,f,k,j,q⟩
 have t:∀ b,X.S γ (up mm [(id,.gone)]) b->X.S γ mm b:=λb h=>orM h (λx=>x) (p b);refine { h with fresh:=?_,cts:=?_,apart:=?_,mine:=?_,sts:=?_ };intro i hi;rw[Xg] at hi;by_cases e:id=i;simp[e] at hi;simp[e] at hi;exact h.fresh i hi;intro i r g;rw[Xg] at g;by_cases e:id=i;simp[e] at g;subst g;trivial;simp[e] at g;exact(h.cts i r g).mono (Kp.refl _ _) (λb n=>.inl (t b n)) (Ng.refl _) (λ_ _ _ _=>rfl);intro i v c1 y u C b f k j q;rw[Xg] at f j;by_cases e:id=i;simp[e] at f;subst f;simp[Ct.alive] at k;by_cases s:id=v;simp[s] at j;subst j;simp[Ct.alive] at q;simp[e] at f;simp[s] at j;exact h.apart i v c1 y u C b f k j q;intro b n;exact h.mine b (p b n);intro d ly hd;obtain⟨u,B,A⟩:=h.sts d ly hd;exact⟨u,B,Ly.val_mono (Kp.refl _ _) (λb n=>.inl (t b n)) (Ng.refl _) ly u A⟩
end Inv
end Go.Proofs.YtbdgngdpkdagoabGreatDoor
namespace Go.Proofs.YtbdgngdpkdagoabGreatDoor
open Go Go.RowKit
def cpB(b:Bool):CP where
 p:=λ_ _ v=>v=.bool b
 one:=by intro _ _ v h;subst h;rfl
 mono:=λh _ _=>h
def bl(b:Bool):Ly:=.cell (cpB b)
def cpI(k:IntKind)(x:Int):CP where
 p:=λ_ _ v=>v=.int k x/\k.min<=x/\x<=k.max
 one:=by intro _ _ v h;obtain⟨rfl,_⟩:=h;rfl
 mono:=λh _ _=>h
def i64(x:Int):Ly:=.cell (cpI .i64 x)
def SubL:List (Nat×Ly)->List (Nat×Ly)->Prop
 | [],_=>True
 | (d,ly)::r,l=>lk l d=some ly/\SubL r l
theorem SubL.lk{l' l:List (Nat×Ly)}(h:SubL l' l):∀ d ly,Go.Proofs.YtbdgngdpkdagoabGreatDoor.lk l' d=some ly->Go.Proofs.YtbdgngdpkdagoabGreatDoor.lk l d=some ly:=by
 induction l' with
 | nil=>intro d ly h;cases h
 | cons e r g=>
   obtain⟨i,x⟩:=e;intro d ly hd;simp only[Go.Proofs.YtbdgngdpkdagoabGreatDoor.lk] at hd;cases f:Nat.beq i d;rw[f] at hd;exact g h.2 d ly hd;rw[f] at hd;have:i=d:=xz f;subst this;simp at hd;subst hd;exact h.1
def EqM1:List (Nat×Ct)->List (Nat×Ct)->List (Nat×Ct)->Prop
 | [],_,_=>True
 | (d,_)::r,m,m'=>lk m d=lk m' d/\EqM1 r m m'
def EqM(m m':List (Nat×Ct)):Prop:=EqM1 m m m'/\EqM1 m' m m'
theorem Qqg:∀(r m m':List (Nat×Ct)) (d:Nat),EqM1 r m m'->lk r d≠none->lk m d=lk m' d
 | [],_,_,_,_,h=>absurd rfl h
 | (i,x)::r,m,m',d,h,hd=>by simp only[lk] at hd;cases e:Nat.beq i d;rw[e] at hd;exact Qqg r m m' d h.2 hd;have:i=d:=xz e;subst this;exact h.1
theorem EqM.eq{m m':List (Nat×Ct)}(h:EqM m m'):lk m=lk m':=by funext d;by_cases e:lk m d=none;by_cases f:lk m' d=none;rw[e,f];exact Qqg m' m m' d h.2 f;exact Qqg m m m' d h.1 e
def Ent(X:Cx)(l:List (Nat×Ly))(m:List (Nat×Ct))(l':List (Nat×Ly))(m':List (Nat×Ct)):Prop:=
 ∀ a w γ,Inv X (lk l) (lk m) a w γ->∃ γ',Inv X (lk l') (lk m') a w γ'
theorem entI{X:Cx}{l l' m m'}(h:SubL l' l)(e:EqM m m'):Ent X l m l' m':=λa w γ hi=>
 ⟨γ,by rw[<-e.eq];exact { hi with sts:=λd ly hd=>hi.sts d ly (h.lk d ly hd) }⟩
def Rn(σ:List (Nat×Nat))(ly d:Ly):Prop:=∀ w S (γ γ':Nm),(∀ y x,lk σ y=some x->γ' y=γ x) ->
 (∀ cs,ly.hold w S γ cs->d.hold w S γ' cs)/\(∀ v,ly.val w S γ v->d.val w S γ' v)
def Rns(σ:List (Nat×Nat))(l l':List Ly):Prop:=∀ w S (γ γ':Nm),(∀ y x,lk σ y=some x->γ' y=γ x) ->
 (∀ cs,Ly.holds w S γ l cs->Ly.holds w S γ' l' cs)/\(∀ v,Ly.vals w S γ l v->Ly.vals w S γ' l' v)
def IF(ly:Ly):Prop:=∀ w S (γ γ':Nm),(∀ cs,ly.hold w S γ cs->ly.hold w S γ' cs)/\(∀ v,ly.val w S γ v->ly.val w S γ' v)
def IFs(l:List Ly):Prop:=∀ w S (γ γ':Nm),(∀ cs,Ly.holds w S γ l cs->Ly.holds w S γ' l cs)/\(∀ v,Ly.vals w S γ l v->Ly.vals w S γ' l v)
theorem Qks(p:CP):IF (.cell p):=λw S γ γ'=>⟨λcs h=>h,λv h=>by simpa [Ly.val] using h⟩
theorem Jlw:IF .any:=λw S γ γ'=>⟨λcs h=>h,λv h=>by simp[Ly.val]⟩
theorem Qh1:IFs []:=λw S γ γ'=>⟨λcs h=>h,λv h=>by simpa [Ly.vals] using h⟩
theorem Yc{ly l}(e:IF ly)(f:IFs l):IFs (ly::l):=λw S γ γ'=>
 ⟨λcs h=>by obtain⟨c1,g,rfl,g1,d⟩:=h;exact⟨c1,g,rfl,(e w S γ γ').1 _ g1,(f w S γ γ').1 _ d⟩,
  λv h=>by
   simp only[Ly.vals] at h |-
   obtain⟨u,r,rfl,g1,d⟩:=h;exact⟨u,r,rfl,(e w S γ γ').2 _ g1,(f w S γ γ').2 _ d⟩⟩
theorem Ku{α:Type}{f:α->Ly}(h:∀ x,IF (f x)):∀ xs:List α,IFs (xs.map f)
 | []=>Qh1
 | x::xs=>Yc (h x) (Ku h xs)
theorem Ql5{l}(h:IFs l):IF (.agg l):=λw S γ γ'=>
 ⟨λcs g=>by simp only[Ly.hold] at g |-;exact(h w S γ γ').1 cs g,
  λv g=>by simp only[Ly.val] at g |-;obtain⟨cs,rfl,g⟩:=g;exact⟨cs,rfl,(h w S γ γ').1 _ g⟩⟩
theorem Jlx{l}(h:IFs l):IF (.tup l):=λw S γ γ'=>
 ⟨λcs g=>by simp[Ly.hold] at g,
  λv g=>by simp only[Ly.val] at g |-;obtain⟨cs,rfl,g⟩:=g;exact⟨cs,rfl,(h w S γ γ').2 _ g⟩⟩
theorem Jly{ly}(h:IF ly):IF (.ref ly):=λw S γ γ'=>by
 have d:∀ cs,(Ly.ref ly).hold w S γ cs->(Ly.ref ly).hold w S γ' cs:=by rintro cs ⟨b,o,us,e,f,i,j,k⟩;exact⟨b,o,us,e,f,i,j,(h w S γ γ').1 _ k⟩
 exact⟨d,λv g=>by simp only[Ly.val] at g |-;exact d _ g⟩
theorem rn_id{σ ly}(h:IF ly):Rn σ ly ly:=λw S γ γ' _=>h w S γ γ'
theorem Xn{σ y x}(h:lk σ y=some x):Rn σ (.own x) (.own y):=λw S γ γ' e=>by have:=e y x h;exact⟨λcs g=>by obtain⟨v,rfl,g1,d⟩:=g;exact⟨v,rfl,by rw[this];exact g1,d⟩,λv g=>by simp only[Ly.val] at g |-;rw[this];exact g⟩
theorem Qxx{σ y x off}(h:lk σ y=some x):Rn σ (.ptr x off) (.ptr y off):=λw S γ γ' e=>by have:=e y x h;exact⟨λcs g=>by obtain⟨v0,b,g1,d⟩:=g;exact⟨v0,b,by rw[this];exact g1,d⟩,λv g=>by simp only[Ly.val] at g |-;rw[this];exact g⟩
theorem Qqh{σ y x}(h:lk σ y=some x):Rn σ (.por x) (.por y):=λw S γ γ' e=>by
 have:=e y x h
 exact⟨λcs g=>by
  obtain⟨v,rfl,g⟩:=g;exact⟨v,rfl,orM g (λx=>x) (λ⟨v0,b,g1,d⟩=>⟨v0,b,by rw[this];exact g1,d⟩)⟩,
  λv g=>by simp only[Ly.val] at g |-;rw[this];exact g⟩
theorem Xs{σ}:Rns σ [] []:=λw S γ γ' _=>⟨λcs h=>h,λv h=>by simpa [Ly.vals] using h⟩
theorem K5{σ ly d l l'}(g:Rn σ ly d)(i:Rns σ l l'):Rns σ (ly::l) (d::l'):=λw S γ γ' e=>
 ⟨λcs h=>by obtain⟨c1,j,rfl,g1,f⟩:=h;exact⟨c1,j,rfl,(g w S γ γ' e).1 _ g1,(i w S γ γ' e).1 _ f⟩,
  λv h=>by
   simp only[Ly.vals] at h |-
   obtain⟨u,r,rfl,g1,f⟩:=h;exact⟨u,r,rfl,(g w S γ γ' e).2 _ g1,(i w S γ γ' e).2 _ f⟩⟩
theorem Jlz{σ l}(h:IFs l):Rns σ l l:=λw S γ γ' _=>h w S γ γ'
theorem Qbv{σ l l'}(h:Rns σ l l'):Rn σ (.agg l) (.agg l'):=λw S γ γ' d=>
 ⟨λcs g=>by simp only[Ly.hold] at g |-;exact(h w S γ γ' d).1 cs g,
  λv g=>by simp only[Ly.val] at g |-;obtain⟨cs,rfl,g⟩:=g;exact⟨cs,rfl,(h w S γ γ' d).1 _ g⟩⟩
theorem Qkt{σ l l'}(h:Rns σ l l'):Rn σ (.tup l) (.tup l'):=λw S γ γ' d=>
 ⟨λcs g=>by simp[Ly.hold] at g,
  λv g=>by simp only[Ly.val] at g |-;obtain⟨cs,rfl,g⟩:=g;exact⟨cs,rfl,(h w S γ γ' d).2 _ g⟩⟩
def RnC(σ:List (Nat×Nat)):Ct->Ct->Prop
 | .sl E k ls,.sl E' f d=>E=E'/\k=f/\ls.length=d.length/\Rns σ ls d/\((∀ ly∈ls,ly.sz=k)->∀ ly∈d,ly.sz=k)
 | .bx E ly,.bx E' e=>E=E'/\Rn σ ly e
 | .ob o,.ob g=>o=g
 | _,_=>False
theorem rc_sl{σ E k ls}(h:IFs ls):RnC σ (.sl E k ls) (.sl E k ls):=⟨rfl,rfl,rfl,Jlz h,λh=>h⟩
theorem rc_ob{σ o}:RnC σ (.ob o) (.ob o):=rfl
theorem rc_bx{σ E ly d}(h:Rn σ ly d):RnC σ (.bx E ly) (.bx E d):=⟨rfl,h⟩
def RnC1(σ:List (Nat×Nat))(c d:Ct):Prop:=RnC σ c d\/d=.gone
theorem rci{σ c d}(h:RnC σ c d):RnC1 σ c d:=.inl h
theorem rcg{σ c}:RnC1 σ c .gone:=.inr rfl
def alO:Option Ct->Bool
 | some c=>c.alive
 | none=>false
def alv(σ:List (Nat×Nat))(m:List (Nat×Ct)):List (Nat×Nat):=σ.filter λe=>alO (lk m e.1)
theorem Q27{σ:List (Nat×Nat)}{m:List (Nat×Ct)}{y x c}(h:(y,x)∈σ)(e:lk m y=some c)(d:c.alive=true):(y,x)∈alv σ m:=
 List.mem_filter.2 ⟨h,by simp[alO,e,d]⟩
def RnL(σ:List (Nat×Nat))(l:List (Nat×Ly)):List (Nat×Ly)->Prop
 | []=>True
 | (d,e)::r=>(∃ ly,lk l d=some ly/\Rn σ ly e)/\RnL σ l r
def RnM(σ:List (Nat×Nat))(m:List (Nat×Ct)):List (Nat×Ct)->Prop
 | []=>True
 | (y,d)::r=>(∃ x c,lk σ y=some x/\lk m x=some c/\RnC1 σ c d)/\RnM σ m r
def NmM(m':List (Nat×Ct)):List (Nat×Nat)->Prop
 | []=>True
 | (y,_)::r=>(∃ c,lk m' y=some c)/\NmM m' r
def nodupB:List Nat->Bool
 | []=>true
 | x::r=>!(r.any (Nat.beq x)) && nodupB r
def KeepS(σ:List (Nat×Nat))(g0:Nm):Prop:=∀ id v,g0 id=some v->lk σ id=some id
theorem RnL.get{σ l}:∀ {l'},RnL σ l l'->∀ d e,lk l' d=some e->∃ ly,lk l d=some ly/\Rn σ ly e
 | [],_,d,e,h=>by cases h
 | (i,x)::r,g,d,e,h=>by simp only[lk] at h;cases f:Nat.beq i d;rw[f] at h;exact RnL.get g.2 d e h;rw[f] at h;have:i=d:=xz f;subst this;simp at h;subst h;exact g.1
theorem RnM.get{σ m}:∀ {m'},RnM σ m m'->∀ y g,lk m' y=some g->∃ x c,lk σ y=some x/\lk m x=some c/\RnC1 σ c g
 | [],_,d,e,h=>by cases h
 | (i,x)::r,j,d,e,h=>by simp only[lk] at h;cases f:Nat.beq i d;rw[f] at h;exact RnM.get j.2 d e h;rw[f] at h;have:i=d:=xz f;subst this;simp at h;subst h;exact j.1
theorem NmM.get{m'}:∀ {σ:List (Nat×Nat)},NmM m' σ->∀ y x,lk σ y=some x->∃ c,lk m' y=some c
 | [],_,y,x,h=>by cases h
 | (i,f)::r,e,y,x,h=>by simp only[lk] at h;cases d:Nat.beq i y;rw[d] at h;exact NmM.get e.2 y x h;have:i=y:=xz d;subst this;exact e.1
theorem Qdt{σ:List (Nat×Nat)}:∀ {y x},lk σ y=some x->(y,x)∈σ:=by
 induction σ with
 | nil=>intro y x h;cases h
 | cons e r f=>
   obtain⟨i,g⟩:=e;intro y x h;simp only[lk] at h;cases d:Nat.beq i y;rw[d] at h;exact uq _ (f h);rw[d] at h;have:i=y:=xz d;subst this;simp at h;subst h;exact uv
theorem Qsv:∀ {σ:List (Nat×Nat)},nodupB (σ.map (·.2))=true->∀ {y g x},(y,x)∈σ->(g,x)∈σ->lk σ y=some x->lk σ g=some x->y=g
 | [],_,_,_,_,h,_,_,_=>by cases h
 | (i,n)::r,hn,y,g,x,t,u,d,e=>by
   simp only[yv,nodupB,ud,dp] at hn;have j:∀ z,(z,n) ∉ r:=by intro z p;have:(r.map (·.2)).any (Nat.beq n)=true:=ww.2 ⟨n,xd.2 ⟨_,p,rfl⟩,oc⟩;rw[this] at hn;simp at hn
   simp only[lk] at d e;cases k:Nat.beq i y<;>cases f:Nat.beq i g;rw[k] at d;rw[f] at e;exact Qsv hn.2 (Qdt d) (Qdt e) d e;rw[f] at e;simp at e;subst e;rw[k] at d;exact absurd (Qdt d) (j y);rw[k] at d;simp at d;subst d;rw[f] at e;exact absurd (Qdt e) (j g);have q:i=y:=xz k;have s:i=g:=xz f;omega
theorem Qzg:∀ {σ:List (Nat×Nat)},nodupB (σ.map (·.2))=true->∀ {y g x},(y,x)∈σ->(g,x)∈σ->y=g
 | [],_,_,_,_,h,_=>by cases h
 | (i,f)::r,hn,y,g,x,n,p=>by
   simp only[yv,nodupB,ud,dp] at hn;have d:∀ z,(z,f) ∉ r:=by intro z q;have:(r.map (·.2)).any (Nat.beq f)=true:=ww.2 ⟨f,xd.2 ⟨_,q,rfl⟩,oc⟩;rw[this] at hn;simp at hn
   rcases xg.1 n with e | k1<;>rcases xg.1 p with k | k2;exact(yj Prod.fst e).trans (yj Prod.fst k).symm;have j:x=f:=yj Prod.snd e;rw[j] at k2;exact absurd k2 (d g);have j:x=f:=yj Prod.snd k;rw[j] at k1;exact absurd k1 (d y);exact Qzg hn.2 k1 k2
theorem Z2.rn{w S γ γ' σ x y c i}(n:∀ y x,lk σ y=some x->γ' y=γ x)(r:lk σ y=some x)(h:Z2 w S γ x c)(hr:RnC σ c i):Z2 w S γ' y i:=by
 have d:=n y x r;cases c<;>cases i<;>simp only[RnC] at hr
 case sl.sl E k ls E' k' ls'=>
  obtain⟨rfl,rfl,q,hn,s⟩:=hr;obtain⟨v,cs,e,f,j,p⟩:=h;exact⟨v,cs,by rw[d];exact e,by rw[<-q];exact f,(hn w S γ γ' n).1 _ j,s p⟩
 case bx.bx E ly E' ly'=>
  obtain⟨rfl,hn⟩:=hr;obtain⟨g,cur,e,f,j⟩:=h;exact⟨g,cur,by rw[d];exact e,f,(hn w S γ γ' n).1 _ j⟩
 case ob.ob o o'=>
  subst hr;obtain⟨g,e,f⟩:=h;exact⟨g,by rw[d];exact e,f⟩
theorem RnC.alive{σ c d}(h:RnC σ c d):c.alive=true/\d.alive=true:=by cases c<;>cases d<;>simp only[RnC] at h<;>exact⟨rfl,rfl⟩
theorem RnC1.al{σ c d}(h:RnC1 σ c d)(e:d.alive=true):c.alive=true:=by rcases h with h | rfl;exact h.alive.1;cases e
theorem Z2.rn1{w S γ γ' σ x y c d}(e:∀ y x,lk σ y=some x->γ' y=γ x)(f:lk σ y=some x)(h:Z2 w S γ x c)(hr:RnC1 σ c d):Z2 w S γ' y d:=by rcases hr with hr | rfl;exact h.rn e f hr;trivial
theorem entR{X:Cx}{l l' m m'}(σ:List (Nat×Nat))(hn:nodupB ((alv σ m').map (·.2))=true)(hk:KeepS σ X.g0)(S:NmM m' σ)(t:RnM σ m m')(P:RnL σ l l'):Ent X l m l' m':=by
 intro a w γ hi;let γ':Nm:=λy=>match lk σ y with | some x=>γ x | none=>none
 have g:∀ y x,lk σ y=some x->γ' y=γ x:=λy x h=>by simp only[γ',h]
 have n:∀ b,Ow γ' (lk m') b->Ow γ (lk m) b:=by rintro b ⟨y,i,v,f,q,r,s⟩;obtain⟨x,c,g1,e,g3⟩:=t.get y i f;exact⟨x,c,v,e,g3.al q,by rw[<-g y x g1];exact r,s⟩
 have I:∀ b,X.S γ' (lk m') b->X.S γ (lk m) b:=λb h=>orM h (λx=>x) (n b);refine⟨γ',{ hi with keep:=?_,fresh:=?_,cts:=?_,apart:=?_,mine:=?_,sts:=?_ }⟩;intro id v u;rw[g id id (hk id v u)];exact hi.keep id v u;intro y T;cases h:lk σ y with
 | none=>simp only[γ',h]
 | some x=>obtain⟨c,J⟩:=S.get y x h;rw[T] at J;cases J
 intro y i C;obtain⟨x,c,g1,e,g3⟩:=t.get y i C;have h0:=hi.cts x c e;have f:Z2 w (X.S γ' (lk m')) γ x c:=h0.mono (Kp.refl _ _) (λb k=>.inl (I b k)) (Ng.refl _) (λ_ _ _ _=>rfl);exact f.rn1 g g1 g3;intro y L c i v v' b f q r s F H N O;obtain⟨x,d,g1,e,g3⟩:=t.get y c f;obtain⟨K,M,j,A,B⟩:=t.get L i r;rw[g y x g1] at F;rw[g L K j] at H;have:=hi.apart x K d M v v' b e (g3.al q) A (B.al s) F H N O;subst this;exact Qzg hn (Q27 (Qdt g1) f q) (Q27 (Qdt j) r s);intro b k;exact hi.mine b (n b k);intro d E hd;obtain⟨ly,g1,e⟩:=P.get d E hd;obtain⟨v,u,p⟩:=hi.sts d ly g1;exact⟨v,u,(e w _ γ γ' g).2 v (Ly.val_mono (Kp.refl _ _) (λb k=>.inl (I b k)) (Ng.refl _) ly v p)⟩
inductive Lp (σ τ:Type) where
 | go (s:σ)
 | out (t:τ)
def loopM{σ τ:Type}(f:σ->Option (Lp σ τ)):Nat->σ->Option τ
 | 0,_=>none
 | n+1,s=>(f s).bind fun | .go s'=>loopM f n s' | .out t=>some t
def rangeL{α σ τ:Type}(f:Nat->α->σ->Option (Lp σ τ)):List α->Nat->σ->Option (Lp σ τ)
 | [],_,s=>some (.go s)
 | x::xs,i,s=>(f i x s).bind fun | .go s'=>rangeL f xs (i+1) s' | .out t=>some (.out t)
section rules
variable {R:Type}{X:Cx}{l:List (Nat×Ly)}{m:List (Nat×Ct)}{md:Option R}{Q:R->Exit->Act->World->Prop}{G:R->Act->World->Prop}
theorem bd{α:Type}{x:Option α}{f:α->Option R}(h:∀ y,x=some y->Sq X l m (f y) G):Sq X l m (x.bind f) G:=by
 intro r a w γ hr hi;cases d:x with
 | none=>rw[d] at hr;cases hr
 | some y=>rw[d] at hr;exact h y d r a w γ hr hi
theorem sent{l' m'}(h:Ent X l m l' m')(k:Sq X l' m' md G):Sq X l m md G:=by intro r a w γ hr hi;obtain⟨γ',d⟩:=h a w γ hi;exact k r a w γ' hr d
theorem join{σ:Type}{A:Option σ}{k:σ->Option R}{G':R->Act->World->Prop}(L:σ->List (Nat×Ly))(M:σ->List (Nat×Ct))
 (h:(∀ s,Sq X (L s) (M s) (k s) G')->Sq X l m (A.bind k) G) (J:∀ s,Sq X (L s) (M s) (k s) G'):Sq X l m (A.bind k) G:=h J
theorem sif{b:Bool}{d e:Option R}(f:b=true->Sq X l m d G)(g:b=false->Sq X l m e G):Sq X l m (bif b then d else e) G:=by cases b;exact g rfl;exact f rfl
theorem sifd{b:Bool}{g j:Option R}(d:Nat)(hd:lk l d=some (bl b))(k:Sq X ((d,bl true)::l) m g G)(n:Sq X ((d,bl false)::l) m j G):Sq X l m (bif b then g else j) G:=by
 refine sif (λf=>?_) (λf=>?_)<;>subst f
 exact sent (λa w γ hi=>⟨γ,{ hi with sts:=λi ly h=>hi.sts i ly (by
  simp only[lk] at h;cases e:Nat.beq d i;rw[e] at h;exact h
  rw[e] at h;rw[<-xz e,hd];exact h) }⟩) k
 exact sent (λa w γ hi=>⟨γ,{ hi with sts:=λi ly h=>hi.sts i ly (by
  simp only[lk] at h;cases e:Nat.beq d i;rw[e] at h;exact h
  rw[e] at h;rw[<-xz e,hd];exact h) }⟩) n
def OpdF(st:Nat->Option Ly):Operand->Ly->Prop
 | .tmp t,ly=>st t=some ly
 | .const v,ly=>∀ w S γ,ly.val w S γ v
 | .func f,ly=>∀ w S γ,ly.val w S γ (.func (.func f) #[] #[])
 | .global g,ly=>∀ w S γ,ly.val w S γ (.pointer (some ⟨g,0,none⟩))
theorem OpdF.val{st mm a w γ}(hi:Inv X st mm a w γ){x:Operand}{ly:Ly}(h:OpdF st x ly):ly.val w (X.S γ mm) γ (a.eval x):=by
 cases x with
 | tmp t=>obtain⟨v,e,d⟩:=hi.sts t ly h;simpa [Act.eval,e] using d
 | const v=>exact h _ _ _
 | func f=>exact h _ _ _
 | global g=>exact h _ _ _
theorem scond{b:Bool}{c:Operand}{x y:Code}{e f:Option R}(j:OpdF (lk l) c (bl b))
 (g:Sq X l m e (λr=>x.wp X.P (Q r))) (i:Sq X l m f (λr=>y.wp X.P (Q r))) :
 Sq X l m (bif b then e else f) (λr=>(Code.cond c x y).wp X.P (Q r)):=by
 intro r a w γ hr hi;have:=j.val hi;simp only[bl,Ly.val,cpB] at this;refine wp_cond_split this (λd=>?_) (λd=>?_)<;>subst d;exact g r a w γ hr hi;exact i r a w γ hr hi
theorem sskip(h:Sq X l m md (λr=>Q r .normal)):Sq X l m md (λr=>Code.skip.wp X.P (Q r)):=λr a w γ hr hi=>wp_skip (h r a w γ hr hi)
theorem sexit{id:Nat}(h:Sq X l m md (λr=>Q r (.exit id))):Sq X l m md (λr=>(Code.exit id).wp X.P (Q r)):=λr a w γ hr hi=>wp_exit (h r a w γ hr hi)
theorem sret(h:Sq X l m md (λr=>Q r .ret)):Sq X l m md (λr=>Code.ret.wp X.P (Q r)):=λr a w γ hr hi=>wp_ret (h r a w γ hr hi)
theorem sseq{x y:Code}(h:Sq X l m md (λr=>x.wp X.P (Exit.then (y.wp X.P (Q r)) (Q r)))):Sq X l m md (λr=>(Code.seq x y).wp X.P (Q r)):=
 λr a w γ hr hi=>wp_seq (h r a w γ hr hi)
theorem sblk{id:Nat}{c:Code}(h:Sq X l m md (λr=>c.wp X.P (Exit.inBlock id (Q r)))):Sq X l m md (λr=>(Code.block id c).wp X.P (Q r)):=
 λr a w γ hr hi=>wp_block (h r a w γ hr hi)
theorem sreg{id:Nat}{ls:List Oper}(h:Sq X l m md (λr=>wpList X.P ⟨ls⟩ (Q r) ls)):Sq X l m md (λr=>(Code.region id ⟨ls⟩ false).wp X.P (Q r)):=
 λr a w γ hr hi=>wp_region_list (h r a w γ hr hi)
theorem snil{ops:Array Oper}(h:Sq X l m md (λr=>Q r .normal)):Sq X l m md (λr=>wpList X.P ops (Q r) []):=h
theorem sx{id:Nat}(h:Sq X l m md (λr=>Q r .normal)):Sq X l m md (λr=>Exit.inBlock id (Q r) (.exit id)):=
 λr a w γ hr hi=>by simp only[Exit.inBlock,yn];exact h r a w γ hr hi
theorem sxo{id d:Nat}(f:Nat.beq d id=false)(h:Sq X l m md (λr=>Q r (.exit d))):Sq X l m md (λr=>Exit.inBlock id (Q r) (.exit d)):=
 λr a w γ hr hi=>by
  have:d≠id:=λe=>by subst e;simp at f
  simp only[Exit.inBlock,ol this];exact h r a w γ hr hi
theorem so{d op ty pos after}{ops:Array Oper}{rest:List Oper}{el em}(h:OpOk X (lk l) (lk m) ⟨d,op,ty,pos,after,none⟩ el em)
 (k:Sq X (el++l) (em++m) md (λr=>wpList X.P ops (Q r) rest)):Sq X l m md (λr=>wpList X.P ops (Q r) (⟨d,op,ty,pos,after,none⟩::rest)):=by
 intro r a w γ hr hi;refine wpList_plain rfl λK g=>h a w γ K (Q r) hi λf w' γ' e=>g f w' (k r f w' γ' hr ?_);rw[up_lk,up_lk] at e;exact e
theorem s1{d op ty pos after}{ops:Array Oper}{rest:List Oper}{e}(h:OpOk X (lk l) (lk m) ⟨d,op,ty,pos,after,none⟩ [e] [])
 (k:Sq X (e::l) m md (λr=>wpList X.P ops (Q r) rest)):Sq X l m md (λr=>wpList X.P ops (Q r) (⟨d,op,ty,pos,after,none⟩::rest)):=so h k
theorem Qqi{ops:Array Oper}{j d:Nat}{b:Bool}{st mm a w γ}(hi:Inv X st mm a w γ)(g:((ops[j]?).bind (·.dst))=some d)(i:st d=some (bl b)):yielded ops a.tmps j=some b:=by obtain⟨v,e,f⟩:=hi.sts d _ i;simp only[bl,Ly.val,cpB] at f;subst f;unfold yielded;simp[g,e]
theorem sg{d op ty pos after j b}{ops:Array Oper}{rest:List Oper}{el em}(g:Nat)(n:((ops[j]?).bind (·.dst))=some g)(p:lk l g=some (bl b))(h:OpOk X (lk l) (lk m) ⟨d,op,ty,pos,after,none⟩ el em)
 (k:Sq X (el++l) (em++m) md (λr=>wpList X.P ops (Q r) rest)):Sq X l m md (λr=>wpList X.P ops (Q r) (⟨d,op,ty,pos,after,some (j,b)⟩::rest)):=by
 intro r a w γ hr hi;refine wpList_step λK i=>?_;rw[oo (by simp[Region.wanted,Qqi hi n p])];refine h a w γ K (Q r) hi λf w' γ' e=>i f w' (k r f w' γ' hr ?_);rw[up_lk,up_lk] at e;exact e
theorem sp{d op ty pos after j b}{ops:Array Oper}{rest:List Oper}(e:Nat)(g:((ops[j]?).bind (·.dst))=some e)(i:lk l e=some (bl (!b)))(hd:Nat.blt d X.N=true)
 (k:Sq X ((d,.any)::l) m md (λr=>wpList X.P ops (Q r) rest)):Sq X l m md (λr=>wpList X.P ops (Q r) (⟨some d,op,ty,pos,after,some (j,b)⟩::rest)):=by
 intro r a w γ hr hi;refine wpList_step λK f=>?_;rw[ol (by cases b<;>simp[Region.wanted,Qqi hi g i])];refine f _ w (k r _ w γ hr ?_);have:=hi.put (d:=d) (v:=undef) (ly:=.any) (by simpa using hd) (by simp[Ly.val]);rw[up_lk] at this;exact this
def LpQ{σ τ:Type}(X:Cx)(L:σ->List (Nat×Ly))(M:σ->List (Nat×Ct))(k:τ->Option R)(Q:R->Exit->Act->World->Prop):Lp σ τ->Exit->Act->World->Prop
 | .go s,e,a,w=>e=.normal/\∃ γ,Inv X (lk (L s)) (lk (M s)) a w γ
 | .out t,e,a,w=>e≠.normal/\∀ r,k t=some r->Q r e a w
theorem sgo{σ τ:Type}{L:σ->List (Nat×Ly)}{M:σ->List (Nat×Ct)}{k:τ->Option R}{s:σ}(h:Ent X l m (L s) (M s)):
 Sq X l m (some (Lp.go s)) (λo=>LpQ X L M k Q o .normal):=by
 intro o a w γ d hi;cases d;exact⟨rfl,h a w γ hi⟩
theorem sout{σ τ:Type}{L:σ->List (Nat×Ly)}{M:σ->List (Nat×Ct)}{k:τ->Option R}{t:τ}{e:Exit}(d:e≠.normal)(h:Sq X l m (k t) (λr=>Q r e)):
 Sq X l m (some (Lp.out t)) (λ(o:Lp σ τ)=>LpQ X L M k Q o e):=by
 intro o a w γ f hi;cases f;exact⟨d,λr hr=>h r a w γ hr hi⟩
theorem Q88{P:Program}{Q:Exit->Act->World->Prop}{c:Code}(I:Nat->Act->World->Prop)
 (round:∀ n a w,I n a w->c.wp P (Exit.then (λg w'=>∃ i,i<n/\I i g w') Q) a w):∀ n a w,I n a w->(Code.loop c).wp P Q a w:=by
 intro s a0 w0 h0 b k cs;have q:∀ n a w,I n a w->∃ e g w',Q e g w'/\Arrives P (lone (b.at a (.code c::.inLoop c::k)) cs w) b k cs e g w':=by
  intro n
  induction n using Nat.strongRecOn with
  | _ n r=>
    intro a w j;obtain⟨e,a₁,w₁,f,d⟩:=round n a w j b (.inLoop c::k) cs;cases e with
    | normal=>
      obtain⟨i,p,j₁⟩:=f;obtain⟨e₂,a₂,w₂,f₂,d₂⟩:=r i p a₁ w₁ j₁;exact⟨e₂,a₂,w₂,f₂,.of_steps (Steps.trans d (.one step_inLoop)) d₂⟩
    | exit id=>exact⟨_,a₁,w₁,f,.pass (x:=.inLoop c) rfl (λ_ _=>.inl oc) d⟩
    | goto l=>exact⟨_,a₁,w₁,f,.pass (x:=.inLoop c) rfl (λ_ _=>.inl oc) d⟩
    | ret=>exact⟨_,a₁,w₁,f,.pass (x:=.inLoop c) rfl (λ_ _=>.inl oc) d⟩
    | panic t=>exact⟨_,a₁,w₁,f,.pass (x:=.inLoop c) rfl (λ_ _=>.inl oc) d⟩
    | outgrown=>exact⟨_,a₁,w₁,f,.pass (x:=.inLoop c) rfl (λ_ _=>.inl oc) d⟩
 obtain⟨e,g,w',f,d⟩:=q s a0 w0 h0;exact⟨e,g,w',f,.of_steps (.one step_loop) d⟩
theorem sloop{σ τ τ0:Type}{body:Code}{f:σ->Option (Lp σ τ)}{n:Nat}{s0:σ}{k:τ->Option R}{G':R->Act->World->Prop}(inj:τ0->τ)
 (L:σ->List (Nat×Ly)) (M:σ->List (Nat×Ct)) (Lo:τ0->List (Nat×Ly)) (Mo:τ0->List (Nat×Ct)) (h0:Ent X l m (L s0) (M s0))
 (i:(∀ t,Sq X (Lo t) (Mo t) (k (inj t)) G')->∀ s,Sq X (L s) (M s) (f s) (λo=>body.wp X.P (LpQ X L M k Q o)))
 (v:∀ t,Sq X (Lo t) (Mo t) (k (inj t)) G') :
 Sq X l m ((loopM f n s0).bind k) (λr=>(Code.loop body).wp X.P (Q r)):=by
 have i:=i v;intro r a w γ hr hi;obtain⟨γ0,p⟩:=h0 a w γ hi;refine Q88 (λn a w=>∃ s γ,((loopM f n s).bind k=some r)/\Inv X (lk (L s)) (lk (M s)) a w γ) ?_ n a w ⟨s0,γ0,hr,p⟩;rintro n a w ⟨s,γ,hr,hi⟩;cases n with
 | zero=>cases hr
 | succ n=>
   cases d:f s with
   | none=>simp[loopM,d] at hr
   | some o=>
     refine Code.wp_mono (λe x w' g=>?_) (i s o a w γ d hi);cases o with
     | go s'=>
       obtain⟨rfl,γ',j⟩:=g;exact⟨n,Nat.lt_succ_self n,s',γ',by simpa [loopM,d] using hr,j⟩
     | out t=>
       obtain⟨u,g⟩:=g;have q:k t=some r:=by simpa [loopM,d] using hr
       have:=g r q;cases e<;>first | exact this | exact absurd rfl u
theorem pnm{y:Code}(h:Sq X l m md (λr=>y.wp X.P (Q r))):Sq X l m md (λr=>Exit.then (y.wp X.P (Q r)) (Q r) .normal):=h
theorem pth{N:R->Act->World->Prop}(h:Sq X l m md (λr=>Q r .ret)):Sq X l m md (λr=>Exit.then (N r) (Q r) .ret):=h
theorem ptx{N:R->Act->World->Prop}{id:Nat}(h:Sq X l m md (λr=>Q r (.exit id))):Sq X l m md (λr=>Exit.then (N r) (Q r) (.exit id)):=h
theorem pbn{id:Nat}(h:Sq X l m md (λr=>Q r .normal)):Sq X l m md (λr=>Exit.inBlock id (Q r) .normal):=h
theorem pbl{id:Nat}(h:Sq X l m md (λr=>Q r .ret)):Sq X l m md (λr=>Exit.inBlock id (Q r) .ret):=h
def jn{σ ρ:Type}(A:(σ->Option ρ)->Option ρ)(k:σ->Option ρ):Option ρ:=A k
def nkey{α:Type}(d:Nat):List (Nat×α)->Bool
 | []=>true
 | (i,_)::l=>!(Nat.beq i d) && nkey d l
theorem Q28{α:Type}{d:Nat}:∀ {l:List (Nat×α)},nkey d l=true->lk l d=none
 | [],_=>rfl
 | (i,_)::l,h=>by simp only[nkey,ud,dp] at h;simp only[lk,h.1,cond_false];exact Q28 h.2
theorem srange{α σ τ:Type}{f:Nat->α->σ->Option (Lp σ τ)}{xs:List α}{s0:σ}{k:Lp σ τ->Option R}
 {id1 id2 e j g p q T1 T2 T3 T4 Z ty2 ty3:Nat}{p1 p2 p3:String}{f1 f2 f3:Array Edge}{B:Code}
 (L:σ->List (Nat×Ly)) (M:σ->List (Nat×Ct))
 (hd:(Nat.blt j X.N && Nat.blt g X.N && Nat.blt q X.N && !(Nat.beq j g) && !(Nat.beq j p) && !(Nat.beq g p) && !(Nat.beq q p) && !(Nat.beq q g))=true)
 (hk:∀ s,(nkey j (L s) && nkey g (L s) && nkey q (L s) && nkey p (L s))=true)
 (h0:Ent X l m ((g,i64 (0:Nat))::(p,i64 xs.length)::L s0) (M s0))
 (y:∀(i:Nat) x s,xs[i]?=some x->Sq X ((g,i64 i)::(p,i64 xs.length)::L s) (M s) (f i x s)
  (λo=>B.wp X.P (LpQ X (λs=>(g,i64 i)::(p,i64 xs.length)::L s) M (λt=>k (.out t)) Q o)))
 (hJ:∀ s,Sq X (L s) (M s) (k (.go s)) (λr=>Q r (.exit e))) :
 Sq X l m ((rangeL f xs 0 s0).bind k) (λr=>(Code.loop (.seq (.region id1 ⟨[⟨some j,.binOp .lss T1 (.tmp g) (.tmp p) T2,Z,p1,f1,none⟩]⟩ false)
  (.seq (.cond (.tmp j) .skip (.exit e)) (.seq B (.region id2 ⟨[⟨some q,.binOp .add T3 (.tmp g) (.const (.int .i64 1)) T4,ty2,p2,f2,none⟩,⟨some g,.move (.tmp q),ty3,p3,f3,none⟩]⟩ false))))).wp X.P (Q r)):=by
 simp only[ud,dp,Nat.blt_eq] at hd;obtain⟨⟨⟨⟨⟨⟨⟨hN1,hN2⟩,hN3⟩,e1⟩,e2⟩,e3⟩,e4⟩,e5⟩:=hd;intro r a w γ hr hi;obtain⟨γ0,hi0⟩:=h0 a w γ hi;refine Q88 (λn a w=>∃ i s γ,n=xs.length - i/\i<=xs.length/\((rangeL f (xs.drop i) i s).bind k=some r)/\Inv X (lk ((g,i64 i)::(p,i64 xs.length)::L s)) (lk (M s)) a w γ) ?_ xs.length a w ⟨0,s0,γ0,rfl,ya _,by simpa using hr,hi0⟩;rintro n a w ⟨i,s,γ,rfl,hile,hr,hi⟩;have E:=hk s;simp only[ud] at E;obtain⟨⟨⟨k1,k2⟩,k3⟩,k4⟩:=E;have W:=OpdF.val hi (x:=.tmp g) (ly:=i64 i) (by simp[OpdF,lk]);have Y:=OpdF.val hi (x:=.tmp p) (ly:=i64 xs.length) (by simp[OpdF,lk,e3]);simp only[i64,Ly.val,cpI] at W Y;refine wp_seq (wp_region_list (wpList_plain rfl λK S=>?_));have U:(execOp a.eval ⟨some j,.binOp .lss T1 (.tmp g) (.tmp p) T2,Z,p1,f1,none⟩).run X.P w=.ok (.value (.bool (decide (i<xs.length)))) w:=by
  simp only[execOp,W.1,Y.1];simp[eqGuard,binOp,Op.intCmp,bind,Sem.bind,pure]
 unfold Oper.wp;rw[U];refine S _ _ ?_;have u:Inv X (lk ((j,bl (decide (i<xs.length)))::(g,i64 i)::(p,i64 xs.length)::L s)) (lk (M s)) (a.put (some j) (.bool (decide (i<xs.length)))) w γ:=by have:=hi.put (d:=j) (v:=.bool (decide (i<xs.length))) (ly:=bl (decide (i<xs.length))) hN1 (by simp[bl,Ly.val,cpB]);rw[up_lk] at this;exact this
 show Code.wp _ _ _ _ _;have C:=OpdF.val u (x:=.tmp j) (ly:=bl (decide (i<xs.length))) (by simp[OpdF,lk]);simp only[bl,Ly.val,cpB] at C;by_cases F:i<xs.length;obtain⟨x,hx⟩:∃ x,xs[i]?=some x:=⟨_,oq F⟩
 have hdrop:xs.drop i=x::xs.drop (i+1):=by rw[xi F];rw[oq F] at hx;simp at hx;rw[hx]
 rw[hdrop] at hr;have hdt:decide (i<xs.length)=true:=by simp[F]
 rw[hdt] at C u |-;refine wp_seq (wp_cond_true C (wp_skip ?_));show Code.wp _ _ _ _ _;cases hf:f i x s with
 | none=>simp[rangeL,hf] at hr
 | some o=>
   have hi2:Inv X (lk ((g,i64 i)::(p,i64 xs.length)::L s)) (lk (M s)) (a.put (some j) (.bool true)) w γ:=
    { u with sts:=λd ly hd=>u.sts d ly (by
     have P:Nat.beq j d=false:=by
      cases y:Nat.beq j d;rfl;have:j=d:=xz y;subst this;have e1':Nat.beq g j=false:=by cases y:Nat.beq g j;rfl;rw[xz y] at e1;simp at e1
      have e2':Nat.beq p j=false:=by cases y:Nat.beq p j;rfl;rw[xz y] at e2;simp at e2
      simp only[lk,e1',e2',cond_false,Q28 k1] at hd;cases hd
     show lk ((j,bl true)::_) d=_
     rw[lk,P];exact hd) }
   refine wp_seq (Code.wp_mono (λe' a' w' hq=>?_) (y i x s hx o _ w γ hf hi2));cases o with
   | out t=>
     obtain⟨P,hq⟩:=hq;have hkt:k (.out t)=some r:=by simpa [rangeL,hf] using hr
     have:=hq r hkt;cases e'<;>first | exact this | exact absurd rfl P
   | go s'=>
     obtain⟨rfl,γ',J⟩:=hq;have hr':(rangeL f (xs.drop (i+1)) (i+1) s').bind k=some r:=by simpa [rangeL,hf] using hr
     have I:=OpdF.val J (x:=.tmp g) (ly:=i64 i) (by simp[OpdF,lk]);have H:=OpdF.val J (x:=.tmp p) (ly:=i64 xs.length) (by simp[OpdF,lk,e3]);simp only[i64,Ly.val,cpI] at I H;have hw:IntKind.i64.wrap ((i:Int)+1)=((i+1:Nat):Int):=by
      have h1:(xs.length:Int)<=9223372036854775807:=by simpa [IntKind.max,IntKind.signed,IntKind.bits] using H.2.2
      rw[IntKind.wrap_i64];omega
     show Code.wp _ _ _ _ _;refine wp_region_list (wpList_plain rfl λK S=>?_);have hrun2:(execOp a'.eval ⟨some q,.binOp .add T3 (.tmp g) (.const (.int .i64 1)) T4,ty2,p2,f2,none⟩).run X.P w'=.ok (.value (.int .i64 ((i+1:Nat):Int))) w':=by simp only[execOp];rw[I.1];show Sem.run X.P _ w'=_;simp[eqGuard,binOp,Op.intArith,bind,Sem.bind,pure,Act.eval,hw]
     unfold Oper.wp;rw[hrun2];refine S _ _ ?_;have A:((i+1:Nat):Int)<=IntKind.i64.max:=by have h1:=H.2.2;omega
     have T:IntKind.i64.min<=((i+1:Nat):Int):=by
      have h1:IntKind.i64.min<=0:=oz
      omega
     have N:=J.put (d:=q) (v:=.int .i64 ((i+1:Nat):Int)) (ly:=i64 ((i+1:Nat):Int)) hN3 ⟨rfl,T,A⟩;rw[up_lk] at N;have V:=OpdF.val N (x:=.tmp q) (ly:=i64 ((i+1:Nat):Int)) (by simp[OpdF,lk]);simp only[i64,Ly.val,cpI] at V;refine wpList_plain rfl λK S=>?_;unfold Oper.wp;have hrun3:(execOp (Act.put a' (some q) (.int .i64 ((i+1:Nat):Int))).eval ⟨some g,.move (.tmp q),ty3,p3,f3,none⟩).run X.P w'=.ok (.value (.int .i64 ((i+1:Nat):Int))) w':=by
      simp only[execOp,V.1];rfl
     rw[hrun3];refine S _ _ ?_;have O:=N.put (d:=g) (v:=.int .i64 ((i+1:Nat):Int)) (ly:=i64 ((i+1:Nat):Int)) hN2 ⟨rfl,T,A⟩;rw[up_lk] at O;have E:=hk s';simp only[ud] at E;obtain⟨⟨⟨k1',k2'⟩,k3'⟩,k4'⟩:=E;refine⟨xs.length - (i+1),om,i+1,s',γ',rfl,om,hr',{ O with sts:=λd ly hd=>O.sts d ly ?_ }⟩;show lk ((g,_)::(q,_)::(g,_)::(p,_)::_) d=some ly;simp only[lk] at hd |-;cases A:Nat.beq g d;simp only[A,cond_false] at hd |-;cases hb2:Nat.beq q d
     simpa using hd
     have:q=d:=xz hb2;subst this;have e4':Nat.beq p q=false:=by cases y:Nat.beq p q;rfl;rw[xz y] at e4;simp at e4
     rw[e4',cond_false,Q28 k3'] at hd;cases hd;simp only[A,cond_true] at hd |-;exact hd
 have:xs.drop i=[]:=jm om;rw[this] at hr;have hdf:decide (i<xs.length)=false:=by simp[F]
 rw[hdf] at C u |-;refine wp_seq (wp_cond_false C (wp_exit ?_));show Q r (.exit e) _ _;refine hJ s r _ w γ (by simpa [rangeL] using hr) { u with sts:=λd ly hd=>u.sts d ly ?_ }
 have nk:∀ t,nkey t (L s)=true->Nat.beq t d=false:=λt ht=>by cases y:Nat.beq t d;rfl;rw[xz y] at ht;rw[Q28 ht] at hd;cases hd
 show lk ((j,_)::(g,_)::(p,_)::_) d=some ly;simp only[lk,nk j k1,nk g k2,nk p k4,cond_false];exact hd
end rules
def i32(x:Int):Ly:=.cell (cpI .i32 x)
def uk(k:IntKind)(x:Nat):Ly:=.cell (cpI k x)
abbrev u8(x:Nat):Ly:=uk .u8 x
abbrev u32(x:Nat):Ly:=uk .u32 x
abbrev u64(x:Nat):Ly:=uk .u64 x
def cpX(v0:Value)(h:v0.oneCell'=true):CP where
 p:=λ_ _ v=>v=v0
 one:=by intro _ _ v d;subst d;exact h
 mono:=λh _ _=>h
def cpS(s:List UInt8):CP where
 p:=λ_ _ v=>v=.string ⟨s.toArray⟩/\s.length<=maxLen
 one:=by intro _ _ v h;obtain⟨rfl,_⟩:=h;rfl
 mono:=λh _ _=>h
def str(s:List UInt8):Ly:=.cell (cpS s)
def cpL(k:Nat)(ls:List Ly):CP where
 p:=λw S v=>(v=.slice none 0 0/\ls=[])\/(∃ b o cap cs,v=.slice (some ⟨b,o,none⟩) ls.length cap/\ls.length<=cap/\cap<=maxLen/\b<w.heap.size/\¬ S b /\
  (∀ j u,cs[j]?=some u->w.cell? ⟨b,o+j,none⟩=some u)/\Ly.holds w S (λ_=>none) ls cs/\∀ ly∈ls,ly.sz=k)\/(ls=[]/\∃ d,v=.slice (some d) 0 0)
 one:=by rintro _ _ v (⟨rfl,_⟩ | ⟨b,o,cap,cs,rfl,_⟩ | ⟨_,d,rfl⟩)<;>rfl
 mono:=by rintro w S v w' S' (⟨rfl,h⟩ | ⟨b,o,cap,cs,rfl,i,n,q,e,r,s,t⟩ | h) hk f;exact .inl ⟨rfl,h⟩;exact .inr (.inl ⟨b,o,cap,cs,rfl,i,n,xw q hk.1,λg=>(f b g).elim e (λh''=>by omega),λj u x=>hk.cell e (r j u x),Ly.holds_mono hk f (Ng.refl _) ls cs s,t⟩);exact .inr (.inr h)
def sli(k:Nat)(ls:List Ly):Ly:=.cell (cpL k ls)
theorem Xo{x}:IF (i64 x):=Qks _
theorem Jl0{x}:IF (i32 x):=Qks _
theorem if_u8{x}:IF (u8 x):=Qks _
theorem X0{x}:IF (u32 x):=Qks _
theorem Jl1{x}:IF (u64 x):=Qks _
theorem if_bl{x}:IF (bl x):=Qks _
theorem Q09{x}:IF (str x):=Qks _
theorem Qfs{k x}:IF (sli k x):=Qks _
section ops
variable {X:Cx}{st:Nat->Option Ly}{mm:Nat->Option Ct}
theorem X4{d op ty pos af ly}(hd:Nat.blt d X.N=true)
 (h:∀ a w γ,Inv X st mm a w γ->∃ v,(execOp a.eval ⟨some d,op,ty,pos,af,none⟩).run X.P w=.ok (.value v) w/\ly.val w (X.S γ mm) γ v) :
 OpOk X st mm ⟨some d,op,ty,pos,af,none⟩ [(d,ly)] []:=by
 intro a w γ K Q hi e;obtain⟨v,hr,f⟩:=h a w γ hi;unfold Oper.wp;rw[hr];exact e _ _ γ (hi.put (by simpa using hd) f)
theorem mv{d x ty pos af ly}(hd:Nat.blt d X.N=true)(e:OpdF st x ly):OpOk X st mm ⟨some d,.move x,ty,pos,af,none⟩ [(d,ly)] []:=
 X4 hd λ_ _ _ hi=>⟨_,rfl,e.val hi⟩
theorem asg{d x ty pos af ly}(hd:Nat.blt d X.N=true)(e:OpdF st x ly):OpOk X st mm ⟨some d,.assign x,ty,pos,af,none⟩ [(d,ly)] []:=
 X4 hd λ_ _ _ hi=>⟨_,rfl,e.val hi⟩
theorem pickT{d c x y ty pos af ly}(hd:Nat.blt d X.N=true)(e:OpdF st c (bl true))(f:OpdF st x ly):OpOk X st mm ⟨some d,.pick c x y,ty,pos,af,none⟩ [(d,ly)] []:=
 X4 hd λ_ _ _ hi=>⟨_,by
  have:=e.val hi;simp only[bl,Ly.val,cpB] at this
  simp only[execOp,this];rfl,f.val hi⟩
theorem pickF{d c x y ty pos af ly}(hd:Nat.blt d X.N=true)(e:OpdF st c (bl false))(f:OpdF st y ly):OpOk X st mm ⟨some d,.pick c x y,ty,pos,af,none⟩ [(d,ly)] []:=
 X4 hd λ_ _ _ hi=>⟨_,by
  have:=e.val hi;simp only[bl,Ly.val,cpB] at this
  simp only[execOp,this];rfl,f.val hi⟩
theorem kB{b}:OpdF st (.const (.bool b)) (bl b):=λ_ _ _=>by simp[bl,Ly.val,cpB]
theorem kI{x:Int}(h:(decide (-9223372036854775808<=x) && decide (x<=9223372036854775807))=true):OpdF st (.const (.int .i64 x)) (i64 x):=λ_ _ _=>by simp only[ud,gz] at h;exact⟨rfl,h.1,h.2⟩
theorem k32{x:Nat}(h:Nat.ble x 4294967295=true):OpdF st (.const (.int .u32 x)) (u32 x):=λ_ _ _=>by have:=uw h;exact⟨rfl,by show(0:Int)<=_;omega,by show(x:Int)<=4294967295;omega⟩
theorem k8{x:Nat}(h:Nat.ble x 255=true):OpdF st (.const (.int .u8 x)) (u8 x):=λ_ _ _=>by have:=uw h;exact⟨rfl,by show(0:Int)<=_;omega,by show(x:Int)<=255;omega⟩
theorem k64{x:Nat}(h:Nat.ble x 18446744073709551615=true):OpdF st (.const (.int .u64 x)) (u64 x):=λ_ _ _=>by have:=uw h;exact⟨rfl,by show(0:Int)<=_;omega,by show(x:Int)<=18446744073709551615;omega⟩
theorem kS{s:List UInt8}(h:Nat.ble s.length 1000000=true):OpdF st (.const (.string ⟨s.toArray⟩)) (str s):=λ_ _ _=>
 ⟨rfl,by have:=uw h;unfold maxLen;omega⟩
theorem Qom{d o T x y k ty pos af i g j}(hd:Nat.blt d X.N=true)(r:OpdF st x i)(s:OpdF st y g)
 (h:∀ w S γ e f,i.val w S γ e->g.val w S γ f->∃ v,(∀ w,(eqGuard o T x y e f).run X.P w=.ok () w)/\(∀ w,(binOp o T e f).run X.P w=.ok v w)/\j.val w S γ v) :
 OpOk X st mm ⟨some d,.binOp o T x y k,ty,pos,af,none⟩ [(d,j)] []:=
 X4 hd λa w γ hi=>by obtain⟨v,n,p,q⟩:=h w _ γ _ _ (r.val hi) (s.val hi);refine⟨v,?_,q⟩;simp only[execOp];simp[n,p]
theorem w64_b(n:Int):IntKind.i64.min<=wrap64 n/\wrap64 n<=IntKind.i64.max:=by
 have d:IntKind.i64.min=-9223372036854775808:=oz
 have e:IntKind.i64.max=9223372036854775807:=oz
 rw[d,e];unfold wrap64;omega
theorem Qqj(n:Int):IntKind.i64.wrap n=wrap64 n:=by rw[IntKind.wrap_i64];simp only[wrap64]
theorem arI{d x y T e ty pos af p q z}{o:BinOp}(k:∀ w,(binOp o T (.int .i64 p) (.int .i64 q)).run X.P w=.ok (.int .i64 (wrap64 z)) w)(n:(o matches .eql | .neq)=false)
 (hd:Nat.blt d X.N=true) (i:OpdF st x (i64 p)) (j:OpdF st y (i64 q)) :
 OpOk X st mm ⟨some d,.binOp o T x y e,ty,pos,af,none⟩ [(d,i64 (wrap64 z))] []:=
 Qom hd i j λw S γ r s f g=>by obtain⟨rfl,_⟩:=f;obtain⟨rfl,_⟩:=g;exact⟨_,λw=>by cases o<;>simp_all [eqGuard],k,rfl,w64_b z⟩
theorem addI{d x y T e ty pos af p q}(hd:Nat.blt d X.N=true)(f:OpdF st x (i64 p))(g:OpdF st y (i64 q)):
 OpOk X st mm ⟨some d,.binOp .add T x y e,ty,pos,af,none⟩ [(d,i64 (wrap64 (p+q)))] []:=arI (λw=>by simp[binOp,Op.intArith,Qqj]) rfl hd f g
theorem subI{d x y T e ty pos af p q}(hd:Nat.blt d X.N=true)(f:OpdF st x (i64 p))(g:OpdF st y (i64 q)):
 OpOk X st mm ⟨some d,.binOp .sub T x y e,ty,pos,af,none⟩ [(d,i64 (wrap64 (p - q)))] []:=arI (λw=>by simp[binOp,Op.intArith,Qqj]) rfl hd f g
theorem mulI{d x y T e ty pos af p q}(hd:Nat.blt d X.N=true)(f:OpdF st x (i64 p))(g:OpdF st y (i64 q)):
 OpOk X st mm ⟨some d,.binOp .mul T x y e,ty,pos,af,none⟩ [(d,i64 (wrap64 (p*q)))] []:=arI (λw=>by simp[binOp,Op.intArith,Qqj]) rfl hd f g
theorem quoI{d x y T e ty pos af p q}(f:(q == 0)=false)(hd:Nat.blt d X.N=true)(g:OpdF st x (i64 p))(i:OpdF st y (i64 q)):
 OpOk X st mm ⟨some d,.binOp .quo T x y e,ty,pos,af,none⟩ [(d,i64 (wrap64 (p.tdiv q)))] []:=
 arI (λw=>by have:q≠0:=by simpa using f
             simp[binOp,Op.intDiv,Qqj,this]) rfl hd g i
theorem remI{d x y T r ty pos af p q}(s:(q == 0)=false)(hd:Nat.blt d X.N=true)(t:OpdF st x (i64 p))(u:OpdF st y (i64 q)):
 OpOk X st mm ⟨some d,.binOp .rem T x y r,ty,pos,af,none⟩ [(d,i64 (p.tmod q))] []:=
 Qom hd t u λw S γ B C e f=>by
  have j:q≠0:=by simpa using s
  obtain⟨rfl,g,i⟩:=e;obtain⟨rfl,k,n⟩:=f;refine⟨_,λw=>by simp[eqGuard],λw=>by simp[binOp,Op.intDiv,j],rfl,?_⟩;have e:IntKind.i64.min=-9223372036854775808:=oz
  have f:IntKind.i64.max=9223372036854775807:=oz
  rw[e] at g k |-;rw[f] at i n |-;have v:(p.tmod q).natAbs=p.natAbs%q.natAbs:=Int.natAbs_tmod p q;have A:p.natAbs%q.natAbs<q.natAbs:=ui _ om;omega
theorem negI{d x T ty pos af p}(hd:Nat.blt d X.N=true)(f:OpdF st x (i64 p)):
 OpOk X st mm ⟨some d,.unOp .neg T x,ty,pos,af,none⟩ [(d,i64 (wrap64 (-p)))] []:=
 X4 hd λa w γ hi=>by obtain⟨e,_⟩:=f.val hi;exact⟨.int .i64 (wrap64 (-p)),by simp only[execOp,e];simp[Op.unary,Op.intArith,Qqj],rfl,w64_b _⟩
theorem notB{d x T ty pos af b}(hd:Nat.blt d X.N=true)(f:OpdF st x (bl b)):
 OpOk X st mm ⟨some d,.unOp .not T x,ty,pos,af,none⟩ [(d,bl (!b))] []:=
 X4 hd λa w γ hi=>by have e:=f.val hi;simp only[bl,Ly.val,cpB] at e;exact⟨.bool (!b),by simp only[execOp,e];simp[Op.unary],by simp[bl,Ly.val,cpB]⟩
theorem cmI{d x y T e ty pos af p q b}{o:BinOp}{k:IntKind}(n:∀ w,(binOp o T (.int k p) (.int k q)).run X.P w=.ok (.bool b) w)
 (hd:Nat.blt d X.N=true) (i:OpdF st x (.cell (cpI k p))) (j:OpdF st y (.cell (cpI k q))) :
 OpOk X st mm ⟨some d,.binOp o T x y e,ty,pos,af,none⟩ [(d,bl b)] []:=
 Qom hd i j λw S γ r s f g=>by obtain⟨rfl,_⟩:=f;obtain⟨rfl,_⟩:=g;exact⟨_,λw=>by cases o<;>simp[eqGuard],n,by simp[bl,Ly.val,cpB]⟩
theorem ltI{d x y T e ty pos af p q}(hd:Nat.blt d X.N=true)(f:OpdF st x (i64 p))(g:OpdF st y (i64 q)):
 OpOk X st mm ⟨some d,.binOp .lss T x y e,ty,pos,af,none⟩ [(d,bl (decide (p<q)))] []:=cmI (λw=>by simp[binOp,Op.intCmp]) hd f g
theorem leI{d x y T e ty pos af p q}(hd:Nat.blt d X.N=true)(f:OpdF st x (i64 p))(g:OpdF st y (i64 q)):
 OpOk X st mm ⟨some d,.binOp .leq T x y e,ty,pos,af,none⟩ [(d,bl (decide (p<=q)))] []:=cmI (λw=>by simp[binOp,Op.intCmp]) hd f g
theorem gtI{d x y T e ty pos af p q}(hd:Nat.blt d X.N=true)(f:OpdF st x (i64 p))(g:OpdF st y (i64 q)):
 OpOk X st mm ⟨some d,.binOp .gtr T x y e,ty,pos,af,none⟩ [(d,bl (decide (q<p)))] []:=cmI (λw=>by simp[binOp,Op.intCmp]) hd f g
theorem geI{d x y T e ty pos af p q}(hd:Nat.blt d X.N=true)(f:OpdF st x (i64 p))(g:OpdF st y (i64 q)):
 OpOk X st mm ⟨some d,.binOp .geq T x y e,ty,pos,af,none⟩ [(d,bl (decide (q<=p)))] []:=cmI (λw=>by simp[binOp,Op.intCmp]) hd f g
theorem eqI{d x y T e ty pos af p q}(hd:Nat.blt d X.N=true)(f:OpdF st x (i64 p))(g:OpdF st y (i64 q)):
 OpOk X st mm ⟨some d,.binOp .eql T x y e,ty,pos,af,none⟩ [(d,bl (decide (p=q)))] []:=cmI (λw=>by simp[binOp,Op.intCmp];rfl) hd f g
theorem neI{d x y T e ty pos af p q}(hd:Nat.blt d X.N=true)(f:OpdF st x (i64 p))(g:OpdF st y (i64 q)):
 OpOk X st mm ⟨some d,.binOp .neq T x y e,ty,pos,af,none⟩ [(d,bl (!decide (p=q)))] []:=cmI (λw=>by simp[binOp,Op.intCmp];rfl) hd f g
theorem ltU{d x y T e ty pos af p q}(k:IntKind)(hd:Nat.blt d X.N=true)(f:OpdF st x (uk k p))(g:OpdF st y (uk k q)):
 OpOk X st mm ⟨some d,.binOp .lss T x y e,ty,pos,af,none⟩ [(d,bl (decide (p<q)))] []:=cmI (k:=k) (p:=p) (q:=q) (λw=>by simp[binOp,Op.intCmp]) hd f g
theorem leU{d x y T e ty pos af p q}(k:IntKind)(hd:Nat.blt d X.N=true)(f:OpdF st x (uk k p))(g:OpdF st y (uk k q)):
 OpOk X st mm ⟨some d,.binOp .leq T x y e,ty,pos,af,none⟩ [(d,bl (decide (p<=q)))] []:=cmI (k:=k) (p:=p) (q:=q) (λw=>by simp[binOp,Op.intCmp]) hd f g
theorem gtU{d x y T e ty pos af p q}(k:IntKind)(hd:Nat.blt d X.N=true)(f:OpdF st x (uk k p))(g:OpdF st y (uk k q)):
 OpOk X st mm ⟨some d,.binOp .gtr T x y e,ty,pos,af,none⟩ [(d,bl (decide (q<p)))] []:=cmI (k:=k) (p:=p) (q:=q) (λw=>by simp[binOp,Op.intCmp]) hd f g
theorem geU{d x y T e ty pos af p q}(k:IntKind)(hd:Nat.blt d X.N=true)(f:OpdF st x (uk k p))(g:OpdF st y (uk k q)):
 OpOk X st mm ⟨some d,.binOp .geq T x y e,ty,pos,af,none⟩ [(d,bl (decide (q<=p)))] []:=cmI (k:=k) (p:=p) (q:=q) (λw=>by simp[binOp,Op.intCmp]) hd f g
theorem eqU{d x y T e ty pos af p q}(k:IntKind)(hd:Nat.blt d X.N=true)(f:OpdF st x (uk k p))(g:OpdF st y (uk k q)):
 OpOk X st mm ⟨some d,.binOp .eql T x y e,ty,pos,af,none⟩ [(d,bl (decide (p=q)))] []:=cmI (k:=k) (p:=p) (q:=q) (λw=>by
  have:((p:Int) == (q:Int))=decide (p=q):=by rw[Bool.eq_iff_iff];simp;omega
  simp[binOp,Op.intCmp,this]) hd f g
theorem neU{d x y T e ty pos af p q}(k:IntKind)(hd:Nat.blt d X.N=true)(f:OpdF st x (uk k p))(g:OpdF st y (uk k q)):
 OpOk X st mm ⟨some d,.binOp .neq T x y e,ty,pos,af,none⟩ [(d,bl (!decide (p=q)))] []:=cmI (k:=k) (p:=p) (q:=q) (λw=>by
  have:((p:Int) != (q:Int))=!decide (p=q):=by rw[Bool.eq_iff_iff];simp;omega
  simp[binOp,Op.intCmp,this]) hd f g
structure UK(k:IntKind)(N:Nat):Prop where
 wrap:∀ n:Int,k.wrap n=n%N
 min:k.min=0
 max:k.max=(N:Int) - 1
 bits:2 ^ k.bits=N
 pos:0<N
theorem uk8:UK .u8 256:=⟨λn=>IntKind.wrap_u8 n,oz,oz,oz,oz⟩
theorem uk32:UK .u32 4294967296:=⟨λn=>IntKind.wrap_u32 n,oz,oz,oz,oz⟩
theorem uk64:UK .u64 18446744073709551616:=⟨λn=>IntKind.wrap_u64 n,oz,oz,oz,oz⟩
theorem uk_b{k N}(h:UK k N)(x:Nat)(d:x<N):k.min<=(x:Int)/\(x:Int)<=k.max:=by rw[h.min,h.max];omega
theorem arU{d x y T f ty pos af p q}{z:Nat}{o:BinOp}{k N}(e:UK k N)(u:p<N->q<N->z<N/\∀ w,(binOp o T (.int k p) (.int k q)).run X.P w=.ok (.int k z) w)(v:(o matches .eql | .neq)=false)
 (hd:Nat.blt d X.N=true) (s:OpdF st x (uk k p)) (t:OpdF st y (uk k q)) :
 OpOk X st mm ⟨some d,.binOp o T x y f,ty,pos,af,none⟩ [(d,uk k z)] []:=
 Qom hd s t λw S γ A B i j=>by obtain⟨rfl,_,a2⟩:=i;obtain⟨rfl,_,g⟩:=j;rw[e.max] at a2 g;obtain⟨n,r⟩:=u om om;exact⟨_,λw=>by cases o<;>simp_all [eqGuard],r,rfl,uk_b e z n⟩
theorem addU{d x y T f ty pos af p q k N}(e:UK k N)(hd:Nat.blt d X.N=true)(g:OpdF st x (uk k p))(i:OpdF st y (uk k q)):
 OpOk X st mm ⟨some d,.binOp .add T x y f,ty,pos,af,none⟩ [(d,uk k ((p+q)%N))] []:=
 arU e (λ_ _=>⟨ui _ e.pos,λw=>by simp[binOp,Op.intArith,e.wrap]⟩) rfl hd g i
theorem subU{d x y T f ty pos af p q k N}(e:UK k N)(hd:Nat.blt d X.N=true)(g:OpdF st x (uk k p))(i:OpdF st y (uk k q)):
 OpOk X st mm ⟨some d,.binOp .sub T x y f,ty,pos,af,none⟩ [(d,uk k ((p+N - q)%N))] []:=
 arU e (λhp j=>⟨ui _ e.pos,λw=>by
  have:((p:Int) - q)%(N:Int)=((p+N - q:Nat):Int)%(N:Int):=by rw[Int.ofNat_sub om,Int.natCast_add,show(p:Int)+N - q=p - q+N by omega,Int.add_emod_right]
  simp[binOp,Op.intArith,e.wrap,this]⟩) rfl hd g i
theorem mulU{d x y T f ty pos af p q k N}(e:UK k N)(hd:Nat.blt d X.N=true)(g:OpdF st x (uk k p))(i:OpdF st y (uk k q)):
 OpOk X st mm ⟨some d,.binOp .mul T x y f,ty,pos,af,none⟩ [(d,uk k ((p*q)%N))] []:=
 arU e (λ_ _=>⟨ui _ e.pos,λw=>by simp[binOp,Op.intArith,e.wrap]⟩) rfl hd g i
theorem quoU{d x y T f ty pos af p q k N}(e:UK k N)(j:Nat.beq q 0=false)(hd:Nat.blt d X.N=true)(n:OpdF st x (uk k p))(r:OpdF st y (uk k q)):
 OpOk X st mm ⟨some d,.binOp .quo T x y f,ty,pos,af,none⟩ [(d,uk k (p / q))] []:=
 arU e (λhp _=>⟨ye (gf _ _) hp,λw=>by
  have h0:q≠0:=by rintro rfl;simp at j
  have g:((p / q:Nat):Int)%(N:Int)=((p / q:Nat):Int):=by
   rw[Int.emod_eq_of_lt (gg _)]
   exact_mod_cast ye (gf _ _) hp
  have i:(p:Int).tdiv q=((p / q:Nat):Int):=rfl;simp[binOp,Op.intDiv,e.wrap,h0,i]
  simpa using g⟩) rfl hd n r
theorem remU{d x y T e ty pos af p q k N}(i:UK k N)(g:Nat.beq q 0=false)(hd:Nat.blt d X.N=true)(j:OpdF st x (uk k p))(n:OpdF st y (uk k q)):
 OpOk X st mm ⟨some d,.binOp .rem T x y e,ty,pos,af,none⟩ [(d,uk k (p%q))] []:=
 arU i (λhp _=>⟨ye (Nat.mod_le _ _) hp,λw=>by
  have h0:q≠0:=by rintro rfl;simp at g
  have f:(p:Int).tmod q=((p%q:Nat):Int):=rfl
  simp[binOp,Op.intDiv,h0,f]⟩) rfl hd j n
theorem orU{d x y T j ty pos af p q k N}(f:UK k N)(hd:Nat.blt d X.N=true)(r:OpdF st x (uk k p))(s:OpdF st y (uk k q)):
 OpOk X st mm ⟨some d,.binOp .or T x y j,ty,pos,af,none⟩ [(d,uk k (p ||| q))] []:=
 arU f (λhp g=>by
  have e:p ||| q<N:=by rw[<-f.bits] at hp g |-;exact Nat.or_lt_two_pow hp g
  refine⟨e,λw=>?_⟩
  have i:∀ n:Nat,n<N->n%2 ^ k.bits=n:=λn hn=>by rw[f.bits];exact xv hn
  have:((p ||| q:Nat):Int)%(N:Int)=((p ||| q:Nat):Int):=Int.emod_eq_of_lt (gg _) (by exact_mod_cast e);simp only[binOp,Op.intBits];simp[BitVec.toNat_or,f.wrap,i p hp,i q g]
  exact this) rfl hd r s
theorem andU{d x y T i ty pos af p q k N}(f:UK k N)(hd:Nat.blt d X.N=true)(r:OpdF st x (uk k p))(s:OpdF st y (uk k q)):
 OpOk X st mm ⟨some d,.binOp .and T x y i,ty,pos,af,none⟩ [(d,uk k (p &&& q))] []:=
 arU f (λhp j=>by
  have e:p &&& q<N:=ye Nat.and_le_left hp;refine⟨e,λw=>?_⟩
  have g:∀ n:Nat,n<N->n%2 ^ k.bits=n:=λn hn=>by rw[f.bits];exact xv hn
  have:((p &&& q:Nat):Int)%(N:Int)=((p &&& q:Nat):Int):=Int.emod_eq_of_lt (gg _) (by exact_mod_cast e);simp only[binOp,Op.intBits];simp[BitVec.toNat_and,f.wrap,g p hp,g q j]
  exact this) rfl hd r s
end ops
def getI{α:Type}(l:List α)(i:Int):Option α:=if 0<=i then l[i.toNat]? else none
def getS(l:List UInt8)(i:Int):Option Nat:=if 0<=i then (l[i.toNat]?).map (·.toNat) else none
def grd(b:Bool):Option Unit:=bif b then some () else none
def sub{α:Type}(l:List α)(lo hi:Int):Option (List α):=if 0<=lo/\lo<=hi/\hi<=l.length then some ((l.take hi.toNat).drop lo.toNat) else none
def appM{α:Type}(b:Nat)(l r:List α):Option (List α):=if (l.length+r.length)*b<=140737488355328/\l.length+r.length<=9223372036854775807 then some (l++r) else none
def mkM{α:Type}(b:Nat)(z:α)(n:Int):Option (List α):=if 0<=n/\n*b<=140737488355328/\n<=9223372036854775807 then some (List.replicate n.toNat z) else none
def catS(x y:List UInt8):Option (List UInt8):=if x.length+y.length<=9223372036854775807 then some (x++y) else none
theorem Qfz{b:Bool}{u:Unit}(h:grd b=some u):b=true:=by cases b<;>simp[grd] at h;rfl
section ops
variable {X:Cx}{st:Nat->Option Ly}{mm:Nat->Option Ct}
theorem cv_ok{d x S T ty pos af f g ds k}(i:X.P.underlying S=some ds)(j:X.P.underlying T=some (.int k))(hd:Nat.blt d X.N=true)(r:OpdF st x f)
 (h:∀ w S γ v,f.val w S γ v->∃ e n,v=.int e n/\g.val w S γ (.int k (k.wrap n))) :
 OpOk X st mm ⟨some d,.convert S T x,ty,pos,af,none⟩ [(d,g)] []:=
 X4 hd λa w γ hi=>by obtain⟨e,n,q,p⟩:=h w _ γ _ (r.val hi);refine⟨_,?_,p⟩;simp only[execOp,q];simp[convert,underlying,i,j,Conv.intToInt]
theorem cvU{d x S T ty pos af ds k n N p}(e:UK k N)(f:X.P.underlying S=some ds)(g:X.P.underlying T=some (.int k))(hd:Nat.blt d X.N=true)(j:OpdF st x (uk n p)):
 OpOk X st mm ⟨some d,.convert S T x,ty,pos,af,none⟩ [(d,uk k (p%N))] []:=
 cv_ok f g hd j λw S γ v i=>by obtain⟨rfl,_⟩:=i;refine⟨_,_,rfl,?_,uk_b e _ (ui _ e.pos)⟩;rw[e.wrap];simp
theorem cvUw{d x S T ty pos af ds k g N N' p}(f:UK k N)(e:UK g N')(j:Nat.ble N' N=true)(n:X.P.underlying S=some ds)(q:X.P.underlying T=some (.int k))(hd:Nat.blt d X.N=true)(s:OpdF st x (uk g p)):
 OpOk X st mm ⟨some d,.convert S T x,ty,pos,af,none⟩ [(d,uk k p)] []:=
 cv_ok n q hd s λw S γ v r=>by
  obtain⟨rfl,_,i⟩:=r;rw[e.max] at i;have:=uw j;have hp:p<N:=om
  refine⟨_,_,rfl,?_,uk_b f _ hp⟩;rw[f.wrap,Int.emod_eq_of_lt (gg _) (by exact_mod_cast hp)]
theorem cvIU{d x S T ty pos af ds k n N}{p:Int}(e:UK k N)(f:X.P.underlying S=some ds)(g:X.P.underlying T=some (.int k))(hd:Nat.blt d X.N=true)(j:OpdF st x (.cell (cpI n p))):
 OpOk X st mm ⟨some d,.convert S T x,ty,pos,af,none⟩ [(d,uk k (p%(N:Int)).toNat)] []:=
 cv_ok f g hd j λw S γ v i=>by obtain⟨rfl,_⟩:=i;have r:=e.pos;have h0:=Int.emod_nonneg p (b:=(N:Int)) om;have q:=Int.emod_lt_of_pos p (b:=(N:Int)) om;refine⟨_,_,rfl,?_,uk_b e _ om⟩;rw[e.wrap,Int.toNat_of_nonneg h0]
theorem cvUI{d x S T ty pos af ds j p}(e:X.P.underlying S=some ds)(f:X.P.underlying T=some (.int .i64))(hd:Nat.blt d X.N=true)(i:OpdF st x (uk j p)):
 OpOk X st mm ⟨some d,.convert S T x,ty,pos,af,none⟩ [(d,i64 (wrap64 p))] []:=
 cv_ok e f hd i λw S γ v g=>by obtain⟨rfl,_⟩:=g;exact⟨_,_,rfl,by rw[Qqj],w64_b _⟩
theorem cvUIw{d x S T ty pos af ds i N' p}(f:UK i N')(k:Nat.ble N' 9223372036854775808=true)(n:X.P.underlying S=some ds)(q:X.P.underlying T=some (.int .i64))(hd:Nat.blt d X.N=true)(s:OpdF st x (uk i p)):
 OpOk X st mm ⟨some d,.convert S T x,ty,pos,af,none⟩ [(d,i64 p)] []:=
 cv_ok n q hd s λw S γ v r=>by
  obtain⟨rfl,_,j⟩:=r;rw[f.max] at j;have:=uw k;have e:wrap64 (p:Int)=p:=by unfold wrap64;omega
  have g:=w64_b (p:Int);rw[e] at g;exact⟨_,_,rfl,by rw[Qqj,e],g⟩
theorem shlU{d x y T f ty pos af p k N s}{q:Int}(e:UK k N)(j:(decide (0<=q))=true)(hd:Nat.blt d X.N=true)(n:OpdF st x (uk k p))(r:OpdF st y (.cell (cpI s q))):
 OpOk X st mm ⟨some d,.binOp .shl T x y f,ty,pos,af,none⟩ [(d,uk k ((p*2 ^ (min q.toNat k.bits))%N))] []:=
 Qom hd n r λw S γ t u g i=>by
  obtain⟨rfl,_⟩:=g;obtain⟨rfl,_⟩:=i;have:¬ q<0:=by have:=ue j;omega
  exact⟨_,λw=>by simp[eqGuard],λw=>by simp[binOp,Op.shift,this,e.wrap];rfl,oc,uk_b e _ (ui _ e.pos)⟩
theorem shrU{d x y T g ty pos af p k N t}{q:Int}(f:UK k N)(n:(decide (0<=q))=true)(hd:Nat.blt d X.N=true)(r:OpdF st x (uk k p))(s:OpdF st y (.cell (cpI t q))):
 OpOk X st mm ⟨some d,.binOp .shr T x y g,ty,pos,af,none⟩ [(d,uk k (p / 2 ^ (min q.toNat k.bits)))] []:=
 Qom hd r s λw S γ u v i j=>by
  obtain⟨rfl,a1,a2⟩:=i;obtain⟨rfl,_⟩:=j;rw[f.max] at a2;have:¬ q<0:=by have:=ue n;omega
  have e:(p:Int).fdiv (2 ^ (min q.toNat k.bits))=((p / 2 ^ (min q.toNat k.bits):Nat):Int):=by rw[Int.fdiv_eq_ediv_of_nonneg _ (by exact_mod_cast ya _)];norm_cast
  refine⟨_,λw=>by simp[eqGuard],λw=>by simp only[binOp,Op.shift,ol this,e];rfl,rfl,uk_b f _ (ye (gf _ _) om)⟩
theorem Q5q{d x T ty pos af e n}(hd:Nat.blt d X.N=true)(j:OpdF st x e)
 (h:∀ a w γ,Inv X st mm a w γ->∀ v,e.val w (X.S γ mm) γ v->(Builtin.len_ #[T] ty #[v]).run X.P w=.ok (.int .i64 n) w/\IntKind.i64.min<=n/\n<=IntKind.i64.max) :
 OpOk X st mm ⟨some d,.call { callee:=.builtin .len,args:=#[x],argTypes:=#[T] },ty,pos,af,none⟩ [(d,i64 n)] []:=
 X4 hd λa w γ hi=>by obtain⟨f,g,i⟩:=h a w γ hi _ (j.val hi);refine⟨_,?_,rfl,g,i⟩;simp only[execOp,resolve];simp[invoke,builtin,f]
theorem len_b{n:Nat}(h:n<=maxLen):IntKind.i64.min<=(n:Int)/\(n:Int)<=IntKind.i64.max:=by
 have d:IntKind.i64.min=-9223372036854775808:=oz
 have e:IntKind.i64.max=9223372036854775807:=oz
 unfold maxLen at h;rw[d,e];omega
theorem lenL{d x T ty pos af E k}{α:Type}{f:α->Ly}{xs:List α}(e:X.P.underlying T=some (.slice E))(hd:Nat.blt d X.N=true)(j:OpdF st x (sli k (xs.map f))):
 OpOk X st mm ⟨some d,.call { callee:=.builtin .len,args:=#[x],argTypes:=#[T] },ty,pos,af,none⟩ [(d,i64 xs.length)] []:=
 Q5q hd j λa w γ hi v i=>by
  rcases i with ⟨rfl,hn⟩ | ⟨b,o,cap,cs,rfl,g,p,_⟩ | ⟨hn,n,rfl⟩;have:xs=[]:=by simpa using hn
  subst this;exact⟨by unfold Builtin.len_;simp[underlying,e,goInt],len_b (ya _)⟩;simp only[ou] at g |-;exact⟨by unfold Builtin.len_;simp[underlying,e,goInt],len_b om⟩;have:xs=[]:=by simpa using hn
  subst this;exact⟨by unfold Builtin.len_;simp[underlying,e,goInt],len_b (ya _)⟩
theorem lenO{d x T ty pos af E E' k id}{α:Type}{f:α->Ly}{xs:List α}(j:X.P.underlying T=some (.slice E))(r:mm id=some (.sl E' k (xs.map f)))(hd:Nat.blt d X.N=true)(t:OpdF st x (.own id)):
 OpOk X st mm ⟨some d,.call { callee:=.builtin .len,args:=#[x],argTypes:=#[T] },ty,pos,af,none⟩ [(d,i64 xs.length)] []:=
 Q5q hd t λa w γ hi v s=>by
  obtain⟨u,cs,e,n,_⟩:=hi.cts id _ r;obtain⟨i,_⟩:=s;rw[i] at e;simp at e;subst e;obtain⟨_,p⟩:=n;rcases p with ⟨rfl,hn⟩ | ⟨g,cap,cur,rfl,_,_,q,y,_⟩;have:xs=[]:=by simpa using hn
  subst this;exact⟨by unfold Builtin.len_;simp[underlying,j,goInt],len_b (ya _)⟩;simp only[ou] at q |-;exact⟨by unfold Builtin.len_;simp[underlying,j,goInt],len_b om⟩
theorem lenS{d x T ty pos af s}(g:X.P.underlying T=some .string)(hd:Nat.blt d X.N=true)(j:OpdF st x (str s)):
 OpOk X st mm ⟨some d,.call { callee:=.builtin .len,args:=#[x],argTypes:=#[T] },ty,pos,af,none⟩ [(d,i64 s.length)] []:=
 Q5q hd j λa w γ hi v i=>by obtain⟨rfl,f⟩:=i;have e:(ByteArray.mk s.toArray).size=s.length:=rfl;exact⟨by unfold Builtin.len_;simp[underlying,g,goInt,e],len_b f⟩
theorem maxI{d x y ty pos af f g p q}(hd:Nat.blt d X.N=true)(j:OpdF st x (i64 p))(k:OpdF st y (i64 q)):
 OpOk X st mm ⟨some d,.call { callee:=.builtin .max,args:=#[x,y],argTypes:=#[f,g] },ty,pos,af,none⟩ [(d,i64 (max p q))] []:=
 X4 hd λa w γ hi=>by
  obtain⟨i,r,s⟩:=j.val hi;obtain⟨g1,n,g3⟩:=k.val hi;have e:max p q=if q > p then q else p:=by split<;>omega
  refine⟨.int .i64 (max p q),?_,rfl,om,om⟩;simp only[execOp,resolve];simp[invoke,builtin,i,g1,Builtin.max_,Builtin.max2,e]
theorem minI{d x y ty pos af f g p q}(hd:Nat.blt d X.N=true)(j:OpdF st x (i64 p))(k:OpdF st y (i64 q)):
 OpOk X st mm ⟨some d,.call { callee:=.builtin .min,args:=#[x,y],argTypes:=#[f,g] },ty,pos,af,none⟩ [(d,i64 (min p q))] []:=
 X4 hd λa w γ hi=>by
  obtain⟨i,r,s⟩:=j.val hi;obtain⟨g1,n,g3⟩:=k.val hi;have e:min p q=if q<p then q else p:=by split<;>omega
  refine⟨.int .i64 (min p q),?_,rfl,om,om⟩;simp only[execOp,resolve];simp[invoke,builtin,i,g1,Builtin.min_,Builtin.min2,e]
theorem ixS{t:IntKind}{d x i T ty pos af s p y}(q:X.P.underlying T=some .string)(e:getS s p=some y)(hd:Nat.blt d X.N=true)(r:OpdF st x (str s))(hi:OpdF st i (.cell (cpI t p))):
 OpOk X st mm ⟨some d,.index T x i,ty,pos,af,none⟩ [(d,uk .u8 y)] []:=
 X4 hd λa w γ k=>by
  obtain⟨n,u⟩:=r.val k;obtain⟨g1,_⟩:=hi.val k;unfold getS at e;split at e;rename_i h0;simp only[Option.map_eq_some_iff] at e;obtain⟨c,g,rfl⟩:=e;refine⟨.int .u8 c.toNat,?_,rfl,uk_b uk8 _ c.toNat_lt⟩;simp only[execOp,n,g1];have f:p.toNat<s.length:=by rcases xo p.toNat s.length with h | h;exact h;simp[xa h] at g
  have j:(ByteArray.mk s.toArray)[p.toNat]?=some c:=by
   rw[getElem?_pos _ _ (by simpa [ByteArray.size] using f)];have:s[p.toNat]=c:=by rw[oq f] at g;simpa using g
   rw[<-this];rfl
  simp[Instr.index,asIntOf,underlying,q,h0,j];cases e
theorem bin_S{d o T x y g ty pos af s t f}(hd:Nat.blt d X.N=true)(p:OpdF st x (str s))(q:OpdF st y (str t))
 (h:s.length<=maxLen->t.length<=maxLen->∃ v,(∀ w,(Op.stringOp o ⟨s.toArray⟩ ⟨t.toArray⟩).run X.P w=.ok v w)/\∀ w S γ,f.val w S γ v) (k:∀(_ _:IntKind×Int),(o matches .shl | .shr)=false) :
 OpOk X st mm ⟨some d,.binOp o T x y g,ty,pos,af,none⟩ [(d,f)] []:=
 Qom hd p q λw S γ r u i j=>by
  obtain⟨rfl,a1⟩:=i;obtain⟨rfl,a2⟩:=j;obtain⟨v,hr,n⟩:=h a1 a2;have e:=k (.i64,0) (.i64,0);refine⟨v,λw=>by cases o<;>simp[eqGuard],λw=>?_,n _ _ _⟩;have:binOp o T (.string ⟨s.toArray⟩) (.string ⟨t.toArray⟩)=Op.stringOp o ⟨s.toArray⟩ ⟨t.toArray⟩:=by cases o<;>simp at e<;>rfl
  rw[this];exact hr w
theorem Q89(s:List UInt8):(ByteArray.mk s.toArray).toList=s:=by rw[ByteArray.toList_eq]
theorem Jgk(s t:List UInt8):(s == t)=decide (s=t):=by rw[Bool.eq_iff_iff];simp
theorem catStr{d x y T T2 ty pos af s t z}(hz:catS s t=some z)(hd:Nat.blt d X.N=true)(hx:OpdF st x (str s))(hy:OpdF st y (str t)):
 OpOk X st mm ⟨some d,.binOp .add T x y T2,ty,pos,af,none⟩ [(d,str z)] []:=
 bin_S hd hx hy (λh1 h2=>by
  unfold catS at hz;split at hz;rename_i hle;cases hz;refine⟨_,λw=>?_,λw S γ=>⟨rfl,by unfold maxLen;simp;omega⟩⟩;have:¬(((s.length+t.length:Nat):Int) > IntKind.i64.max):=by
   have h2:IntKind.i64.max=9223372036854775807:=oz
   rw[h2];omega
  have e:Op.stringOp .add ⟨s.toArray⟩ ⟨t.toArray⟩=if (((ByteArray.mk s.toArray).size+(ByteArray.mk t.toArray).size:Nat):Int) > IntKind.i64.max then unsupported (.resourceLimit "string concatenation: a sum of the lengths that is no int") else pure (.string (⟨s.toArray⟩++⟨t.toArray⟩)):=rfl
  have e2:(ByteArray.mk s.toArray)++(ByteArray.mk t.toArray)=⟨(s++t).toArray⟩:=by apply ByteArray.ext;simp[ByteArray.data_append]
  rw[e,ol (by simpa [ByteArray.size] using this),e2];rfl
  cases hz) (λ_ _=>rfl)
theorem eqS{d x y T e ty pos af s t}(hd:Nat.blt d X.N=true)(f:OpdF st x (str s))(g:OpdF st y (str t)):
 OpOk X st mm ⟨some d,.binOp .eql T x y e,ty,pos,af,none⟩ [(d,bl (decide (s=t)))] []:=
 bin_S hd f g (λi j=>⟨_,λw=>by simp only[Op.stringOp,Q89];rfl,λw S γ=>by rw[Jgk];simp[bl,Ly.val,cpB]⟩) (λ_ _=>rfl)
theorem neS{d x y T e ty pos af s t}(hd:Nat.blt d X.N=true)(f:OpdF st x (str s))(g:OpdF st y (str t)):
 OpOk X st mm ⟨some d,.binOp .neq T x y e,ty,pos,af,none⟩ [(d,bl (!decide (s=t)))] []:=
 bin_S hd f g (λi j=>⟨_,λw=>by simp only[Op.stringOp,Q89];rfl,λw S γ=>by rw[Jgk];simp[bl,Ly.val,cpB]⟩) (λ_ _=>rfl)
end ops
def TyI(P:Program)(E k b:Nat)(z:Value):Prop:=∃ i,P.info? E=some i/\i.zero=some z/\i.size=k/\i.bytes=b
theorem tyI{P:Program}{E k b:Nat}{z:Value}(h:(P.info? E).map (λi=>(i.zero,i.size,i.bytes))=some (some z,k,b)):TyI P E k b z:=by
 cases hi:P.info? E with
 | none=>rw[hi] at h;cases h
 | some i=>rw[hi] at h;simp at h;exact⟨i,hi,h.1,h.2.1,h.2.2⟩
def agB:TypeDesc->Bool
 | .struct _=>true
 | .array _ _=>true
 | _=>false
def Shp(P:Program)(T:Nat)(e:Bool)(k:Nat):Prop:=∃ d,P.underlying T=some d/\agB d=e/\∃ i,P.info? T=some i/\i.size=k
theorem shp{P:Program}{T:Nat}{e:Bool}{k b:Nat}{d:TypeDesc}{z:Value}(hd:P.underlying T=some d)(j:agB d=e)(hi:TyI P T k b z):Shp P T e k:=by obtain⟨i,f,n,g,p⟩:=hi;exact⟨d,hd,j,i,f,g⟩
theorem Qpu{P T e k}(h:Shp P T e k)(w:World):(isAgg T).run P w=.ok e w:=by obtain⟨d,f,g,_⟩:=h;subst g;cases d<;>simp[isAgg,underlying,f,agB]
theorem Qqk{P T e k}(h:Shp P T e k)(w:World):(sizeOf T).run P w=.ok k w:=by obtain⟨d,j,n,i,f,g⟩:=h;subst g;simp[sizeOf,typeInfo,f]
theorem Xk{P T k b z}(h:TyI P T k b z)(w:World):(sizeOf T).run P w=.ok k w:=by obtain⟨i,d,f,e,g⟩:=h;subst e;simp[sizeOf,typeInfo,d]
theorem Qgz{P T k b z}(h:TyI P T k b z)(w:World):(zeroValue T).run P w=.ok z w:=by obtain⟨i,d,e,_⟩:=h;simp[zeroValue,typeInfo,d,e]
theorem add0(b o n:Nat):Addr.add ⟨b,o,none⟩ n=⟨b,o+n,none⟩:=by unfold Addr.add;split<;>simp_all
theorem Qkk{P:Program}{b o:Nat}{w:World}:∀(us:List Value) (i:Nat) (d:Array Value),(∀ j u,us[j]?=some u->w.cell? ⟨b,o+i+j,none⟩=some u) ->
 (loadCellsFrom ⟨b,o,none⟩ i us.length d).run P w=.ok (d++us.toArray) w
 | [],i,d,_=>by simp[loadCellsFrom]
 | u::us,i,d,h=>by have h0:=h 0 u rfl;simp only[xq] at h0;have f:=Qkk (P:=P) us (i+1) (d.push u) (λj v e=>by have:=h (j+1) v e;rw[show o+(i+1)+j=o+i+(j+1) by omega];exact this);simp only[xm,loadCellsFrom,Sem.run_bind,run_load,add0,h0,Result.andThen_ok,f];simp
theorem Qsn{P:Program}{T:Nat}{e:Bool}{k b o:Nat}{w:World}{S γ}{ly:Ly}{us:List Value}(h:Shp P T e k)(hn:ly.isN=e)(p:ly.sz=k)
 (f:∀ j u,us[j]?=some u->w.cell? ⟨b,o+j,none⟩=some u) (d:ly.hold w S γ us):∃ v,(loadVar T ⟨b,o,none⟩).run P w=.ok v w/\ly.val w S γ v:=by
 have g:=Ly.hold_sz ly us d;unfold loadVar;cases e with
 | true=>
   refine⟨.agg us.toArray,?_,?_⟩;have:=Qkk (P:=P) us 0 #[] (λj u n=>by simpa using f j u n);rw[g,p] at this;simp[Qpu h,Qqk h,loadCells,this];cases ly<;>simp[Ly.isN] at hn;simp only[Ly.val,Ly.hold] at d |-;exact⟨_,rfl,d⟩
 | false=>
   have i:us.length=1:=by cases ly<;>simp[Ly.isN] at hn<;>simpa [Ly.sz] using g
   obtain⟨u,rfl⟩:∃ u,us=[u]:=by
    match us,i with
    | [u],_=>exact⟨u,rfl⟩
   refine⟨u,?_,Ly.val_of_hold1 hn d⟩;have:=f 0 u rfl;simp[Qpu h,show w.cell? ⟨b,o,none⟩=some u by simpa using this]
def splice(l:List Value)(p:Nat)(vs:List Value):List Value:=l.take p++vs++l.drop (p+vs.length)
theorem X5{w:World}{b:Nat}{cur:Array Value}{E:Nat}{fz:Nat×Nat}(h:w.heap[b]?=some (.cells cur E fz))(o:Nat):w.cell? ⟨b,o,none⟩=cur[o]?:=by simp[World.cell?,h]
theorem Qr0{P:Program}{b o E:Nat}:∀(vs:List Value) (i:Nat) (w:World) (cur:Array Value),w.heap[b]?=some (.cells cur E (0,0))->o+i+vs.length<=cur.size->(∀ u∈vs,u.oneCell'=true) ->
 ∃ w' d,(storeCells ⟨b,o,none⟩ vs i).run P w=.ok () w'/\w'.heap[b]?=some (.cells d E (0,0))/\d.toList=splice cur.toList (o+i) vs/\Kp (λx=>x=b) w w'/\w'.os=w.os/\w'.tape=w.tape/\w'.output=w.output
 | [],i,w,cur,h,_,_=>⟨w,cur,by simp[storeCells],h,by simp[splice],Kp.refl _ _,rfl,rfl,rfl⟩
 | v::vs,i,w,cur,h,B,j=>by
   simp only[xm] at B;have H:b<w.heap.size:=by rcases xo b w.heap.size with f | f;exact f;simp[uc f] at h
   have e:o+i<cur.size:=om
   have hcell:w.cell? ⟨b,o+i,none⟩=some cur[o+i]:=by rw[X5 h,uj e]
   have g:w.frozen? ⟨b,o+i,none⟩=false:=by simp[World.frozen?,h]
   have F:v.oneCell'=true:=j v uv;have A:(w.setCell ⟨b,o+i,none⟩ v).heap[b]?=some (.cells (cur.setIfInBounds (o+i) v) E (0,0)):=by simp only[World.setCell,Array.getElem?_modify,oo,h];simp
   obtain⟨w',d,n,p,q,r,s,t,y⟩:=Qr0 (P:=P) (b:=b) (o:=o) (E:=E) vs (i+1) (w.setCell ⟨b,o+i,none⟩ v) (cur.setIfInBounds (o+i) v) A oh (λu C=>j u (uq _ C));refine⟨w',d,?_,p,?_,?_,s,t,y⟩;simp only[storeCells,Sem.run_bind,add0];rw[run_store P w _ v _ F,hcell];simp[g,n];rw[q];simp only[splice,Array.toList_setIfInBounds,xm];rw[show o+(i+1)=o+i+1 by omega,jh (by simpa using e)];simp only[List.getElem_set_self,xl,yt,uf];rw[List.take_set_of_le om];congr 2;rw[List.drop_set_of_lt om];congr 2;omega;refine Kp.trans (S':=λx=>x=b) ⟨by simp[World.setCell],λx k hn=>?_⟩ r (λx k=>.inl k);exact Below.heap_setCell _ _ _ _ (by simpa using hn)
def Ly.go:List Nat->Ly->Option (Ly×Nat)
 | [],ly=>some (ly,0)
 | i::p,.agg l=>match l[i]? with
   | some x=>match Ly.go p x with
     | some (y,c)=>some (y,Ly.szs (l.take i)+c)
     | none=>none
   | none=>none
 | _::_,_=>none
def Ly.pu(n:Ly):List Nat->Ly->Ly
 | [],_=>n
 | i::p,.agg l=>match l[i]? with
   | some x=>.agg (l.set i (Ly.pu n p x))
   | none=>.agg l
 | _::_,ly=>ly
theorem Qso{w S γ}:∀ {l:List Ly}{cs:List Value}{i:Nat}{x:Ly},Ly.holds w S γ l cs->l[i]?=some x ->
 ∃ a u b,cs=a++u++b/\a.length=Ly.szs (l.take i)/\Ly.hold w S γ x u/\∀(n:Ly) (d:List Value),Ly.hold w S γ n d->Ly.holds w S γ (l.set i n) (a++d++b)
 | [],cs,i,x,_,e=>by simp at e
 | ly::l,cs,0,x,h,e=>by obtain⟨c1,g,rfl,f,j⟩:=h;simp at e;subst e;exact⟨[],c1,g,oc,by simp[Ly.szs],f,λn d hn=>⟨d,g,oc,hn,j⟩⟩
 | ly::l,cs,i+1,x,h,e=>by obtain⟨c1,g,rfl,f,j⟩:=h;obtain⟨a,u,b,rfl,k,p,q⟩:=Qso (i:=i) j (by simpa using e);refine⟨c1++a,u,b,oc,?_,p,λn d hn=>⟨c1,a++d++b,oc,f,q n d hn⟩⟩;simp[Ly.szs,k,Ly.hold_sz ly c1 f]
theorem Qnz{w S γ}:∀(p:List Nat) {ly g:Ly}{c:Nat}{cs:List Value},Ly.go p ly=some (g,c)->Ly.hold w S γ ly cs ->
 ∃ a u b,cs=a++u++b/\a.length=c/\Ly.hold w S γ g u/\∀(n:Ly) (e:List Value),Ly.hold w S γ n e->Ly.hold w S γ (Ly.pu n p ly) (a++e++b)
 | [],ly,g,c,cs,d,h=>by simp only[Ly.go,Option.some.injEq,Prod.mk.injEq] at d;obtain⟨rfl,rfl⟩:=d;exact⟨[],cs,[],oc,rfl,h,λn e hn=>by simpa [Ly.pu] using hn⟩
 | i::p,ly,g,c,cs,d,h=>by
   cases ly with
   | agg l=>
     simp only[Ly.go] at d;cases f:l[i]? with
     | none=>simp[f] at d
     | some x=>
       simp only[f] at d;cases j:Ly.go p x with
       | none=>simp[j] at d
       | some B=>
         obtain⟨y,C⟩:=B;simp only[j,Option.some.injEq,Prod.mk.injEq] at d;obtain⟨rfl,rfl⟩:=d;simp only[Ly.hold] at h;obtain⟨a,u,b,rfl,s,t,A⟩:=Qso h f;obtain⟨k,e,q,rfl,g1,r,g3⟩:=Qnz p j t;refine⟨a++k,e,q++b,oc,by simp[s,g1],r,λn v hn=>?_⟩;have:=A _ _ (g3 n v hn);simp only[Ly.pu,f,Ly.hold]
         simpa using this
   | _=>simp[Ly.go] at d
theorem Qzh{k:Nat}:∀ {l:List Ly}{i:Nat},(∀ ly∈l,ly.sz=k)->i<=l.length->Ly.szs (l.take i)=i*k
 | [],i,_,hi=>by simp at hi;subst hi;simp[Ly.szs]
 | ly::l,0,_,_=>by simp[Ly.szs]
 | ly::l,i+1,h,hi=>by simp only[ge,Ly.szs];rw[Qzh (λx d=>h x (uq _ d)) (by simpa using hi),h ly uv,vk];omega
theorem Q9a{a u b vs:List Value}(h:vs.length=u.length):splice (a++u++b) a.length vs=a++vs++b:=by simp[splice,h,List.drop_append]
section ops
variable {X:Cx}{st:Nat->Option Ly}{mm:Nat->Option Ct}
theorem Qm3{α:Type}{l:List α}{i:Int}{y:α}(h:getI l i=some y):0<=i/\l[i.toNat]?=some y:=by unfold getI at h;split at h;exact⟨oe,h⟩;cases h
theorem Jiq{α:Type}{l:List α}{i:Nat}{y:α}(h:l[i]?=some y):getI l (i:Int)=some y:=by simp[getI,h]
theorem ixR{O:IntKind}{d x i T ty pos af E k b z p}{α:Type}{f:α->Ly}{xs:List α}{y:α}(L:X.P.underlying T=some (.slice E))(K:TyI X.P E k b z)(n:getI xs p=some y)
 (hd:Nat.blt d X.N=true) (N:OpdF st x (sli k (xs.map f))) (hi:OpdF st i (.cell (cpI O p))) :
 OpOk X st mm ⟨some d,.indexAddr T x i,ty,pos,af,none⟩ [(d,.ref (f y))] []:=
 X4 hd λa w γ t=>by
  obtain⟨h0,n⟩:=Qm3 n;obtain⟨g1,_⟩:=hi.val t;have e:p.toNat<xs.length:=by
   rcases xo p.toNat xs.length with h | h
   . exact h
   . simp[xa h] at n
  rcases N.val t with ⟨s,hn⟩ | ⟨bb,o,cap,cs,s,S,U,C,F,H,I,J⟩ | ⟨hn,_⟩
  rotate_left 2
  . have:xs=[]:=by simpa using hn
    subst this;simp at e
  . have:xs=[]:=by simpa using hn
    subst this;simp at e
  . have g:(xs.map f)[p.toNat]?=some (f y):=by simp[n]
    obtain⟨a1,u,P,rfl,r,B,_⟩:=Qso I g;rw[Qzh J oh] at r;refine⟨.pointer (some ⟨bb,o+p.toNat*k,none⟩),?_,?_⟩
    . have q:p<(xs.length:Int):=om
      simp only[execOp,s,g1];simp[Instr.indexAt,asIntOf,underlying,L,h0,q,Xk K,add0]
    . exact⟨bb,o+p.toNat*k,u,rfl,C,F,λj v A=>by
       have:=H (a1.length+j) v (by
        rw[xl,yu om,wu]
        rw[uo (by
         rcases xo j u.length with h | h
         . exact h
         . simp[xa h] at A)]
        exact A)
       rw[r] at this
       rw[jk];exact this,Ly.hold_mono (Kp.refl _ _) (λb M=>.inl M) (λ_ _ h=>by cases h) _ _ B⟩
theorem ldR{d x T ty pos af e k ly}(n:Shp X.P T e k)(hn:ly.isN=e)(r:ly.sz=k)(hd:Nat.blt d X.N=true)(q:OpdF st x (.ref ly)):
 OpOk X st mm ⟨some d,.load T x,ty,pos,af,none⟩ [(d,ly)] []:=
 X4 hd λa w γ j=>by obtain⟨b,o,us,f,s,t,g,i⟩:=q.val j;simp at f;obtain⟨v,hr,p⟩:=Qsn (P:=X.P) n hn r g i;exact⟨v,by simp only[execOp,f];simp[Instr.loadAt,Instr.sureAddr,hr],p⟩
def FldAt(P:Program)(T j d:Nat):Prop:=∃ fs F,P.underlying T=some (.struct fs)/\fs[j]?=some F/\F.offset=d/\∃ i,P.info? F.type=some i/\i.size≠0
theorem Qwz{P T j d b o}(h:FldAt P T j d)(w:World):(Instr.fieldAt T (.pointer (some ⟨b,o,none⟩)) j).run P w=.ok (.pointer (some ⟨b,o+d,none⟩)) w:=by obtain⟨fs,F,e,f,g,i,k,n⟩:=h;subst g;simp[Instr.fieldAt,underlying,e,f,Instr.sureAddr,fieldPlace,sizeOf,typeInfo,k,n,add0]
theorem faR{d x T j ty pos af e l k}(y:FldAt X.P T j e)(B:Ly.go [j] (.agg l)=some (k,e))(hd:Nat.blt d X.N=true)(C:OpdF st x (.ref (.agg l))):
 OpOk X st mm ⟨some d,.fieldAddr T x j,ty,pos,af,none⟩ [(d,.ref k)] []:=
 X4 hd λa w γ A=>by
  obtain⟨b,o,us,f,q,r,s,t⟩:=C.val A;simp at f;obtain⟨a1,u,E,rfl,n,p,_⟩:=Qnz [j] B t;refine⟨_,by simp only[execOp,f];simp[Qwz y],b,o+e,u,rfl,q,r,λi v g=>?_,p⟩
  have:=s (a1.length+i) v (by
   rw[xl,yu om,wu]
   rw[uo (by
    rcases xo i u.length with h | h;exact h
    simp[xa h] at g)]
   exact g)
  rw[n] at this;rw[jk];exact this
theorem bxI{id E ly}{a w γ}(d:Inv X st mm a w γ)(e:mm id=some (.bx E ly)):∃ g cur,γ id=some (.pointer (some ⟨g,0,none⟩))/\w.heap[g]?=some (.cells cur E (0,0))/\Ly.hold w (X.S γ mm) γ ly cur.toList:=d.cts id _ e
theorem faO{d x T j ty pos af e id E ly}(p:mm id=some (.bx E ly))(n:FldAt X.P T j e)(hd:Nat.blt d X.N=true)(q:OpdF st x (.own id)):
 OpOk X st mm ⟨some d,.fieldAddr T x j,ty,pos,af,none⟩ [(d,.ptr id e)] []:=
 X4 hd λa w γ k=>by obtain⟨g,cur,i,r,s⟩:=bxI k p;obtain⟨f,_⟩:=q.val k;rw[i] at f;simp at f;exact⟨.pointer (some ⟨g,e,none⟩),by simp only[execOp,<-f];simp[Qwz n],_,g,i,rfl,rfl⟩
theorem faP{d x T j ty pos af e id off}(n:FldAt X.P T j e)(hd:Nat.blt d X.N=true)(q:OpdF st x (.ptr id off)):
 OpOk X st mm ⟨some d,.fieldAddr T x j,ty,pos,af,none⟩ [(d,.ptr id (off+e))] []:=
 X4 hd λa w γ p=>by obtain⟨v0,g,f,i,k⟩:=q.val p;exact⟨.pointer (some ⟨g,off+e,none⟩),by simp only[execOp,k];simp[Qwz n],v0,g,f,i,rfl⟩
def OwnP(mm:Nat->Option Ct)(d:Ly)(id off:Nat):Prop:=d=.ptr id off\/(d=.own id/\off=0/\∃ E ly,mm id=some (.bx E ly))
theorem Q1a{st mm a w γ j id off x}(d:Inv X st mm a w γ)(h:OwnP mm j id off)(i:OpdF st x j):∃ v0 g,γ id=some v0/\blkOf v0=some g/\a.eval x=.pointer (some ⟨g,off,none⟩):=by rcases h with rfl | ⟨rfl,rfl,E,ly,hm⟩;exact i.val d;obtain⟨g,cur,f,k,n⟩:=bxI d hm;obtain⟨e,_⟩:=i.val d;rw[f] at e;simp at e;exact⟨_,g,f,rfl,e.symm⟩
theorem ldB{d x T ty pos af i k s id E ly e off}(p:List Nat)(K:mm id=some (.bx E ly))(H:Ly.go p ly=some (e,off))(C:Shp X.P T i k)(hn:e.isN=i)(O:e.sz=k)
 (hd:Nat.blt d X.N=true) (N:OpdF st x s) (L:OwnP mm s id off) :
 OpOk X st mm ⟨some d,.load T x,ty,pos,af,none⟩ [(d,e)] []:=
 X4 hd λa w γ q=>by
  obtain⟨g,cur,y,A,B⟩:=bxI q K;obtain⟨v0,U,f,n,t⟩:=Q1a q L N;rw[y] at f;simp at f;subst f;simp[blkOf] at n;subst n;obtain⟨a1,u,S,F,J,I,_⟩:=Qnz p H B
  obtain⟨v,hr,M⟩:=Qsn (P:=X.P) (b:=g) (o:=off) C hn O (us:=u) (w:=w) (λj v r=>by
   rw[X5 A,<-yb,F,xl,yu om,J,wu]
   rw[uo (by
    rcases xo j u.length with h | h;exact h
    simp[xa h] at r)]
   exact r) I
  exact⟨v,by simp only[execOp,t];simp[Instr.loadAt,Instr.sureAddr,hr],M⟩
theorem Q9b{P:Program}{T g k b o E}{w:World}{cur:Array Value}{v:Value}{vs:List Value}(r:Shp P T g k)(s:w.heap[b]?=some (.cells cur E (0,0)))(f:v.cells.toList=vs)(t:vs.length=k)
 (y:o+k<=cur.size) (q:∀ u∈vs,u.oneCell'=true) :
 ∃ w' d,(Instr.storeAt T (.pointer (some ⟨b,o,none⟩)) v).run P w=.ok () w'/\w'.heap[b]?=some (.cells d E (0,0))/\d.toList=splice cur.toList o vs/\Kp (λx=>x=b) w w'/\w'.os=w.os/\w'.tape=w.tape/\w'.output=w.output:=by
 obtain⟨w',d,g1,i,g3,g4,j,n,p⟩:=Qr0 (P:=P) (b:=b) (o:=o) (E:=E) vs 0 w cur s om q;have e:v.cells.size=k:=by rw[<-t,<-f];simp
 refine⟨w',d,?_,i,g3,g4,j,n,p⟩;simp[Instr.storeAt,Instr.sureAddr,storeVar,Qqk r,e,f,g1]
theorem stB{x y T ty pos af O k M id E ly N ln off}(p:List Nat)(B:mm id=some (.bx E ly))(hg:Ly.go p ly=some (N,off))(Z:Shp X.P T O k)(hz:N.sz=k)(f:ln.sz=k)(C:ln.lies=true)
 (hx:OpdF st x M) (ho:OwnP mm M id off) (hy:OpdF st y ln) :
 OpOk X st mm ⟨none,.store T x y,ty,pos,af,none⟩ [] [(id,.bx E (Ly.pu ln p ly))]:=by
 intro a w γ K Q q Y;obtain⟨g,cur,n,V,W⟩:=bxI q B;obtain⟨v0,g',r,J,U⟩:=Q1a q ho hx;rw[n] at r;simp at r;subst r;simp[blkOf] at J;subst J;obtain⟨a1,u,S,L,hl,hh,hp⟩:=Qnz p hg W;have H:=Ly.hold_of_val C (hy.val q);have j:=Ly.hold_sz _ _ H;have F:=Ly.hold_sz _ _ hh;have hcs:cur.size=a1.length+u.length+S.length:=by have:=yj List.length L;simpa [jk] using this
 obtain⟨w',d,r1,r2,r3,I,r5,r6,r7⟩:=Q9b (P:=X.P) (o:=off) (v:=a.eval y) Z V rfl (by rw[j,f]) om (Ly.oneCell_of_hold _ _ H);have i:(execOp a.eval ⟨none,.store T x y,ty,pos,af,none⟩).run X.P w=.ok .skip w':=by simp only[execOp,U];simp[r1]
 unfold Oper.wp;rw[i];have A:Kp (X.S γ mm) w w':=⟨I.1,λb s hn=>I.2 b s (λe=>hn (.inr ⟨id,_,_,B,rfl,n,by rw[e];rfl⟩))⟩
 have hhold:=hp _ _ H;have t:Z2 w' (X.S γ mm) γ id (.bx E (Ly.pu ln p ly)):=by refine⟨g,d,n,r2,?_⟩;rw[r3,L,<-hl,Q9a (by rw[j,F,f,hz])];exact Ly.hold_mono A (λb s=>.inl s) (Ng.refl _) _ _ hhold
 exact Y _ _ γ (q.setc r5 r6 r7 B rfl n rfl I rfl t)
end ops
def Zr(ly:Ly)(cs:List Value):Prop:=∀ w S γ,ly.hold w S γ cs
def Zrs(l:List Ly)(cs:List Value):Prop:=∀ w S γ,Ly.holds w S γ l cs
theorem Ws:Zr (i64 0) [.int .i64 0]:=λ_ _ _=>⟨_,rfl,rfl,oz,oz⟩
theorem zr_u8:Zr (u8 0) [.int .u8 0]:=λ_ _ _=>⟨_,rfl,rfl,oz,oz⟩
theorem Qia:Zr (u32 0) [.int .u32 0]:=λ_ _ _=>⟨_,rfl,rfl,oz,oz⟩
theorem zr_bl:Zr (bl false) [.bool false]:=λ_ _ _=>⟨_,rfl,rfl⟩
theorem Ql6:Zr (str []) [.string ⟨#[]⟩]:=λ_ _ _=>⟨_,rfl,rfl,oz⟩
theorem Kl{k}:Zr (sli k []) [.slice none 0 0]:=λ_ _ _=>⟨_,rfl,.inl ⟨rfl,rfl⟩⟩
theorem Vi{l cs}(h:Zrs l cs):Zr (.agg l) cs:=λw S γ=>by simp only[Ly.hold];exact h w S γ
theorem Kv:Zrs [] []:=λ_ _ _=>rfl
theorem Qk{ly l c1 d}(e:Zr ly c1)(f:Zrs l d):Zrs (ly::l) (c1++d):=λw S γ=>⟨c1,d,rfl,e w S γ,f w S γ⟩
theorem Q0m{ly c}(h:Zr ly c):∀ n,Zrs (List.replicate n ly) ((List.replicate n c).flatten)
 | 0=>Kv
 | n+1=>by simp only[vn,List.flatten_cons];exact Qk h (Q0m h n)
namespace Inv
variable {X:Cx}{st:Nat->Option Ly}{mm:Nat->Option Ct}{a:Act}{w:World}{γ:Nm}
theorem replace(h:Inv X st mm a w γ){w':World}(hos:w'.os=w.os)(ht:w'.tape=w.tape)(T:w'.output=w.output){id:Nat}{c:Ct}(s:mm id=some c)(O:c.alive=true)
 {v:Value}(V:γ id=some v) (hk:Kp (λb=>blkOf v=some b) w w')
 {y:Nat}{ct:Ct}{v':Value}(hy:mm y=none) (_:ct.alive=true)
 (hct:∀ S γ',(∀ b,S b->X.S γ mm b\/w.heap.size<=b)->Ng γ γ'->γ' y=some v'->Z2 w' S γ' y ct)
 (N:∀ b,blkOf v'=some b->(blkOf v=some b\/w.heap.size<=b)/\b<w'.heap.size) :
 Inv X st (up mm [(y,ct),(id,.gone)]) a w' (gset γ y v'):=by
 have hgy:γ y=none:=h.fresh y hy;have hyid:y≠id:=by rintro rfl;rw[hy] at s;cases s
 have F:Ng γ (gset γ y v'):=by intro i u C;by_cases f:y=i;subst f;rw[hgy] at C;cases C;simp[gset,f,C]
 have H:∀ i,up mm [(y,ct),(id,.gone)] i=if y=i then some ct else if id=i then some .gone else mm i:=by
  intro i;have:up mm [(y,ct),(id,.gone)]=up (up mm [(id,.gone)]) [(y,ct)]:=by
   funext j;rw[Xg];by_cases hj:y=j;subst hj;simp[up,lk];have e:Nat.beq y j=false:=by cases N:Nat.beq y j;rfl;exact absurd (xz N) hj
   simp[up,lk,e,hj]
  rw[this,Xg,Xg]
 have U:∀ b,Ow (gset γ y v') (up mm [(y,ct),(id,.gone)]) b->(∃ i t u,i≠id/\i≠y/\mm i=some t/\t.alive=true/\γ i=some u/\blkOf u=some b)\/blkOf v'=some b:=by rintro b ⟨i,t,u,k,q,r,B⟩;rw[H] at k;by_cases f:y=i;subst f;simp[gset] at r;subst r;exact .inr B;by_cases n:id=i;simp[f,n] at k;subst k;simp[Ct.alive] at q;simp[f,n] at k;simp[gset,f] at r;exact .inl ⟨i,t,u,λe=>n e.symm,λe=>f e.symm,k,q,r,B⟩
 have W:∀ b,blkOf v=some b->X.S γ mm b:=λb g=>.inr ⟨id,c,v,s,O,V,g⟩;have hS:∀ b,X.S (gset γ y v') (up mm [(y,ct),(id,.gone)]) b->X.S γ mm b\/w.heap.size<=b:=by rintro b (g | g);exact .inl (.inl g);rcases U b g with ⟨i,t,u,k,q,r,B,x,E⟩ | k;exact .inl (.inr ⟨i,t,u,r,B,x,E⟩);rcases(N b k).1 with q | q;exact .inl (W b q);exact .inr q
 have P:Kp (X.S γ mm) w w':=⟨hk.1,λb g hn=>hk.2 b g (λe=>hn (W b e))⟩
 refine { h with keep:=λi u C=>F i u (h.keep i u C),os:=hos.trans h.os,tape:=ht.trans h.tape,output:=T.trans h.output,grow:=xe h.grow hk.1,old:=?_,fresh:=?_,cts:=?_,apart:=?_,mine:=?_,sts:=?_ };intro b g hM
 rw[hk.2 b (xw g h.grow) (λe=>by
  rcases(h.mine b ⟨id,c,v,s,O,V,e⟩).1 with k | k;omega
  exact hM k)]
 exact h.old b g hM;intro i hi;rw[H] at hi;by_cases f:y=i;simp[f] at hi;by_cases n:id=i;simp[f,n] at hi;simp[f,n] at hi;simp[gset,f,h.fresh i hi];intro i t p;rw[H] at p;by_cases f:y=i;subst f;simp at p;subst p;exact hct _ _ hS F (by simp[gset]);by_cases n:id=i;simp[f,n] at p;subst p;trivial;simp[f,n] at p;by_cases A:t.alive=true;refine(h.cts i t p).mono P hS F ?_;intro u b C g;refine hk.2 b (h.mine b ⟨i,t,u,p,A,C,g⟩).2.1 (λe=>n ?_);exact h.apart id i c t v u b s O p A V C e g;cases t<;>simp[Ct.alive] at A;trivial;intro i Z c1 c2 u u' b k q r B x E J M;rw[H] at k r;have Y:∀ i c1 u,y≠i->(if y=i then some ct else if id=i then some Ct.gone else mm i)=some c1->c1.alive=true->gset γ y v' i=some u->blkOf u=some b->blkOf v'=some b->False:=by
  intro i c1 u f k q x J M;simp only[f,yd] at k;by_cases n:id=i;simp[n] at k;subst k;simp[Ct.alive] at q;simp[n] at k;simp[gset,f] at x;have hm:=h.mine b ⟨i,c1,u,k,q,x,J⟩;rcases(N b M).1 with e | e;exact n (h.apart id i c c1 v u b s O k q V x e J);omega
 by_cases K:y=i<;>by_cases L:y=Z;exact K.symm.trans L;subst K;simp[gset] at x;subst x;exact(Y Z c2 u' L r B E M J).elim;subst L;simp[gset] at E;subst E;exact(Y i c1 u K k q x J M).elim;simp only[K,yd] at k;simp only[L,yd] at r;by_cases g1:id=i;simp[g1] at k;subst k;simp[Ct.alive] at q;by_cases I:id=Z;simp[I] at r;subst r;simp[Ct.alive] at B;simp[g1] at k;simp[I] at r;simp[gset,K] at x;simp[gset,L] at E;exact h.apart i Z c1 c2 u u' b k q r B x E J M;intro b g;rcases U b g with ⟨i,t,u,k,q,r,B,x,E⟩ | k;obtain⟨g1,I,g3⟩:=h.mine b ⟨i,t,u,r,B,x,E⟩;exact⟨g1,xw I hk.1,g3⟩;obtain⟨g1,I⟩:=N b k;rcases g1 with g1 | g1;obtain⟨k1,k2,k3⟩:=h.mine b ⟨id,c,v,s,O,V,g1⟩;exact⟨k1,I,k3⟩;exact⟨.inl (xe h.grow g1),I,λhs=>by have:=h.s0 b hs;have:=h.grow;omega⟩;intro d ly hd;obtain⟨u,C,hl⟩:=h.sts d ly hd;exact⟨u,C,Ly.val_mono P hS F ly u hl⟩
end Inv
section ops
variable {X:Cx}{st:Nat->Option Ly}{mm:Nat->Option Ct}
theorem Qm4(S:Nat->Prop)(w:World)(o:Obj):Kp S w (w.alloc o):=⟨oc,λb d _=>Below.heap_alloc w o b d⟩
theorem Qr1(w:World)(o:Obj):(w.alloc o).heap[w.heap.size]?=some o:=by show(w.heap.push o)[w.heap.size]?=_;simp
theorem Qxy{d op ty pos af y ct}(hd:Nat.blt d X.N=true)(s:mm y=none)(e:ct.alive=true)
 (h:∀ a w γ,Inv X st mm a w γ->∃ v w',(execOp a.eval ⟨some d,op,ty,pos,af,none⟩).run X.P w=.ok (.value v) w'/\w'.os=w.os/\w'.tape=w.tape/\w'.output=w.output/\Kp (λ_=>False) w w'/\v.oneCell'=true /\
  (∀ S γ',(∀ b,S b->X.S γ mm b\/w.heap.size<=b)->Ng γ γ'->γ' y=some v->Z2 w' S γ' y ct)/\(∀ b,blkOf v=some b->w.heap.size<=b/\b<w'.heap.size)) :
 OpOk X st mm ⟨some d,op,ty,pos,af,none⟩ [(d,.own y)] [(y,ct)]:=by
 intro a w γ K Q hi r;obtain⟨v,w',hr,g,i,j,k,n,p,q⟩:=h a w γ hi;unfold Oper.wp;rw[hr];have f:=hi.new g i j k s e (λS γ' _ h=>p S γ' h) q;exact r _ _ _ (f.put (d:=d) (v:=v) (ly:=.own y) (by simpa using hd) ⟨by simp[Inv.gset],n⟩)
theorem al{d T ty pos af y k b z ly}(g:TyI X.P T k b z)(j:Zr ly z.cells.toList)(i:mm y=none)(hd:Nat.blt d X.N=true):
 OpOk X st mm ⟨some d,.alloc T,ty,pos,af,none⟩ [(d,.own y)] [(y,.bx T ly)]:=
 Qxy hd i rfl λa w γ hi=>
  ⟨.pointer (some ⟨w.heap.size,0,none⟩),w.alloc (.cells z.cells T),by
    simp only[execOp];simp[Instr.alloc,Qgz g,newVar,newRow],rfl,rfl,rfl,Qm4 _ _ _,rfl,
    λS γ' n p e=>⟨w.heap.size,z.cells,e,Qr1 _ _,j _ _ _⟩,λb f=>by simp[blkOf] at f;subst f;simp⟩
theorem box{d T x ty pos af y ly}(j:ly.lies=true)(n:OpdF st x ly)(p:mm y=none)(hd:Nat.blt d X.N=true):
 OpOk X st mm ⟨some d,.box T x,ty,pos,af,none⟩ [(d,.own y)] [(y,.bx T ly)]:=
 Qxy hd p rfl λa w γ hi=>by
  have k:=Ly.hold_of_val j (n.val hi)
  refine⟨.pointer (some ⟨w.heap.size,0,none⟩),w.alloc (.cells (a.eval x).cells T),by
   simp only[execOp];simp[Instr.box,newVar,newRow],rfl,rfl,rfl,Qm4 _ _ _,rfl,
   λS γ' g i e=>⟨w.heap.size,_,e,Qr1 _ _,Ly.hold_mono (Qm4 _ _ _) g i _ _ k⟩,λb f=>by simp[blkOf] at f;subst f;simp⟩
theorem asgN{d ty pos af y E k}(hd:Nat.blt d X.N=true)(g:mm y=none):
 OpOk X st mm ⟨some d,.assign (.const (.slice none 0 0)),ty,pos,af,none⟩ [(d,.own y)] [(y,.sl E k [])]:=
 Qxy hd g rfl λa w γ hi=>⟨.slice none 0 0,w,rfl,rfl,rfl,rfl,Kp.refl _ _,rfl,λS γ' _ _ e=>⟨_,[],e,⟨oc,.inl ⟨rfl,rfl⟩⟩,rfl,λ_ h=>by cases h⟩,λb f=>by simp[blkOf] at f⟩
theorem slI{id E k ls}{a w γ}(d:Inv X st mm a w γ)(e:mm id=some (.sl E k ls)):∃ v cs,γ id=some v/\w.ownsRow 0 E k v ls.length cs/\Ly.holds w (X.S γ mm) γ ls cs/\∀ ly∈ls,ly.sz=k:=d.cts id _ e
theorem ixO{J:IntKind}{d x i T ty pos af E E' k t b z p id}{α:Type}{f:α->Ly}{xs:List α}{y:α}(H:mm id=some (.sl E' k (xs.map f)))(F:X.P.underlying T=some (.slice E))(C:TyI X.P E t b z)(q:getI xs p=some y)
 (hd:Nat.blt d X.N=true) (I:OpdF st x (.own id)) (hi:OpdF st i (.cell (cpI J p))) :
 OpOk X st mm ⟨some d,.indexAddr T x i,ty,pos,af,none⟩ [(d,.ptr id (p.toNat*t))] []:=
 X4 hd λa w γ n=>by
  obtain⟨h0,q⟩:=Qm3 q;obtain⟨g1,_⟩:=hi.val n;have r:p.toNat<xs.length:=by rcases xo p.toNat xs.length with h | h;exact h;simp[xa h] at q
  obtain⟨v,cs,e,A,K,L⟩:=slI n H;obtain⟨u,_⟩:=I.val n;rw[u] at e;simp at e;subst e;obtain⟨_,B⟩:=A;rcases B with ⟨j,hn⟩ | ⟨g,cap,cur,j,_,M,N,O,P,S⟩;have:xs=[]:=by simpa using hn
  subst this;simp at r;have s:p<(xs.length:Int):=om
  refine⟨.pointer (some ⟨g,p.toNat*t,none⟩),?_,_,g,u,by rw[j];rfl,rfl⟩;simp only[execOp,j,g1];simp[Instr.indexAt,asIntOf,underlying,F,h0,s,Xk C,add0]
theorem Q5r{w:World}{S γ}{E k:Nat}{v:Value}{α:Type}{f:α->Ly}{xs:List α}{cs:List Value}{i:Nat}{y:α}(e:w.ownsRow 0 E k v xs.length cs)(H:Ly.holds w S γ (xs.map f) cs)(J:∀ ly∈xs.map f,ly.sz=k)(j:xs[i]?=some y):
 ∃ g cap cur a u b,v=.slice (some ⟨g,0,none⟩) xs.length cap/\w.heap[g]?=some (.cells cur E (0,0))/\xs.length<=cap/\cap<=maxLen/\cur.size=cap*k/\cur.toList=(a++u++b)++cur.toList.drop (xs.length*k)/\cs=a++u++b/\a.length=i*k/\Ly.hold w S γ (f y) u /\
   ∀(n:Ly) (q:List Value),Ly.hold w S γ n q->Ly.holds w S γ ((xs.map f).set i n) (a++q++b):=by
 obtain⟨K,e⟩:=e;rcases e with ⟨_,hn⟩ | ⟨g,cap,cur,rfl,_,x,A,B,C,F⟩;have:xs=[]:=by simpa using hn
 subst this;simp at j;have d:(xs.map f)[i]?=some (f y):=by simp[j]
 have I:i<xs.length:=by rcases xo i xs.length with h | h;exact h;simp[xa h] at j
 obtain⟨a1,u,r,rfl,p,s,t⟩:=Qso H d;rw[Qzh J oh] at p;refine⟨g,cap,cur,a1,u,r,rfl,x,A,B,C,?_,rfl,p,s,t⟩;rw[<-F,vm]
theorem off0{i k:Nat}:i*k=i*k+0:=rfl
theorem ldO{d x T ty pos af r k F id E q off c i}{α:Type}{f:α->Ly}{xs:List α}{y:α}(p:List Nat)(W:mm id=some (.sl E k (xs.map f)))(hy:xs[i]?=some y)(S:Ly.go p (f y)=some (q,c))(e:off=i*k+c)
 (N:Shp X.P T r F) (hn:q.isN=r) (hz:q.sz=F) (hd:Nat.blt d X.N=true) (Z:OpdF st x (.ptr id off)) :
 OpOk X st mm ⟨some d,.load T x,ty,pos,af,none⟩ [(d,q)] []:=
 X4 hd λa w γ B=>by
  subst e;obtain⟨v,cs,H,A,I,J⟩:=slI B W;rw[ou] at A;obtain⟨g,cap,cur,a1,u,s,rfl,K,h3,h4,h5,L,rfl,h7,M,_⟩:=Q5r A I J hy;obtain⟨v0,g',k1,k2,k3⟩:=Z.val B;rw[H] at k1;simp at k1;subst k1;simp[blkOf] at k2;subst k2;obtain⟨a2,n,t,O,hl,U,_⟩:=Qnz p S M
  obtain⟨v,hr,Y⟩:=Qsn (P:=X.P) (b:=g) (o:=i*k+c) N hn hz (us:=n) (w:=w) (λj v C=>by
   have V:j<n.length:=by rcases xo j n.length with h | h;exact h;simp[xa h] at C
   rw[X5 K,<-yb,L,O];have:a1++(a2++n++t)++s++cur.toList.drop (xs.length*k)=(a1++a2)++(n++(t++s++cur.toList.drop (xs.length*k))):=oc
   rw[this,yu oh,uo oh]
   rw[<-C];congr 1;simp;omega) U
  exact⟨v,by simp only[execOp,k3];simp[Instr.loadAt,Instr.sureAddr,hr],Y⟩
theorem stO{x y T ty pos af ag k kk id E lz ln off c i}{α:Type}{f:α->Ly}{xs:List α}{e:α}(r:α)(p:List Nat)(U:mm id=some (.sl E k (xs.map f)))(he:xs[i]?=some e)(hg:Ly.go p (f e)=some (lz,c))(B:off=i*k+c)
 (W:Ly.pu ln p (f e)=f r) (Z:(f r).sz=k) (hT:Shp X.P T ag kk) (hz:lz.sz=kk) (A:ln.sz=kk) (V:ln.lies=true) (hx:OpdF st x (.ptr id off)) (hy:OpdF st y ln) :
 OpOk X st mm ⟨none,.store T x y,ty,pos,af,none⟩ [] [(id,.sl E k ((xs.set i r).map f))]:=by
 intro a w γ K Q J hK;subst B;obtain⟨v,cs,I,L,e3,e4⟩:=slI J U;rw[ou] at L;obtain⟨g,cap,cur,a1,u,F,rfl,h2,h3,h4,h5,h6,rfl,h7,h8,h9⟩:=Q5r L e3 e4 he;obtain⟨v0,g',k1,k2,k3⟩:=hx.val J;rw[I] at k1;simp at k1;subst k1;simp[blkOf] at k2;subst k2;obtain⟨a2,u2,H,rfl,hl,hh,hp⟩:=Qnz p hg h8;have hv:=Ly.hold_of_val V (hy.val J);have n:=Ly.hold_sz _ _ hv;have hul:=Ly.hold_sz _ _ hh;have hvl':(a.eval y).cells.size=ln.sz:=by simpa using n
 have s:=yj List.length h6;have N:=L.1;simp only[yy,gj,uy] at s N;obtain⟨w',j,r1,r2,r3,r4,r5,r6,r7⟩:=Q9b (P:=X.P) (o:=i*k+c) (v:=a.eval y) hT h2 rfl (by rw[n,A]) om (Ly.oneCell_of_hold _ _ hv);have C:(execOp a.eval ⟨none,.store T x y,ty,pos,af,none⟩).run X.P w=.ok .skip w':=by simp only[execOp,k3];simp[r1]
 unfold Oper.wp;rw[C];have S:Kp (X.S γ mm) w w':=⟨r4.1,λb M hn=>r4.2 b M (λee=>hn (.inr ⟨id,_,_,U,rfl,I,by rw[ee];rfl⟩))⟩
 have hhold:=h9 _ _ (hp _ _ hv);rw[W] at hhold;have hmapset:(xs.map f).set i (f r)=(xs.set i r).map f:=by rw[List.map_set]
 rw[hmapset] at hhold;have d:j.toList=(a1++(a2++(a.eval y).cells.toList++H)++F)++cur.toList.drop (xs.length*k):=by
  rw[r3];have:cur.toList=(a1++a2)++u2++(H++F++cur.toList.drop (xs.length*k)):=by
   have:=h6
   simpa using this
  rw[this,show i*k+c=(a1++a2).length by simp;omega,Q9a (by rw[n,hul,A,hz])];have hd:(a1++a2++u2++(H++F++cur.toList.drop (xs.length*k))).drop (xs.length*k)=cur.toList.drop (xs.length*k):=by rw[<-this]
  rw[hd];simp
 have O:Z2 w' (X.S γ mm) γ id (.sl E k ((xs.set i r).map f)):=by refine⟨_,a1++(a2++(a.eval y).cells.toList++H)++F,I,⟨?_,.inr ⟨g,cap,j,oc,ya _,r2,by simpa using h3,h4,?_,?_⟩⟩,Ly.holds_mono S (λb M=>.inl M) (Ng.refl _) _ _ hhold,?_⟩;simp only[yy,ou,wk];omega;have:=yj List.length d;simp only[yy,gj,uy] at this;omega;rw[d,ou,wk,List.take_append_of_le_length (by simp only[yy];omega),xc (by simp only[yy];omega)];intro ly t;simp only[xd] at t;obtain⟨q,Y,rfl⟩:=t;rcases List.mem_or_eq_of_mem_set Y with Y | rfl;exact e4 _ (xd.2 ⟨q,Y,rfl⟩);exact Z
 exact hK _ _ γ (J.setc r5 r6 r7 U rfl I rfl r4 rfl O)
end ops
def Sx(S0:Nat->Prop)(γ:Nm)(m:List (Nat×Ct))(b:Nat):Prop:=S0 b\/Ow γ (lk m) b
def Apart(γ:Nm)(mm:Nat->Option Ct):Prop:=∀ id d c e v v' b,mm id=some c->c.alive=true->mm d=some e->e.alive=true->γ id=some v->γ d=some v'->blkOf v=some b->blkOf v'=some b->id=d
structure Back(w:World)(S0:Nat->Prop)(γ:Nm)(mi:List (Nat×Ct))(res:Ly)(mo:List (Nat×Ct))(v:Value)(γ':Nm)(w':World):Prop where
 os:w'.os=w.os
 tape:w'.tape=w.tape
 output:w'.output=w.output
 grow:w.heap.size<=w'.heap.size
 old:∀ b,b<w.heap.size->¬ Ow γ (lk mi) b->w'.heap[b]?=w.heap[b]?
 keep:Ng γ γ'
 fresh:∀ id,lk mo id=none->γ' id=none
 cts:∀ id c,lk mo id=some c->Z2 w' (Sx S0 γ' mo) γ' id c
 apart:Apart γ' (lk mo)
 mine:∀ b,Ow γ' (lk mo) b->(w.heap.size<=b\/Ow γ (lk mi) b)/\b<w'.heap.size/\¬ S0 b
 res:res.val w' (Sx S0 γ' mo) γ' v
def RetP(w:World)(S0:Nat->Prop)(γ:Nm)(mi:List (Nat×Ct))(res:Ly)(mo:List (Nat×Ct)):Ending->World->Prop:=
 λe w'=>∃ v γ',e=.returned v/\Back w S0 γ mi res mo v γ' w'
def FnOk(P:Program)(f:Nat)(args:List Ly)(mi:List (Nat×Ct))(res:Ly)(mo:List (Nat×Ct)):Prop:=
 (∃ fn,P.funcs[f]?=some fn∧(fn.name == "runtime.NumGoroutine")=false∧fn.body.isSome=true) ∧
 ∀(w:World) (S0:Nat->Prop) (γ:Nm) (vs:Array Value),(∀ b,S0 b->b<w.heap.size)->(∀ id,lk mi id=none->γ id=none) ->
  (∀ id c,lk mi id=some c->Z2 w (Sx S0 γ mi) γ id c)->Apart γ (lk mi)->(∀ b,Ow γ (lk mi) b->b<w.heap.size/\¬ S0 b)->Ly.vals w (Sx S0 γ mi) γ args vs.toList->GwOk w (Sx S0 γ mi) ->
  Calls P f vs w (RetP w S0 γ mi res mo)
def argl:Nat->List Ly->List (Nat×Ly)
 | _,[]=>[]
 | i,ly::l=>(i,ly)::argl (i+1) l
theorem Ja8{w S γ}:∀ {l:List Ly}{vs:List Value}(i:Nat),Ly.vals w S γ l vs->∀ d ly,lk (argl i l) d=some ly->i<=d/\∃ v,vs[d - i]?=some v/\ly.val w S γ v
 | [],_,_,_,d,ly,h=>by cases h
 | x::l,vs,i,f,d,ly,h=>by simp only[Ly.vals] at f;obtain⟨v,r,rfl,j,k⟩:=f;simp only[argl,lk] at h;cases e:Nat.beq i d;rw[e] at h;obtain⟨g1,u,g,g3⟩:=Ja8 (i+1) k d ly h;exact⟨om,u,by rw[show d - i=(d - (i+1))+1 by omega];simpa using g,g3⟩;rw[e] at h;simp at h;subst h;have:i=d:=xz e;subst this;exact⟨xn _,v,oc,j⟩
theorem Ja9{P:Program}{f N:Nat}{fn:Func}{c:Code}{args:List Ly}{mi:List (Nat×Ct)}{R:Type}{res:R->Ly}{mo:R->List (Nat×Ct)}{md:Option R}
 (hf:P.funcs[f]?=some fn) (hb:fn.body=some c) (hN:fn.ntmps=N) (hname:(fn.name == "runtime.NumGoroutine")=false) (hl:Nat.ble args.length N=true)
 (h:∀ w S0 γ,(∀ id,lk mi id=none->γ id=none)->Sq ⟨P,N,w,S0,Ow γ (lk mi),γ,[]⟩ (argl 0 args) mi md (λr=>c.wp P (bodyPost P fn (RetP w S0 γ mi (res r) (mo r))))) :
 ∀ r,md=some r->FnOk P f args mi (res r) (mo r):=by
 intro r hr;refine⟨⟨fn,hf,hname,by rw[hb];rfl⟩,λw S0 γ vs h1 h2 h3 h4 h5 h6 h7=>?_⟩;refine calls_of_wp hf hb (h w S0 γ h2 r _ w γ hr ?_);have hvl:vs.size=args.length:=by
  have:∀(l:List Ly) (vs:List Value),Ly.vals w (Sx S0 γ mi) γ l vs->vs.length=l.length:=by
   intro l
   induction l with
   | nil=>intro vs h;simp only[Ly.vals] at h;simp[h]
   | cons x l ih=>intro vs h;simp only[Ly.vals] at h;obtain⟨v,r,rfl,_,h⟩:=h;simp[ih r h]
  simpa using this args vs.toList h6
 have hle:=uw hl
 exact { size:=by simp[hN,hvl];omega,defs:=rfl,s0:=h1,gx:=h7,keep:=Ng.refl _,os:=rfl,tape:=rfl,output:=rfl,grow:=xn _,old:=λ_ _ _=>rfl,fresh:=h2,cts:=h3,apart:=h4,
         mine:=λb hb=>⟨.inr hb,(h5 b hb).1,(h5 b hb).2⟩,
         sts:=λd ly hd=>by
          obtain⟨_,v,g1,g2⟩:=Ja8 0 h6 d ly hd;refine⟨v,?_,g2⟩;simp only[Nat.sub_zero,yb] at g1;show(vs++_)[d]?=_
          rw[Array.getElem?_append_left (by
           rcases xo d vs.size with h | h;exact h
           simp[uc h] at g1)]
          exact g1 }
def KpL(σ:List (Nat×Nat)):List (Nat×Ct)->Prop
 | []=>True
 | (id,_)::r=>lk σ id=some id/\KpL σ r
theorem keepS{σ mi}{γ:Nm}(hγ:∀ id,lk mi id=none->γ id=none)(h:KpL σ mi):KeepS σ γ:=by
 intro id v f;have d:lk mi id≠none:=λe=>by rw[hγ id e] at f;cases f
 clear hγ f
 induction mi with
 | nil=>exact absurd rfl d
 | cons e r j=>
   obtain⟨i,c⟩:=e;simp only[lk] at d;cases g:Nat.beq i id;rw[g] at d;exact j h.2 d;rw[<-xz g];exact h.1
def ResF(P:Program)(l:List (Nat×Ly))(m:List (Nat×Ct)):List ResultVar->List Ly->Prop
 | [],[]=>True
 | .tmp t::rs,ly::d=>lk l t=some ly/\ResF P l m rs d
 | .cell t T::rs,ly::d=>(∃ id E,lk l t=some (.own id)/\lk m id=some (.bx E ly)/\Shp P T ly.isN ly.sz)/\ResF P l m rs d
 | _,_=>False
def resItem(tmps:Array Value):ResultVar->Sem Value
 | .tmp t=>pure (tmps.getD t undef)
 | .cell t T=>do loadVar T (<-asAddr (tmps.getD t undef))
theorem Q4p{X:Cx}{l m a w γ}(hi:Inv X (lk l) (lk m) a w γ):∀(rs:List ResultVar) (d:List Ly),ResF X.P l m rs d ->
 ∃ vs:List Value,(rs.mapM (resItem a.tmps)).run X.P w=.ok vs w/\Ly.vals w (X.S γ (lk m)) γ d vs
 | [],[],_=>⟨[],oc,by simp[Ly.vals]⟩
 | .tmp t::rs,ly::d,h=>by obtain⟨vs,f,i⟩:=Q4p hi rs d h.2;obtain⟨v,g1,e⟩:=hi.sts t ly h.1;refine⟨v::vs,?_,?_⟩;simp[List.mapM_cons,resItem,g1,f];simp only[Ly.vals];exact⟨v,vs,rfl,e,i⟩
 | .cell t T::rs,ly::d,h=>by obtain⟨⟨id,E,k1,k2,r⟩,s⟩:=h;obtain⟨vs,f,i⟩:=Q4p hi rs d s;obtain⟨u,g1,e,_⟩:=hi.sts t _ k1;obtain⟨g,cur,k,n,p⟩:=bxI hi k2;rw[k] at e;simp at e;subst e;obtain⟨v,x,y⟩:=Qsn (P:=X.P) (b:=g) (o:=0) (w:=w) r rfl rfl (us:=cur.toList) (λj u q=>by rw[X5 n];simpa using q) p;refine⟨v::vs,?_,?_⟩;simp[List.mapM_cons,resItem,g1,asAddr,x,f];simp only[Ly.vals];exact⟨v,vs,rfl,y,i⟩
 | .tmp _::_,[],h=>h.elim
 | .cell _ _::_,[],h=>h.elim
 | [],_::_,h=>h.elim
def tupV:List Value->Value
 | [v]=>v
 | vs=>.tuple ⟨vs⟩
def resL:List Ly->Ly
 | [ly]=>ly
 | l=>.tup l
theorem Jdx{P:Program}{w:World}{fn:Func}{tmps:Array Value}{rs:List ResultVar}{vs:List Value}(hr:fn.results=⟨rs⟩)
 (h:(rs.mapM (resItem tmps)).run P w=.ok vs w) :
 (results fn tmps).run P w=.ok (tupV vs) w:=by
 have d:results fn tmps=(do
  let vs <-fn.results.mapM (resItem tmps)
  pure (if h:vs.size=1 then vs[0] else .tuple vs)):=by
  unfold results;congr 1
 have e:Array.mapM (resItem tmps) (⟨rs⟩:Array ResultVar)=List.toArray <$> (rs.mapM (resItem tmps)):=by rw[show(⟨rs⟩:Array ResultVar)=rs.toArray from rfl,List.mapM_toArray]
 rw[d,hr,e];simp only[Sem.run_bind,Sem.run_map,h,Result.andThen_ok];rcases vs with _ | ⟨v,_ | ⟨v',vs⟩⟩<;>simp[tupV]
theorem ret{P:Program}{N:Nat}{w0:World}{S0 γ0}{mi:List (Nat×Ct)}{R:Type}{res:R->Ly}{mo:R->List (Nat×Ct)}{fn:Func}{l:List (Nat×Ly)}{m:List (Nat×Ct)}{r:R}(σ:List (Nat×Nat))(rs:List ResultVar)(g f:List Ly)(e:Exit)
 (hγ:∀ id,lk mi id=none->γ0 id=none)
 (he:e=.ret\/e=.normal) (hr:fn.results=⟨rs⟩) (hF:ResF P l m rs g) (hn:nodupB ((alv σ (mo r)).map (·.2))=true) (hk:KpL σ mi) (T:NmM (mo r) σ) (s:RnM σ m (mo r)) (hl:Rns σ g f) (t:resL f=res r) :
 Sq ⟨P,N,w0,S0,Ow γ0 (lk mi),γ0,[]⟩ l m (some r) (λr=>bodyPost P fn (RetP w0 S0 γ0 mi (res r) (mo r)) e):=by
 intro r' a w γ J hi;cases J;obtain⟨vs,i,B⟩:=Q4p hi rs g hF;have u:=Jdx hr i;let γ':Nm:=λy=>match lk σ y with | some x=>γ x | none=>none
 have j:∀ y x,lk σ y=some x->γ' y=γ x:=λy x h=>by simp only[γ',h]
 obtain⟨γ'',hi'⟩:=entR (l':=[]) (m':=mo r) σ hn (keepS hγ hk) T s trivial a w γ hi;have A:∀ b,Ow γ' (lk (mo r)) b->Ow γ (lk m) b:=by rintro b ⟨y,k,v,k1,k2,U,k4⟩;obtain⟨x,c,g1,p,g3⟩:=s.get y k k1;exact⟨x,c,v,p,g3.al k2,by rw[<-j y x g1];exact U,k4⟩
 have O:∀ b,Sx S0 γ' (mo r) b->Cx.S ⟨P,N,w0,S0,Ow γ0 (lk mi),γ0,[]⟩ γ (lk m) b:=λb h=>orM h (λx=>x) (A b);have hvals:Ly.vals w (Sx S0 γ' (mo r)) γ' f vs:=(hl w _ γ γ' j).2 vs (Ly.vals_mono (Kp.refl _ _) (λb q=>.inl (O b q)) (Ng.refl _) _ _ B);have E:(res r).val w (Sx S0 γ' (mo r)) γ' (tupV vs):=by rw[<-t];rcases f with _ | ⟨ly,_ | ⟨ly2,f⟩⟩;simp only[Ly.vals] at hvals;subst hvals;exact⟨#[],rfl,by simp[Ly.vals]⟩;simp only[Ly.vals] at hvals;obtain⟨v,rr,rfl,k1,rfl⟩:=hvals;exact k1;have hvals':=hvals;simp only[Ly.vals] at hvals;obtain⟨v,rr,rfl,k1,v2,rr2,rfl,k2,U⟩:=hvals;show Ly.val w _ γ' (.tup _) _;simp only[Ly.val];exact⟨_,rfl,hvals'⟩
 have hback:RetP w0 S0 γ0 mi (res r) (mo r) (.returned (tupV vs)) w:=by
  refine⟨_,γ',rfl,⟨hi.os,hi.tape,hi.output,hi.grow,hi.old,?_,?_,?_,?_,?_,E⟩⟩;intro id v E;have C:=keepS hγ hk id v E;rw[j id id C];exact hi.keep id v E;intro y hy;cases h:lk σ y with
  | none=>simp only[γ',h]
  | some x=>obtain⟨c,S⟩:=T.get y x h;rw[hy] at S;cases S
  intro y k I;obtain⟨x,c,g1,p,g3⟩:=s.get y k I;have h0:=hi.cts x c p;have i:Z2 w (Sx S0 γ' (mo r)) γ x c:=h0.mono (Kp.refl _ _) (λb q=>.inl (O b q)) (Ng.refl _) (λ_ _ _ _=>rfl);exact i.rn1 j g1 g3;intro y W c k v v' b i B C K L M Z h8;obtain⟨x,d,g1,p,g3⟩:=s.get y c i;obtain⟨V,Y,n,F,H⟩:=s.get W k C;rw[j y x g1] at L;rw[j W V n] at M;have:=hi.apart x V d Y v v' b p (g3.al B) F (H.al K) L M Z h8;subst this;exact Qzg hn (Q27 (Qdt g1) i B) (Q27 (Qdt n) C K);intro b q;exact hi.mine b (A b q)
 rcases he with rfl | rfl<;>exact⟨hi.defs,_,u,hback⟩
section call
variable {X:Cx}{st:Nat->Option Ly}{mm:Nat->Option Ct}
def ArgF(st:Nat->Option Ly)(ρ:List (Nat×Nat)):List Operand->List Ly->Prop
 | [],[]=>True
 | x::xs,d::e=>(∃ ly,OpdF st x ly/\Rn ρ ly d)/\ArgF st ρ xs e
 | _,_=>False
theorem Qv7{a w γ γc ρ S}(hi:Inv X st mm a w γ)(f:∀ y x,lk ρ y=some x->γc y=γ x)(e:∀ b,S b->X.S γ mm b):
 ∀ {xs:List Operand}{d:List Ly},ArgF st ρ xs d->Ly.vals w S γc d (xs.map a.eval)
 | [],[],_=>by simp[Ly.vals]
 | x::xs,ly::d,h=>by obtain⟨⟨n,g,i⟩,j⟩:=h;simp only[yv,Ly.vals];exact⟨_,_,rfl,Ly.val_mono (Kp.refl _ _) (λb k=>.inl (e b k)) (Ng.refl _) _ _ ((i w _ γ γc f).2 _ (g.val hi)),Qv7 hi f e j⟩
 | [],_::_,h=>h.elim
 | _::_,[],h=>h.elim
def BackM(σ ρ:List (Nat×Nat))(mo:List (Nat×Ct)):List (Nat×Ct)->Prop
 | []=>True
 | (y,c)::r=>((∃ x c0,lk σ y=some x/\lk mo x=some c0/\RnC σ c0 c)\/(c=.gone/\∃ x,(x,y)∈ρ))/\BackM σ ρ mo r
theorem BackM.get{σ ρ mo}:∀ {em},BackM σ ρ mo em->∀ y c,lk em y=some c->(∃ x c0,lk σ y=some x/\lk mo x=some c0/\RnC σ c0 c)\/(c=.gone/\∃ x,(x,y)∈ρ)
 | [],_,y,c,h=>by cases h
 | (i,x)::r,e,y,c,h=>by simp only[lk] at h;cases d:Nat.beq i y;rw[d] at h;exact BackM.get e.2 y c h;rw[d] at h;have:i=y:=xz d;subst this;simp at h;subst h;exact e.1
def AllIn(em:List (Nat×Ct)):List Nat->Prop
 | []=>True
 | y::r=>(∃ c,lk em y=some c)/\AllIn em r
theorem AllIn.get{em}:∀ {l},AllIn em l->∀ y∈l,∃ c,lk em y=some c
 | [],_,y,h=>by cases h
 | x::l,d,y,h=>by rcases xg.1 h with rfl | h;exact d.1;exact AllIn.get d.2 y h
def Fresh(mm:Nat->Option Ct):List (Nat×Nat)->Prop
 | []=>True
 | (y,_)::r=>mm y=none/\Fresh mm r
theorem Fresh.get{mm}:∀ {τ},Fresh mm τ->∀ y x,lk τ y=some x->mm y=none
 | [],_,y,x,h=>by cases h
 | (i,f)::r,e,y,x,h=>by simp only[lk] at h;cases d:Nat.beq i y;rw[d] at h;exact Fresh.get e.2 y x h;rw[<-xz d];exact e.1
def SigT(τ ρ:List (Nat×Nat)):List (Nat×Nat)->Prop
 | []=>True
 | (y,x)::r=>(lk τ y=some x\/lk ρ x=some y)/\SigT τ ρ r
theorem SigT.get{τ ρ}:∀ {σ},SigT τ ρ σ->∀ y x,lk σ y=some x->lk τ y=some x\/lk ρ x=some y
 | [],_,y,x,h=>by cases h
 | (i,f)::r,e,y,x,h=>by simp only[lk] at h;cases d:Nat.beq i y;rw[d] at h;exact SigT.get e.2 y x h;rw[d] at h;have:i=y:=xz d;subst this;simp at h;subst h;exact e.1
def calG(ρ:List (Nat×Nat))(γ:Nm):Nm:=λx=>match lk ρ x with | some y=>γ y | none=>none
def calS(X:Cx)(mm:Nat->Option Ct)(ρ:List (Nat×Nat))(γ:Nm)(b:Nat):Prop:=X.S0 b\/∃ id c v,mm id=some c/\c.alive=true/\¬(∃ x,(x,id)∈ρ)/\γ id=some v/\blkOf v=some b
theorem Jl2{mi res mo res' em}(ρ τ σ:List (Nat×Nat))
 (S:∀ x n,lk mi x=some n->∃ y c,lk ρ x=some y/\mm y=some c/\RnC ρ c n) (hρm:NmM mi ρ) (hρn:nodupB (ρ.map (·.2))=true)
 (hτ:Fresh mm τ) (hσ:SigT τ ρ σ) (hσn:nodupB (σ.map (·.2))=true) (L:BackM σ ρ mo em) (hall:AllIn em (ρ.map (·.2))) (hall2:AllIn em (τ.map (·.1)))
 (hres:Rn σ res res') {a:Act}{w:World}{γ:Nm}(hi:Inv X st mm a w γ) :
 ∃(γc:Nm) (S0c:Nat->Prop),γc=calG ρ γ/\S0c=calS X mm ρ γ/\(∀ y x,lk ρ y=some x->γc y=γ x)/\(∀ b,Sx S0c γc mi b->X.S γ mm b)/\(∀ b,S0c b->b<w.heap.size)/\(∀ x,lk mi x=none->γc x=none) /\
  (∀ x n,lk mi x=some n->Z2 w (Sx S0c γc mi) γc x n)/\Apart γc (lk mi)/\(∀ b,Ow γc (lk mi) b->b<w.heap.size/\¬ S0c b) /\
  ∀(v:Value) (γ':Nm) (w':World),Back w S0c γc mi res mo v γ' w'->∃ γ'',Inv X st (up mm em) a w' γ''/\Ng γ γ''/\res'.val w' (X.S γ'' (up mm em)) γ'' v:=by
 let γc:Nm:=calG ρ γ;have M:∀ x y,lk ρ x=some y->γc x=γ y:=λx y h=>by simp only[γc,calG,h]
 let img:Nat->Prop:=λy=>∃ x,(x,y)∈ρ;let S0c:Nat->Prop:=calS X mm ρ γ;have Z:∀ b,S0c b->X.S γ mm b:=by rintro b (h | ⟨id,c,v,e,f,p,j,s⟩);exact .inl h;exact .inr ⟨id,c,v,e,f,j,s⟩
 have B:∀ b,Ow γc (lk mi) b->∃ y c v,img y/\mm y=some c/\c.alive=true/\γ y=some v/\blkOf v=some b:=by rintro b ⟨x,n,v,e,f,p,j⟩;obtain⟨y,c,g1,r,g3⟩:=S x n e;exact⟨y,c,v,⟨x,Qdt g1⟩,r,g3.alive.1,by rw[<-M x y g1];exact p,j⟩
 have O:∀ b,Ow γc (lk mi) b->X.S γ mm b:=λb h=>by obtain⟨y,c,v,e,f,p,j,s⟩:=B b h;exact .inr ⟨y,c,v,f,p,j,s⟩
 have hSc:∀ b,Sx S0c γc mi b->X.S γ mm b:=λb h=>h.elim (Z b) (O b);have hS0lt:∀ b,S0c b->b<w.heap.size:=by rintro b (h | ⟨id,c,v,e,f,p,j,s⟩);exact xw (hi.s0 b h) hi.grow;exact(hi.mine b ⟨id,c,v,e,f,j,s⟩).2.1
 have hdis:∀ b,Ow γc (lk mi) b->¬ S0c b:=by intro b h hs;obtain⟨y,c,v,e,f,p,j,s⟩:=B b h;rcases hs with hs | ⟨id,c2,v2,g1,r,g3,g4,g5⟩;exact(hi.mine b ⟨y,c,v,f,p,j,s⟩).2.2 hs;have:=hi.apart y id c c2 v v2 b f p g1 r j g4 s g5;subst this;exact g3 e
 refine⟨γc,S0c,rfl,rfl,M,hSc,hS0lt,
  (λx hx=>by
   cases h:lk ρ x with
   | none=>simp only[γc,calG,h]
   | some y=>obtain⟨c,hc⟩:=hρm.get x y h;rw[hx] at hc;cases hc),
  (λx n hx=>by
   obtain⟨y,c,g1,r,g3⟩:=S x n hx;have h0:=hi.cts y c r;have e:Z2 w (Sx S0c γc mi) γ y c:=h0.mono (Kp.refl _ _) (λb q=>.inl (hSc b q)) (Ng.refl _) (λ_ _ _ _=>rfl)
   exact e.rn M g1 g3),
  (λx x' c n v v' b e f p j s N W Y=>by
   obtain⟨y,d,g1,r,g3⟩:=S x c e;obtain⟨A,d',H,g2',g3'⟩:=S x' n p;rw[M x y g1] at s;rw[M x' A H] at N;have:=hi.apart y A d d' v v' b r g3.alive.1 g2' g3'.alive.1 s N W Y;subst this
   exact Qsv hρn (Qdt g1) (Qdt H) g1 H),
  (λb q=>by
   obtain⟨y,c,v,e,f,p,j,s⟩:=B b q
   exact⟨(hi.mine b ⟨y,c,v,f,p,j,s⟩).2.1,hdis b q⟩),?_⟩
 rintro v γ' w' q;let γ'':Nm:=λy=>match lk τ y with | some x=>γ' x | none=>γ y
 have hnτ:∀ y c,mm y=some c->lk τ y=none:=λy c hy=>by
  cases h:lk τ y with
  | none=>rfl
  | some x=>rw[hτ.get y x h] at hy;cases hy
 have T:Ng γ γ'':=by
  intro y u C;cases h:lk τ y with
  | none=>simp only[γ'',h];exact C
  | some x=>have:=hi.fresh y (hτ.get y x h);rw[this] at C;cases C
 have J:∀ y x,lk σ y=some x->γ'' y=γ' x:=by
  intro y x h;rcases hσ.get y x h with e | e;simp only[γ'',e];obtain⟨n,hc'⟩:=hρm.get x y e;obtain⟨y2,c,g1,r,g3⟩:=S x n hc';rw[e] at g1;simp at g1;subst g1;have P:=g3.alive.1;have h0:=hi.cts y c r;obtain⟨u,C⟩:∃ u,γ y=some u:=by
   cases c with
   | gone=>simp[Ct.alive] at P
   | sl E k ls=>obtain⟨u,_,C,_⟩:=h0;exact⟨u,C⟩
   | bx E ly=>obtain⟨g,_,C,_⟩:=h0;exact⟨_,C⟩
   | ob o=>obtain⟨g,C,_⟩:=h0;exact⟨_,C⟩
  have K:γ'' y=γ y:=by simp only[γ'',hnτ y c r]
  rw[K,C];exact(q.keep x u (by rw[M x y e];exact C)).symm
 let t:=up mm em;have F:∀ y c,t y=some c->lk em y=some c\/(lk em y=none/\mm y=some c):=by
  intro y c h;simp only[t,up] at h;cases he:lk em y with
  | none=>rw[he] at h;exact .inr ⟨rfl,h⟩
  | some n=>rw[he] at h;exact .inl h
 have hnimg:∀ y,lk em y=none->¬ img y:=by rintro y h ⟨x,hx⟩;obtain⟨c,hc⟩:=hall.get y (xd.2 ⟨_,hx,rfl⟩);rw[h] at hc;cases hc
 have how:∀ b,Ow γ'' t b->Ow γ' (lk mo) b\/S0c b:=by
  rintro b ⟨y,c,u,e,f,p,j⟩;rcases F y c e with h | ⟨h,V⟩;rcases L.get y c h with ⟨x,c0,g1,r,g3⟩ | ⟨rfl,_⟩;exact .inl ⟨x,c0,u,r,g3.alive.1,by rw[<-J y x g1];exact p,j⟩;simp[Ct.alive] at f;refine .inr (.inr ⟨y,c,u,V,f,hnimg y h,?_,j⟩);have K:γ'' y=γ y:=by simp only[γ'',hnτ y c V]
  rw[<-K];exact p
 have hS2:∀ b,X.S γ'' t b->Sx S0c γ' mo b:=by rintro b (h | h);exact .inl (.inl h);rcases how b h with h | h;exact .inr h;exact .inl h
 have hS2':∀ b,X.S γ'' t b->X.S γ mm b\/w.heap.size<=b:=by intro b h;rcases hS2 b h with h | h;exact .inl (Z b h);rcases(q.mine b h).1 with h | h;exact .inr h;exact .inl (O b h)
 have hk:Kp (X.S γ mm) w w':=⟨q.grow,λb I hn=>q.old b I (λh=>hn (O b h))⟩
 have hinv:Inv X st t a w' γ'':={
  size:=hi.size,defs:=hi.defs,s0:=hi.s0,gx:=hi.gx,keep:=λid u C=>T id u (hi.keep id u C)
  os:=q.os.trans hi.os,tape:=q.tape.trans hi.tape,output:=q.output.trans hi.output,grow:=xe hi.grow q.grow
  old:=by
   intro b I hM
   rw[q.old b (xw I hi.grow) (λh=>by
    obtain⟨y,c,u,e,f,p,j,s⟩:=B b h;rcases(hi.mine b ⟨y,c,u,f,p,j,s⟩).1 with h | h;omega
    exact hM h)]
   exact hi.old b I hM
  fresh:=by
   intro y hy;have e:lk em y=none:=by
    cases he:lk em y with
    | none=>rfl
    | some c=>simp only[t,up,he] at hy;cases hy
   have f:mm y=none:=by simpa only[t,up,e] using hy
   have p:lk τ y=none:=by
    cases h:lk τ y with
    | none=>rfl
    | some x=>
      obtain⟨c,hc⟩:=hall2.get y (xd.2 ⟨_,Qdt h,rfl⟩);rw[e] at hc;cases hc
   simp only[γ'',p];exact hi.fresh y f
  cts:=by intro y c hy;rcases F y c hy with h | ⟨h,V⟩;rcases L.get y c h with ⟨x,c0,g1,r,g3⟩ | ⟨rfl,_⟩;have h0:=q.cts x c0 r;have e:Z2 w' (X.S γ'' t) γ' x c0:=h0.mono (Kp.refl _ _) (λb q=>.inl (hS2 b q)) (Ng.refl _) (λ_ _ _ _=>rfl);exact e.rn J g1 g3;trivial;by_cases P:c.alive=true;refine(hi.cts y c V).mono hk hS2' T ?_;intro u b C I;refine q.old b (hi.mine b ⟨y,c,u,V,P,C,I⟩).2.1 (λho=>?_);obtain⟨y2,c2,u2,k1,k2,k3,k4,k5⟩:=B b ho;have:=hi.apart y y2 c c2 u u2 b V P k2 k3 C k4 I k5;subst this;exact hnimg y h k1;cases c<;>simp[Ct.alive] at P;trivial
  apart:=by
   have cross:∀ y A c n u U b,lk em y=some c->c.alive=true->lk em A=none->mm A=some n->n.alive=true->γ'' y=some u->γ'' A=some U->blkOf u=some b->blkOf U=some b->False:=by
    intro y A c n u U b e f p j s N W Y h9;rcases L.get y c e with ⟨x,c0,g1,r,g3⟩ | ⟨rfl,_⟩;have:=(q.mine b ⟨x,c0,u,r,g3.alive.1,by rw[<-J y x g1];exact N,Y⟩).2.2;refine this (.inr ⟨A,n,U,j,s,hnimg A p,?_,h9⟩);have K:γ'' A=γ A:=by simp only[γ'',hnτ A n j]
    rw[<-K];exact W;simp[Ct.alive] at f
   intro y A c n u U b e f p j s N W Y;rcases F y c e with K | ⟨K,e1'⟩<;>rcases F A n p with e2 | ⟨e2,e2'⟩;rcases L.get y c K with ⟨x,c0,g1,r,g3⟩ | ⟨rfl,_⟩;rcases L.get A n e2 with ⟨x',c0',H,g2',g3'⟩ | ⟨rfl,_⟩;rw[J y x g1] at s;rw[J A x' H] at N;have:=q.apart x x' c0 c0' u U b r g3.alive.1 g2' g3'.alive.1 s N W Y;subst this;exact Qsv hσn (Qdt g1) (Qdt H) g1 H;simp[Ct.alive] at j;simp[Ct.alive] at f;exact(cross y A c n u U b K f e2 e2' j s N W Y).elim;exact(cross A y n c U u b e2 j K e1' f N s Y W).elim;have k1:γ'' y=γ y:=by simp only[γ'',hnτ y c e1']
   have k2:γ'' A=γ A:=by simp only[γ'',hnτ A n e2']
   rw[k1] at s;rw[k2] at N;exact hi.apart y A c n u U b e1' f e2' j s N W Y
  mine:=by
   intro b h;rcases how b h with h | h;obtain⟨g1,r,g3⟩:=q.mine b h;refine⟨?_,r,λV=>g3 (.inl V)⟩;rcases g1 with g1 | g1;exact .inl (xe hi.grow g1);obtain⟨y,c,u,k1,k2,k3,k4,k5⟩:=B b g1;exact(hi.mine b ⟨y,c,u,k2,k3,k4,k5⟩).1;obtain⟨y,c,u,e,f,p,j⟩:=‹Ow γ'' t b›;rcases h with h | ⟨id,c2,u2,k1,k2,k3,k4,k5⟩;rcases F y c e with K | ⟨K,e1'⟩;rcases L.get y c K with ⟨x,c0,g1,r,g3⟩ | ⟨rfl,_⟩;exact((q.mine b ⟨x,c0,u,r,g3.alive.1,by rw[<-J y x g1];exact p,j⟩).2.2 (.inl h)).elim;simp[Ct.alive] at f;have k1:γ'' y=γ y:=by simp only[γ'',hnτ y c e1']
   rw[k1] at p;obtain⟨g1,r,g3⟩:=hi.mine b ⟨y,c,u,e1',f,p,j⟩;exact(g3 h).elim;obtain⟨g1,r,g3⟩:=hi.mine b ⟨id,c2,u2,k1,k2,k4,k5⟩;exact⟨g1,xw r q.grow,g3⟩
  sts:=by
   intro i ly hly;obtain⟨u,C,hl⟩:=hi.sts i ly hly
   exact⟨u,C,Ly.val_mono hk hS2' T ly u hl⟩ }
 have hv:res'.val w' (X.S γ'' t) γ'' v:=Ly.val_mono (Kp.refl _ _) (λb q=>.inl (hS2 b q)) (Ng.refl _) _ _ ((hres w' _ γ' γ'' J).2 v q.res);exact⟨γ'',hinv,T,hv⟩
theorem callX{mi res mo res' em}(ρ τ σ:List (Nat×Nat))
 (i:∀ x d,lk mi x=some d->∃ y c,lk ρ x=some y/\mm y=some c/\RnC ρ c d) (hρm:NmM mi ρ) (hρn:nodupB (ρ.map (·.2))=true)
 (hτ:Fresh mm τ) (hσ:SigT τ ρ σ) (hσn:nodupB (σ.map (·.2))=true) (g:BackM σ ρ mo em) (e:AllIn em (ρ.map (·.2))) (hall2:AllIn em (τ.map (·.1)))
 (f:Rn σ res res') {a:Act}{w:World}{γ:Nm}(hi:Inv X st mm a w γ) :
 (∀ y x,lk ρ y=some x->calG ρ γ y=γ x)/\(∀ b,Sx (calS X mm ρ γ) (calG ρ γ) mi b->X.S γ mm b)/\(∀ b,calS X mm ρ γ b->b<w.heap.size)/\(∀ x,lk mi x=none->calG ρ γ x=none) /\
  (∀ x d,lk mi x=some d->Z2 w (Sx (calS X mm ρ γ) (calG ρ γ) mi) (calG ρ γ) x d)/\Apart (calG ρ γ) (lk mi)/\(∀ b,Ow (calG ρ γ) (lk mi) b->b<w.heap.size/\¬ calS X mm ρ γ b) /\
  ∀(v:Value) (γ':Nm) (w':World),Back w (calS X mm ρ γ) (calG ρ γ) mi res mo v γ' w'->∃ γ'',Inv X st (up mm em) a w' γ''/\Ng γ γ''/\res'.val w' (X.S γ'' (up mm em)) γ'' v:=by
 obtain⟨_,_,rfl,rfl,h⟩:=Jl2 (res':=res') ρ τ σ i hρm hρn hτ hσ hσn g e hall2 f hi;exact h
theorem callR{d f o largs mi res mo res' em}(ρ τ σ:List (Nat×Nat))(hf:FnOk X.P f largs mi res mo)(hdst:o.dst=some d)
 (hrun:∀ fn,X.P.funcs[f]?=some fn->(fn.name == "runtime.NumGoroutine")=false->fn.body.isSome=true->∀ a w γ,Inv X st mm a w γ->∃ vs:Array Value,(execOp a.eval o).run X.P w=.ok (.enter f vs) w ∧
  ∀(γc:Nm) (S:Nat->Prop),(∀ y x,lk ρ y=some x->γc y=γ x)->(∀ b,S b->X.S γ mm b)->Ly.vals w S γc largs vs.toList)
 (hmi:∀ x c',lk mi x=some c'->∃ y c,lk ρ x=some y/\mm y=some c/\RnC ρ c c') (hρm:NmM mi ρ) (hρn:nodupB (ρ.map (·.2))=true)
 (hτ:Fresh mm τ) (hσ:SigT τ ρ σ) (hσn:nodupB (σ.map (·.2))=true) (hem:BackM σ ρ mo em) (hall:AllIn em (ρ.map (·.2))) (hall2:AllIn em (τ.map (·.1)))
 (hres:Rn σ res res') (hd:Nat.blt d X.N=true) :
 OpOk X st mm o [(d,res')] em:=by
 obtain⟨⟨fn,hfn,hname,hbody⟩,hc⟩:=hf;intro a w γ K Q hi hK;obtain⟨vs,hrun,hvals⟩:=hrun fn hfn hname hbody a w γ hi;obtain⟨g1,g2,g3,g4,g5,g6,g7,g8⟩:=callX (res':=res') ρ τ σ hmi hρm hρn hτ hσ hσn hem hall hall2 hres hi;unfold Oper.wp;rw[hrun,Oper.upon_enter];refine(hc w _ _ vs g3 g4 g5 g6 g7 (hvals _ _ g1 g2) (hi.gw g2)).mono ?_;rintro e w' ⟨v,γ',rfl,hb⟩;show K (a.put o.dst v) w';rw[hdst];obtain⟨γ'',hinv,_,hv⟩:=g8 v γ' w' hb;exact hK _ _ _ (hinv.put (by simpa using hd) hv)
theorem callG{d f args argTypes ty pos af largs mi res mo res' em}(ρ τ σ:List (Nat×Nat))(hf:FnOk X.P f largs mi res mo)
 (ha:ArgF st ρ args largs) (hmi:∀ x c',lk mi x=some c'->∃ y c,lk ρ x=some y/\mm y=some c/\RnC ρ c c') (hρm:NmM mi ρ) (hρn:nodupB (ρ.map (·.2))=true)
 (hτ:Fresh mm τ) (hσ:SigT τ ρ σ) (hσn:nodupB (σ.map (·.2))=true) (hem:BackM σ ρ mo em) (hall:AllIn em (ρ.map (·.2))) (hall2:AllIn em (τ.map (·.1)))
 (hres:Rn σ res res') (hd:Nat.blt d X.N=true) :
 OpOk X st mm ⟨some d,.call { callee:=.value (.func f),args:=⟨args⟩,argTypes:=argTypes },ty,pos,af,none⟩ [(d,res')] em:=by
 refine callR ρ τ σ hf rfl (λfn hfn hname hbody a w γ hi=>⟨(args.map a.eval).toArray,?_,fun γc S hgc hSc=>by simpa using Qv7 hi hgc hSc ha⟩) hmi hρm hρn hτ hσ hσn hem hall hall2 hres hd;have hrun:(execOp a.eval ⟨some d,.call { callee:=.value (.func f),args:=⟨args⟩,argTypes:=argTypes },ty,pos,af,none⟩).run X.P w=.ok (.enter f (args.map a.eval).toArray) w:=by
  have e1:fn.body.isNone=false:=by cases h:fn.body<;>simp[h] at hbody |-
  have e2:¬ fn.name= "runtime.NumGoroutine":=by simpa using hname
  simp only[execOp,resolve,Act.eval];simp[Deferred.ofValue,invoke,callFunc,hfn,e2];intro e3;rw[e3] at e1;cases e1
 exact hrun
theorem call0{d f args argTypes ty pos af largs res}(i:FnOk X.P f largs [] res [])(g:ArgF st [] args largs)(e:IF res)(hd:Nat.blt d X.N=true):
 OpOk X st mm ⟨some d,.call { callee:=.value (.func f),args:=⟨args⟩,argTypes:=argTypes },ty,pos,af,none⟩ [(d,res)] []:=
 callG [] [] [] i g (λ_ _ h=>by cases h) trivial rfl trivial trivial rfl trivial trivial trivial (rn_id e) hd
end call
section ops
variable {X:Cx}{st:Nat->Option Ly}{mm:Nat->Option Ct}
theorem ext{d x i ty pos af l ly}(n:l[i]?=some ly)(hd:Nat.blt d X.N=true)(p:OpdF st x (.tup l)):OpOk X st mm ⟨some d,.extract x i,ty,pos,af,none⟩ [(d,ly)] []:=
 X4 hd λa w γ hi=>by
  obtain⟨vs,j,k⟩:=p.val hi;have f:∀ {l:List Ly}{vs:List Value}{i:Nat}{ly},Ly.vals w (X.S γ mm) γ l vs->l[i]?=some ly->∃ v,vs[i]?=some v/\ly.val w (X.S γ mm) γ v:=by
   intro l
   induction l with
   | nil=>intro vs i ly _ h;simp at h
   | cons x l q=>
     intro vs i ly g h;simp only[Ly.vals] at g;obtain⟨v,r,rfl,k1,k2⟩:=g;cases i with
     | zero=>simp at h;subst h;exact⟨v,oc,k1⟩
     | succ i=>
       obtain⟨u,g1,e⟩:=q (vs:=r) (i:=i) (ly:=ly) k2 (by simpa using h);exact⟨u,by simpa using g1,e⟩
  obtain⟨v,g1,e⟩:=f k n;exact⟨v,by simp only[execOp,j];simp only[yb] at g1;simp[Instr.extract,g1],e⟩
def Jgl(mm:Nat->Option Ct):Ly->Prop
 | .ptr _ _=>True
 | .ref _=>True
 | .own id=>∃ E ly,mm id=some (.bx E ly)
 | _=>False
theorem nck{d x ty pos af ly}(hn:Jgl mm ly)(hd:Nat.blt d X.N=true)(n:OpdF st x ly):OpOk X st mm ⟨some d,.nilCheck x,ty,pos,af,none⟩ [(d,ly)] []:=
 X4 hd λa w γ hi=>by
  have e:=n.val hi;have:∃ i,a.eval x=.pointer (some i):=by
   cases ly with
   | ptr id off=>obtain⟨_,g,_,_,h⟩:=e;exact⟨_,h⟩
   | ref l=>obtain⟨b,o,us,h,_⟩:=e;simp at h;exact⟨_,h⟩
   | own id=>
     obtain⟨E,ly,k⟩:=hn;obtain⟨g,cur,j,_⟩:=bxI hi k;obtain⟨f,_⟩:=e;rw[j] at f;simp at f;exact⟨_,f.symm⟩
   | _=>exact hn.elim
  obtain⟨i,h⟩:=this;exact⟨_,by simp only[execOp,h];rfl,h ▸ e⟩
theorem fld{d x T j ty pos af l e q i k}(C:∃ fs F,X.P.underlying T=some (.struct fs)/\fs[j]?=some F/\F.offset=q/\Shp X.P F.type i k)(E:Ly.go [j] (.agg l)=some (e,q))(hn:e.isN=i)(J:e.sz=k)
 (hd:Nat.blt d X.N=true) (I:OpdF st x (.agg l)):OpOk X st mm ⟨some d,.field T x j,ty,pos,af,none⟩ [(d,e)] []:=
 X4 hd λa w γ hi=>by
  obtain⟨fs,F,r,s,B,p⟩:=C;obtain⟨cs,A,H⟩:=I.val hi;obtain⟨a1,u,K,t,y,g,_⟩:=Qnz [j] E (by simpa [Ly.hold] using H);have f:=Ly.hold_sz _ _ g;subst B;cases i with
  | true=>
    refine⟨.agg u.toArray,?_,?_⟩;simp only[execOp,A];have:cs.extract F.offset (F.offset+k)=u.toArray:=by apply gu;rw[Array.toList_extract,t];simp only[List.extract_eq_take_drop];rw[<-y,xl,List.drop_left,<-J,<-f,show a1.length+u.length - a1.length=u.length by omega,List.take_left]
    simp[Instr.field,underlying,r,s,part,asAgg,Qpu p,Qqk p,this];cases e<;>simp[Ly.isN] at hn;simp only[Ly.val,Ly.hold] at g |-;exact⟨_,rfl,g⟩
  | false=>
    have n:u.length=1:=by cases e<;>simp[Ly.isN] at hn<;>simpa [Ly.sz] using f
    obtain⟨v,rfl⟩:∃ v,u=[v]:=by
     match u,n with
     | [v],_=>exact⟨v,rfl⟩
    refine⟨v,?_,Ly.val_of_hold1 hn g⟩;have:cs[F.offset]?=some v:=by rw[<-yb,t,<-y];simp
    simp only[execOp,A];simp[Instr.field,underlying,r,s,part,asAgg,Qpu p,this]
theorem Jba{z:Array Value}{n k:Nat}(f:z.size=k)(_:0<k):(madeCells z (n*k)).toList=(List.replicate n z.toList).flatten:=by
 induction n with
 | zero=>simp[madeCells]
 | succ n g=>
   have:(madeCells z ((n+1)*k)).toList=(madeCells z (n*k)).toList++z.toList:=by
    unfold madeCells;simp only[Array.toList_map,Array.toList_range];rw[show(n+1)*k=n*k+k by rw[vk],List.range_add,yf,vo];congr 1;apply List.ext_getElem;simp[f];intro i d j;simp only[ou,List.length_range] at d;simp only[List.getElem_map,List.getElem_range,Function.comp_def,f];have e:(n*k+i)%k=i:=by rw[vp,Nat.mul_add_mod];exact xv d
    rw[e];simp[getElem!_pos z i om]
   rw[this,g,je,List.flatten_append];simp
theorem mks{d J x2 T ty pos af y E k b z n}{α:Type}{f:α->Ly}{zx:α}{xs:List α}(s:mkM b zx n=some xs)(N:X.P.underlying T=some (.slice E))(M:TyI X.P E k b z)(I:Zr (f zx) z.cells.toList)(hk:(f zx).sz=k)(u:Nat.blt 0 k=true)(U:mm y=none)
 (hd:Nat.blt d X.N=true) (x:OpdF st J (i64 n)) (A:OpdF st x2 (i64 n)) :
 OpOk X st mm ⟨some d,.makeSlice T J x2,ty,pos,af,none⟩ [(d,.own y)] [(y,.sl E k (xs.map f))]:=by
 have j:0<k:=by simpa using u
 unfold mkM at s;split at s;rename_i hn;obtain⟨v,O,q⟩:=hn;cases s;obtain⟨i,hi,C,r,t⟩:=M;have g:z.cells.size=k:=by have:=Ly.hold_sz _ _ (I default (λ_=>False) (λ_=>none));rw[hk] at this;simpa using this
 refine Qxy hd U rfl λa w γ F=>?_;obtain⟨K,_⟩:=x.val F;obtain⟨L,_⟩:=A.val F;have hr:=run_make (P:=X.P) w T E i z N hi C .i64 .i64 n n v (Int.le_refl _) (by rw[t,Int.mul_comm];omega) q;refine⟨.slice (some ⟨w.heap.size,0,none⟩) n.toNat n.toNat,w.alloc (.cells (madeCells z.cells (n.toNat*i.size)) E),by simp only[execOp,K,L];simp[hr],rfl,rfl,rfl,Qm4 _ _ _,rfl,λS γ' V W B=>?_,λbb H=>by simp[blkOf] at H;subst H;simp⟩;have hcells:(madeCells z.cells (n.toNat*i.size)).toList=(List.replicate n.toNat z.cells.toList).flatten:=by rw[r];exact Jba g j
 have e:(List.replicate n.toNat zx).map f=List.replicate n.toNat (f zx):=oc
 refine⟨_,(List.replicate n.toNat z.cells.toList).flatten,B,⟨?_,.inr ⟨w.heap.size,n.toNat,_,oc,ya _,Qr1 _ _,oc,by unfold maxLen;omega,by rw[size_madeCells,r],?_⟩⟩,?_,?_⟩;simp[g];rw[hcells,xc];simp[g];rw[e];exact Q0m I _ _ _ _;intro ly p;rw[e] at p;rw[List.eq_of_mem_replicate p];exact hk;cases s
def Parts(st:Nat->Option Ly)(k:Nat):Nat->List (Nat×Operand)->List Ly->Prop
 | _,[],[]=>True
 | j,(i,x)::d,ly::ls=>i=j/\OpdF st x ly/\ly.sz=k/\ly.lies=true/\Parts st k (j+1) d ls
 | _,_,_=>False
theorem Q9c(vs:List Value):∀(cells:Array Value) (off n:Nat),off+n+vs.length<=cells.size ->
 ((vs.zipIdx n).foldl (λcs (c,j)=>cs.setIfInBounds (off+j) c) cells).toList=cells.toList.take (off+n)++vs++cells.toList.drop (off+n+vs.length):=by
 induction vs with
 | nil=>intro cells off n _;simp
 | cons v vs d=>
   intro cells off n h;simp only[xm] at h;rw[List.zipIdx_cons,jx,d _ off (n+1) oh];simp only[Array.toList_setIfInBounds,xm];rw[show off+(n+1)=off+n+1 by omega,jh oh];simp only[List.getElem_set_self,xl,yt,uf];rw[List.take_set_of_le om];congr 2;rw[List.drop_set_of_lt om];congr 2;omega
theorem Q5s{a w γ k}(hi:Inv X st mm a w γ):∀(d:List (Nat×Operand)) (ls:List Ly) (j:Nat) (cells:Array Value) ,Parts st k j d ls->(j+d.length)*k<=cells.size ->
 ∃ cells' cs,Instr.fill (λi=>some (i*k,k)) cells (d.map λ(i,x)=>(i,a.eval x))=some cells'/\cells'.size=cells.size/\Ly.holds w (X.S γ mm) γ ls cs/\cs.length=d.length*k/\cells'.toList=cells.toList.take (j*k)++cs++cells.toList.drop ((j+d.length)*k)
 | [],[],j,cells,_,_=>⟨cells,[],by simp[Instr.fill],rfl,rfl,oc,oc⟩
 | (i,x)::d,ly::ls,j,cells,h,n=>by
   obtain⟨rfl,B,C,A,h⟩:=h;have s:=Ly.hold_of_val A (B.val hi);have e:(a.eval x).cells.size=k:=by have:=Ly.hold_sz _ _ s;rw[C] at this;simpa using this
   simp only[xm] at n;have E:i*k+k<=cells.size:=by
    have:(i+(d.length+1))*k=i*k+(d.length*k+k):=by rw[Nat.add_mul,vk]
    omega
   have hfold:=Q9c (a.eval x).cells.toList cells (i*k) 0 (by simp[e];omega);simp only[xq,gj,e] at hfold;let cells1:=((a.eval x).cells.toList.zipIdx 0).foldl (λcs (c,j)=>cs.setIfInBounds (i*k+j) c) cells;have g:cells1.toList=cells.toList.take (i*k)++(a.eval x).cells.toList++cells.toList.drop (i*k+k):=hfold;have f:cells1.size=cells.size:=by have:=yj List.length g;simp only[gj,yy,xk,uy] at this;omega
   obtain⟨cells',cs,g1,v,g3,g4,y⟩:=Q5s hi d ls (i+1) cells1 h (by rw[f,show i+1+d.length=i+(d.length+1) by omega];exact n);refine⟨cells',(a.eval x).cells.toList++cs,?_,by rw[v,f],⟨_,_,rfl,s,g3⟩,by simp[e,g4,vk];omega,?_⟩;simp only[yv,Instr.fill];rw[ol (by simp[e];omega)]
   rw[show(a.eval x).cells.zipIdx.foldl (λcs (c,j)=>cs.setIfInBounds (i*k+j) c) cells=cells1 by rw[<-Array.foldl_toList,Array.toList_zipIdx]]
   exact g1;rw[y,g];have q:(i+1)*k=i*k+k:=by rw[vk]
   have r:(i+1+d.length)*k=i*k+k+d.length*k:=by rw[Nat.add_mul,q]
   have t:(i+(d.length+1))*k=i*k+k+d.length*k:=by rw[<-r];congr 1;omega
   have p:(cells.toList.take (i*k)++(a.eval x).cells.toList).length=i*k+k:=by simp[e];omega
   rw[q,r,xm,t,List.take_left' p];have u:(cells.toList.take (i*k)++(a.eval x).cells.toList++cells.toList.drop (i*k+k)).drop (i*k+k+d.length*k)=cells.toList.drop (i*k+k+d.length*k):=by rw[List.drop_append,p,show i*k+k+d.length*k - (i*k+k)=d.length*k by omega,xf (by rw[p];omega),List.drop_drop,uf]
   rw[u];simp
 | [],_::_,_,_,h,_=>h.elim
 | (_,_)::_,[],_,_,h,_=>h.elim
end ops
def cpyL{α:Type}(xs ys:List α):List α:=ys.take xs.length++xs.drop ys.length
section ops
variable {X:Cx}{st:Nat->Option Ly}{mm:Nat->Option Ct}
def SlF(mm:Nat->Option Ct)(d:Ly)(k:Nat)(ls:List Ly):Prop:=d=sli k ls\/∃ id E,d=.own id/\mm id=some (.sl E k ls)
theorem Jbb{t k ls x a w γ}(r:Inv X st mm a w γ)(h:SlF mm t k ls)(s:OpdF st x t):
 (a.eval x=.slice none 0 0/\ls=[])\/(∃ b o cap cs,a.eval x=.slice (some ⟨b,o,none⟩) ls.length cap/\ls.length<=cap/\cap<=maxLen/\b<w.heap.size /\
   (∀ j u,cs[j]?=some u->w.cell? ⟨b,o+j,none⟩=some u)/\Ly.holds w (X.S γ mm) γ ls cs/\∀ ly∈ls,ly.sz=k)\/(ls=[]/\∃ y,a.eval x=.slice (some y) 0 0):=by
 rcases h with rfl | ⟨id,E,rfl,hm⟩;rcases s.val r with ⟨d,e⟩ | ⟨b,o,cap,cs,d,e,n,p,F,q,H,I⟩ | h;exact .inl ⟨d,e⟩;exact .inr (.inl ⟨b,o,cap,cs,d,e,n,p,q,Ly.holds_mono (Kp.refl _ _) (λb J=>.inl J) (λ_ _ h=>by cases h) _ _ H,I⟩);exact .inr (.inr h);obtain⟨v,cs,i,⟨L,A⟩,B,C⟩:=slI r hm;obtain⟨K,_⟩:=s.val r;rw[K] at i;simp at i;rcases A with ⟨d,hn⟩ | ⟨g,cap,cur,d,_,e,n,p,F,q⟩;exact .inl ⟨by rw[i,d],by simpa using hn⟩;refine .inr (.inl ⟨g,0,cap,cs,by rw[i,d],n,p,?_,λj u f=>?_,B,C⟩);rcases xo g w.heap.size with h | h;exact h;simp[uc h] at e;rw[X5 e,<-yb,xj];rw[<-q] at f;rw[uz] at f;split at f;exact f;cases f
theorem Qw0{P:Program}(w:World)(base:Nat)(T ty E:TypeId)(i:TypeInfo)(k:Nat)(d:P.underlying T=some (.slice E))(hi:P.info? E=some i)(v:Value)(n:Nat)(cs:List Value)(h:w.ownsRow base E k v n cs)(e:Addr):
 (Builtin.append_ #[T,T] ty #[v,.slice (some e) 0 0]).run P w=.ok v w:=by
 rcases h.2 with ⟨rfl,rfl⟩ | ⟨g,cap,cur,rfl,_,_,f,_⟩;simp[Builtin.append_,underlying,d,sizeOf,typeInfo,hi,Builtin.lenOf,Builtin.firstCells,loadCells,loadCellsFrom];simp[Builtin.append_,underlying,d,sizeOf,typeInfo,hi,Builtin.lenOf,Builtin.firstCells,loadCells,loadCellsFrom,storeCells,f]
theorem Qm5{w S γ}:∀ {i f:List Ly}{c1 d:List Value},Ly.holds w S γ i c1->Ly.holds w S γ f d->Ly.holds w S γ (i++f) (c1++d)
 | [],f,c1,d,e,g=>by simp only[Ly.holds] at e;subst e;simpa using g
 | ly::i,f,c1,d,e,g=>by obtain⟨j,k,rfl,g1,n⟩:=e;exact⟨j,k++d,oc,g1,Qm5 n g⟩
theorem Q29{k:Nat}:∀ {l:List Ly},(∀ ly∈l,ly.sz=k)->Ly.szs l=l.length*k
 | [],_=>by simp[Ly.szs]
 | ly::l,h=>by simp[Ly.szs,h ly uv,Q29 (λx d=>h x (uq _ d)),vk];omega
theorem app{d s x T ty pos af y id E k b z lx}{α:Type}{f:α->Ly}{xs ys zs:List α}(hz:appM b xs ys=some zs)(hm:mm id=some (.sl E k (xs.map f)))(H:X.P.underlying T=some (.slice E))(hE:TyI X.P E k b z)(hzk:z.cells.size=k)(hk0:Nat.blt 0 k=true)
 (hs:OpdF st s (.own id)) (hx:OpdF st x lx) (hF:SlF mm lx k (ys.map f)) (hy:mm y=none) (hd:Nat.blt d X.N=true) :
 OpOk X st mm ⟨some d,.call { callee:=.builtin .append,args:=#[s,x],argTypes:=#[T,T] },ty,pos,af,none⟩ [(d,.own y)] [(y,.sl E k (zs.map f)),(id,.gone)]:=by
 intro a w γ K Q hI hK;unfold appM at hz;split at hz
 case isFalse=>cases hz
 rename_i hle;obtain⟨hbytes,h63⟩:=hle;cases hz;obtain⟨i,hi,L,t,I⟩:=hE;have C:0<k:=by simpa using hk0
 obtain⟨v,cs,e1,B,e3,e4⟩:=slI hI hm;obtain⟨hv,hv1⟩:=hs.val hI;have hvs:a.eval s=v:=by rw[hv] at e1;simpa using e1
 rw[ou] at B
 have fin:∀ v' w' news,(Builtin.append_ #[T,T] ty #[v,a.eval x]).run X.P w=.ok v' w'->w'.ownsRow 0 E k v' (xs.length+ys.length) (cs++news)->w.grownBy w' v.ownBlock->Ly.holds w (X.S γ mm) γ (ys.map f) news ->
  (∀ b,blkOf v'=some b->(blkOf v=some b\/w.heap.size<=b))->(∀ ly∈ys.map f,ly.sz=k) ->
  Oper.wp X.P ⟨some d,.call { callee:=.builtin .append,args:=#[s,x],argTypes:=#[T,T] },ty,pos,af,none⟩ a w K Q:=by
  intro v' w' news hr r O hh A hz2;have hrun:(execOp a.eval ⟨some d,.call { callee:=.builtin .append,args:=#[s,x],argTypes:=#[T,T] },ty,pos,af,none⟩).run X.P w=.ok (.value v') w':=by simp only[execOp,resolve];simp[invoke,builtin,hvs,hr]
  unfold Oper.wp;rw[hrun];have hob:v.ownBlock=blkOf v:=by rcases B.2 with ⟨rfl,_⟩ | ⟨g,cap,cur,rfl,_⟩<;>rfl
  have hk:Kp (λb=>blkOf v=some b) w w':=⟨O.size,λb n hn=>O.block b n (by rw[hob];exact λh=>hn h.symm)⟩
  have hkS:Kp (X.S γ mm) w w':=⟨O.size,λb n hn=>hk.2 b n (λh=>hn (.inr ⟨id,_,v,hm,rfl,e1,h⟩))⟩
  have Z:v'.oneCell'=true:=by rcases r.2 with ⟨rfl,_⟩ | ⟨g,cap,cur,rfl,_⟩<;>rfl
  have W:=hI.replace O.os O.tape O.output hm rfl e1 hk (y:=y) (ct:=.sl E k ((xs++ys).map f)) (v':=v') hy rfl
   (λS γ' hS hng hy'=>by
    refine⟨v',cs++news,hy',by simpa using r,?_,?_⟩
    . rw[yf]
      exact Ly.holds_mono hkS hS hng _ _ (Qm5 e3 hh)
    . intro ly Y
      rw[yf] at Y;rcases ym.1 Y with h | h
      . exact e4 ly h
      . exact hz2 ly h)
   (λb n=>⟨A b n,by
    rcases r.2 with ⟨rfl,_⟩ | ⟨g,cap,cur,rfl,_,N,_⟩
    . simp[blkOf] at n
    . simp[blkOf] at n;subst n
      rcases xo g w'.heap.size with h | h
      . exact h
      . simp[uc h] at N⟩)
  exact hK _ _ _ (W.put (d:=d) (v:=v') (ly:=.own y) (by simpa using hd) ⟨by simp[Inv.gset],Z⟩)
 rcases Jbb hI hF hx with ⟨M,N⟩ | ⟨bb,o,cap,news,M,N,h3,h4,h5,U,h7⟩ | ⟨N,ad,M⟩
 rotate_left 2
 . have:ys=[]:=by simpa using N
   subst this;have hr:=Qw0 (P:=X.P) w 0 T ty E i k H hi v xs.length cs B ad;exact fin v w [] (by rw[M];exact hr) (by simpa using B) ⟨rfl,rfl,rfl,xn _,λ_ _ _=>rfl⟩ (by simp[Ly.holds]) (λb h=>.inl h) (λly h=>by cases h)
 . have:ys=[]:=by simpa using N
   subst this;have hr:=run_append_owned_none (P:=X.P) w 0 T ty E i k H hi v xs.length cs B;exact fin v w [] (by rw[M];exact hr) (by simpa using B) ⟨rfl,rfl,rfl,xn _,λ_ _ _=>rfl⟩ (by simp[Ly.holds]) (λb h=>.inl h) (λly h=>by cases h)
 . have J:news.length=ys.length*k:=by
    have:=Ly.holds_sz _ _ U;rw[Q29 h7] at this;simpa using this
   rw[ou] at M
   obtain⟨v',w',r1,r2,r3,r4⟩:=run_append_own (P:=X.P) w 0 T ty E i z k b H hi L t I hzk C v xs.length cs B ⟨bb,o,none⟩ ys.length cap news J
    (λj u q=>by rw[add0];exact h5 j u q) (Ly.oneCell_of_holds _ _ U) (by unfold maxLen;omega) hbytes (ya _)
   refine fin v' w' news (by rw[M];exact r1) r2 r3 U (λbk A=>?_) h7;have F:Src X.P i.size T (.slice (some ⟨bb,o,none⟩) ys.length cap) ys.length news w:=Src.ofSlice w H _ _ _ _ (by rw[t];exact J) (λj u q=>by rw[add0];exact h5 j u q) (Ly.oneCell_of_holds _ _ U);rcases B with ⟨V,⟨rfl,hn0⟩ | ⟨g,e,cur,rfl,_,g2,g3,g4,g5,g6⟩⟩
   . 
    obtain⟨v2,w2,q1,q2,_,_⟩:=run_append_own (P:=X.P) w w.heap.size T ty E i z k b H hi L t I hzk C (.slice none 0 0) xs.length cs ⟨V,.inl ⟨rfl,hn0⟩⟩ ⟨bb,o,none⟩ ys.length cap news J
     (λj u q=>by rw[add0];exact h5 j u q) (Ly.oneCell_of_holds _ _ U) (by unfold maxLen;omega) hbytes (xn _)
    rw[r1] at q1;obtain⟨rfl,rfl⟩:v'=v2/\w'=w2:=by simpa using q1
    rcases q2.2 with ⟨rfl,_⟩ | ⟨g,cap1,cur1,rfl,hge,_⟩
    . simp[blkOf] at A
    . simp[blkOf] at A;subst A;exact .inr hge
   . by_cases hroom:xs.length+ys.length<=e
     . have p:=run_append_room_src (P:=X.P) w T T ty E i H hi g 0 xs.length e _ ys.length news F hroom
        (λj q=>by
         rw[X5 g2,t];have:0+xs.length*k+j<cur.size:=by rw[g5];have:=xt k hroom;rw[Nat.add_mul] at this;omega
         rw[uj this];rfl)
        (λj q=>by simp[World.frozen?,g2])
       rw[r1] at p;simp at p;rw[p.1] at A;exact .inl A
     . have hold:(Builtin.firstCells i.size xs.length (.slice (some ⟨g,0,none⟩) xs.length e)).run X.P w.drew=.ok cs.toArray w.drew:=
        run_firstCells_some w.drew i.size xs.length ⟨g,0,none⟩ xs.length e cs (by rw[t];exact V) (λj u q=>by
         rw[add0,xj];have:w.drew.cell? ⟨g,j,none⟩=w.cell? ⟨g,j,none⟩:=rfl;rw[this,X5 g2,<-yb];rw[<-g6,uz] at q;split at q
         . exact q
         . cases q)
       have p:=run_append_grow_src (P:=X.P) w T T ty E i z H hi L (some ⟨g,0,none⟩) xs.length e cs hold _ ys.length news F om om (growslice_fits om (by rw[I];exact hbytes));rw[r1] at p;simp at p;rw[p.1] at A;simp[blkOf] at A;subst A;exact .inr (xn _)
end ops
section ops
variable {X:Cx}{st:Nat->Option Ly}{mm:Nat->Option Ct}
theorem bsl{d T len parts ty pos af y E k b z ls}(H:X.P.underlying T=some (.slice E))(F:TyI X.P E k b z)(_:z.cells.size=k)(e:parts.length=len)(n:ls.length=len)(A:Nat.ble (len*k) 16777216=true)(v:Nat.blt 0 k=true)
 (hp:Parts st k 0 parts ls) (Y:mm y=none) (hd:Nat.blt d X.N=true) :
 OpOk X st mm ⟨some d,.buildSlice T len ⟨parts⟩,ty,pos,af,none⟩ [(d,.own y)] [(y,.sl E k ls)]:=by
 have J:=uw A;have t:0<k:=by simpa using v
 refine Qxy hd Y rfl λa w γ O=>?_;have g:=F;obtain⟨i,hi,s,W,U⟩:=F;let zc:Array Value:=if len*k=0 then #[] else z.cells
 let cells0:Array Value:=(Array.range (len*k)).map (λx=>zc[x%zc.size]!);obtain⟨cells',cs,g1,L,g3,g4,C⟩:=Q5s O parts ls 0 cells0 hp (by simp[cells0,e]);have r:cells'.toList=cs:=by rw[C];simp only[Nat.zero_mul,List.take_zero,uf,xj];rw[xf (by simp[cells0,e])];simp
 refine⟨.slice (some ⟨w.heap.size,0,none⟩) len len,w.alloc (.cells cells' E),?_,rfl,rfl,rfl,Qm4 _ _ _,rfl,λS γ' P V B=>?_,λbb I=>by simp[blkOf] at I;subst I;simp⟩;have hn:¬ 16777216<len*k:=om
 simp only[execOp];have hzero:∀ w:World,(if len*k=0 then (pure #[]:Sem (Array Value)) else do pure (<-zeroValue E).cells).run X.P w=.ok zc w:=by intro w;by_cases h0:len*k=0;simp[h0,zc];simp[h0,zc,Qgz g]
 have hfill:Instr.fill (λi=>some (i*k,k)) cells0 (parts.map λ(i,x)=>(i,a.eval x))=some cells':=g1;by_cases h0:len*k=0;have s:zc=#[]:=by simp[zc,h0]
 simp[Instr.buildSlice,underlying,H,Xk g,h0];have K:cells0=#[]:=by simp[cells0,h0]
 have q:Instr.fill (λi=>some (i*k,k)) (Array.map (λ_=>(default:Value)) (Array.range 0)) (List.map (λx=>(x.fst,a.eval x.snd)) parts)=some cells':=by rw[show Array.map (λ_=>(default:Value)) (Array.range 0)=cells0 by rw[K];simp];exact g1
 rw[q];simp[newRow];have s:zc=z.cells:=by simp[zc,h0]
 simp[Instr.buildSlice,underlying,H,Xk g,Qgz g,hn,h0];have q:Instr.fill (λi=>some (i*k,k)) (Array.map (λx=>z.cells[x%z.cells.size]!) (Array.range (len*k))) (List.map (λx=>(x.fst,a.eval x.snd)) parts)=some cells':=by rw[<-s];exact g1
 rw[q];simp[newRow];refine⟨_,cs,B,⟨by rw[g4,e,n],.inr ⟨w.heap.size,len,cells',by rw[n],ya _,Qr1 _ _,om,?_,?_,?_⟩⟩,Ly.holds_mono (Qm4 _ _ _) P V _ _ g3,?_⟩;unfold maxLen;have:len<=len*k:=Nat.le_mul_of_pos_right _ t;omega;have:=yj List.length r;simp only[gj] at this;rw[this,g4,e];rw[r,n,xc (by rw[g4,e];exact xn _)];clear g1 L g3 g4 C r n e;have:∀(u:List (Nat×Operand)) (ls:List Ly) (j:Nat),Parts st k j u ls->∀ ly∈ls,ly.sz=k:=by
  intro u
  induction u with
  | nil=>intro ls j h ly f;cases ls with | nil=>cases f | cons _ _=>exact h.elim
  | cons p u Z=>
    intro ls j h ly f;obtain⟨i,x⟩:=p;cases ls with
    | nil=>exact h.elim
    | cons l ls=>
      obtain⟨_,_,M,_,N⟩:=h;rcases xg.1 f with rfl | f;exact M;exact Z ls (j+1) N ly f
 exact this parts ls 0 hp
theorem Q4q{α:Type}{l r:List α}{lo hi:Int}(h:sub l lo hi=some r):0<=lo/\lo<=hi/\hi<=l.length/\r=(l.take hi.toNat).drop lo.toNat:=by unfold sub at h;split at h;rename_i d;exact⟨d.1,d.2.1,d.2.2,by simpa using h.symm⟩;cases h
def BndF(st:Nat->Option Ly)(p:Int):Option Operand->Int->Prop
 | none,q=>q=p
 | some x,q=>∃ d,OpdF st x (.cell (cpI d q))
theorem Qr2{a w γ p q o}(e:Inv X st mm a w γ)(h:BndF st p o q):(o=none/\q=p)\/∃ x d,o=some x/\a.eval x=.int d q:=by
 cases o with
 | none=>exact .inl ⟨rfl,h⟩
 | some x=>obtain⟨d,h⟩:=h;exact .inr ⟨x,d,rfl,((OpdF.val e h:Ly.val _ _ _ _ _)).1⟩
theorem Qe0{P:Program}{w:World}{isS:Bool}{len cap:Nat}{lo hi:Option Value}{p q:Int}(g:(lo=none/\p=0)\/∃ d,lo=some (.int d p))(f:(hi=none/\q=len)\/∃ d,hi=some (.int d q))
 (h0:0<=p) (k:p<=q) (e:q<=cap):(Instr.sliceBounds isS len cap lo hi none).run P w=.ok (p.toNat,q.toNat,cap) w:=by
 have i:(0<=q/\q<=(cap:Int)):=⟨om,e⟩
 have j:(0<=p/\p<=((q.toNat:Nat):Int)):=⟨h0,om⟩
 rcases g with ⟨rfl,rfl⟩ | ⟨r,rfl⟩<;>rcases f with ⟨rfl,rfl⟩ | ⟨n,rfl⟩ <;>
  simp_all [Instr.sliceBounds,Instr.sliceBound,asIntOf]
theorem Qgd{w S γ k}:∀ {l:List Ly}{cs:List Value}(i:Nat),Ly.holds w S γ l cs->(∀ ly∈l,ly.sz=k)->Ly.holds w S γ (l.take i) (cs.take (i*k))/\Ly.holds w S γ (l.drop i) (cs.drop (i*k))
 | l,cs,0,h,_=>by simpa [Ly.holds] using h
 | [],cs,i+1,h,_=>by simp only[Ly.holds] at h;subst h;simp[Ly.holds]
 | ly::l,cs,i+1,h,g=>by
   obtain⟨c1,q,rfl,f,n⟩:=h;obtain⟨g1,j⟩:=Qgd i n (λx p=>g x (uq _ p));have d:c1.length=k:=by rw[Ly.hold_sz _ _ f,g ly uv]
   have e:(i+1)*k=c1.length+i*k:=by rw[d,vk];omega
   rw[e];simp only[ge,List.drop_succ_cons,List.take_length_add_append,List.drop_length_add_append];exact⟨⟨c1,_,rfl,f,g1⟩,j⟩
theorem slR{d x lo hi T ty pos af E k b z p q}{α:Type}{f:α->Ly}{xs ys:List α}(S:sub xs p q=some ys)(A:X.P.underlying T=some (.slice E))(y:TyI X.P E k b z)
 (hd:Nat.blt d X.N=true) (U:OpdF st x (sli k (xs.map f))) (F:BndF st 0 lo p) (C:BndF st xs.length hi q) :
 OpOk X st mm ⟨some d,.slice T x lo hi none,ty,pos,af,none⟩ [(d,sli k (ys.map f))] []:=
 X4 hd λa w γ B=>by
  obtain⟨h0,O,v,rfl⟩:=Q4q S;have i:(lo.map a.eval=none/\p=0)\/∃ s,lo.map a.eval=some (.int s p):=by
   rcases Qr2 B F with ⟨rfl,h⟩ | ⟨x,s,rfl,h⟩
   . exact .inl ⟨rfl,h⟩
   . exact .inr ⟨s,by simp[h]⟩
  have g:(hi.map a.eval=none/\q=(xs.length:Nat))\/∃ s,hi.map a.eval=some (.int s q):=by
   rcases Qr2 B C with ⟨rfl,h⟩ | ⟨x,s,rfl,h⟩
   . exact .inl ⟨rfl,h⟩
   . exact .inr ⟨s,by simp[h]⟩
  rcases U.val B with ⟨r,hn⟩ | ⟨bb,o,cap,cs,r,k1,k2,L,M,V,W,H⟩ | ⟨hn,I,r⟩
  rotate_left 2
  . have:xs=[]:=by simpa using hn
    subst this;simp only[yh] at v;obtain rfl:q=0:=by simp at v;omega
    obtain rfl:p=0:=om
    refine⟨.slice (some I) 0 0,?_,.inr (.inr ⟨oc,I,rfl⟩)⟩;have:=Qe0 (P:=X.P) (w:=w) (isS:=true) (len:=0) (cap:=0) i g om om om;simp only[execOp,r];simp[Instr.sliceAt,Instr.slice,underlying,A,this,Xk y]
  . have:xs=[]:=by simpa using hn
    subst this;simp only[yh] at v;obtain rfl:q=0:=by simp at v;omega
    obtain rfl:p=0:=om
    refine⟨.slice none 0 0,?_,.inl ⟨rfl,oc⟩⟩;have:=Qe0 (P:=X.P) (w:=w) (isS:=true) (len:=0) (cap:=0) i g om om om;simp only[execOp,r];simp[Instr.sliceAt,Instr.slice,underlying,A,this,Xk y]
  . rw[ou] at r k1
    have J:=Qe0 (P:=X.P) (w:=w) (isS:=true) (len:=xs.length) (cap:=cap) i g h0 O om;have e:(((xs.take q.toNat).drop p.toNat).map f).length=q.toNat - p.toNat:=oh
    by_cases K:cap=p.toNat
    . subst K
      refine⟨.slice (some ⟨bb,o,none⟩) (q.toNat - p.toNat) (p.toNat - p.toNat),?_,.inr (.inl ⟨bb,o,p.toNat - p.toNat,[],by rw[e],by rw[e];omega,om,L,M,λj u t=>by simp at t,?_,?_⟩)⟩
      . simp only[execOp,r]
        simp[Instr.sliceAt,Instr.slice,underlying,A,J,Xk y]
      . have:((xs.take q.toNat).drop p.toNat).map f=[]:=ow (by rw[e];omega)
        rw[this];rfl
      . intro ly n
        have:((xs.take q.toNat).drop p.toNat).map f=[]:=ow (by rw[e];omega);rw[this] at n;cases n
    . obtain⟨g1,_⟩:=Qgd q.toNat W H
      obtain⟨_,N⟩:=Qgd p.toNat g1 (λly h=>H ly (yx h));refine⟨.slice (some ⟨bb,o+p.toNat*k,none⟩) (q.toNat - p.toNat) (cap - p.toNat),?_,.inr (.inl ⟨bb,o+p.toNat*k,cap - p.toNat,_,by rw[e],by rw[e];omega,om,L,M,λj u t=>?_,by rw[jc,dt];exact N,?_⟩)⟩
      . simp only[execOp,r]
        simp[Instr.sliceAt,Instr.slice,underlying,A,J,Xk y,K,add0]
      . rw[vw,uz] at t
        split at t
        . rw[jk];exact V _ u t
        . cases t
      . intro ly n
        rw[jc,dt] at n;exact H ly (yx (wn n))
theorem slS{d x lo hi T ty pos af p q s t}(B:sub s p q=some t)(y:X.P.underlying T=some .string)
 (hd:Nat.blt d X.N=true) (E:OpdF st x (str s)) (n:BndF st 0 lo p) (k:BndF st s.length hi q) :
 OpOk X st mm ⟨some d,.slice T x lo hi none,ty,pos,af,none⟩ [(d,str t)] []:=
 X4 hd λa w γ j=>by
  obtain⟨h0,u,v,rfl⟩:=Q4q B;have i:(lo.map a.eval=none/\p=0)\/∃ f,lo.map a.eval=some (.int f p):=by rcases Qr2 j n with ⟨rfl,h⟩ | ⟨x,f,rfl,h⟩;exact .inl ⟨rfl,h⟩;exact .inr ⟨f,by simp[h]⟩
  have g:(hi.map a.eval=none/\q=(s.length:Nat))\/∃ f,hi.map a.eval=some (.int f q):=by rcases Qr2 j k with ⟨rfl,h⟩ | ⟨x,f,rfl,h⟩;exact .inl ⟨rfl,h⟩;exact .inr ⟨f,by simp[h]⟩
  obtain⟨C,F⟩:=E.val j;have A:=Qe0 (P:=X.P) (w:=w) (isS:=false) (len:=s.length) (cap:=s.length) i g h0 u v;have e:(ByteArray.mk s.toArray).size=s.length:=rfl;refine⟨.string ⟨((s.take q.toNat).drop p.toNat).toArray⟩,?_,rfl,oh⟩;have r:(ByteArray.mk s.toArray).extract p.toNat q.toNat=⟨((s.take q.toNat).drop p.toNat).toArray⟩:=by apply ByteArray.ext;rw[ByteArray.data_extract];apply gu;simp[List.extract_eq_take_drop,List.drop_take]
  simp only[execOp,C];simp[Instr.sliceAt,Instr.slice,underlying,y,e,A,r]
end ops
def FzR(id k:Nat)(ls:List Ly)(ly d:Ly):Prop:=∀ w S (γ:Nm) v,γ id=some v->(cpL k ls).p w S v->(∀ cs,ly.hold w S γ cs->d.hold w S γ cs)/\(∀ v,ly.val w S γ v->d.val w S γ v)
def FzRs(id k:Nat)(ls:List Ly)(l l':List Ly):Prop:=∀ w S (γ:Nm) v,γ id=some v->(cpL k ls).p w S v->(∀ cs,Ly.holds w S γ l cs->Ly.holds w S γ l' cs)
theorem fz_id{id k ls ly}:FzR id k ls ly ly:=λ_ _ _ _ _ _=>⟨λ_ h=>h,λ_ h=>h⟩
theorem Jgm{id k ls}:FzR id k ls (.own id) (sli k ls):=λw S γ v e hp=>
 ⟨λcs h=>by obtain⟨u,rfl,d,f⟩:=h;rw[e] at d;simp at d;subst d;exact⟨v,rfl,hp⟩,
  λu h=>by obtain⟨d,f⟩:=h;rw[e] at d;simp at d;subst d;exact hp⟩
theorem Jeg{id k ls}:FzRs id k ls [] []:=λ_ _ _ _ _ _ _ h=>h
theorem Jbc{id k ls ly d l l'}(i:FzR id k ls ly d)(j:FzRs id k ls l l'):FzRs id k ls (ly::l) (d::l'):=λw S γ v e hp cs h=>by obtain⟨c1,f,rfl,g1,g⟩:=h;exact⟨c1,f,rfl,(i w S γ v e hp).1 _ g1,j w S γ v e hp _ g⟩
theorem Jgn{id k ls l l'}(h:FzRs id k ls l l'):FzR id k ls (.agg l) (.agg l'):=λw S γ v d hp=>
 ⟨λcs g=>by simp only[Ly.hold] at g |-;exact h w S γ v d hp _ g,λu g=>by simp only[Ly.val] at g |-;obtain⟨cs,rfl,g⟩:=g;exact⟨cs,rfl,h w S γ v d hp _ g⟩⟩
def FzL(id k:Nat)(ls:List Ly)(l:List (Nat×Ly)):List (Nat×Ly)->Prop
 | []=>True
 | (d,e)::r=>(∃ ly,lk l d=some ly/\FzR id k ls ly e)/\FzL id k ls l r
def FzM(id k:Nat)(ls:List Ly)(m:List (Nat×Ct)):List (Nat×Ct)->Prop
 | []=>True
 | (i,.bx E d)::r=>(Nat.beq id i=false/\∃ ly,lk m i=some (.bx E ly)/\FzR id k ls ly d)/\FzM id k ls m r
 | _::_=>False
theorem FzL.get{id k ls l}:∀ {r:List (Nat×Ly)},FzL id k ls l r->∀ d e,lk r d=some e->∃ ly,lk l d=some ly/\FzR id k ls ly e
 | [],_,d,e,h=>by cases h
 | (i,x)::r,g,d,e,h=>by simp only[lk] at h;cases f:Nat.beq i d;rw[f] at h;exact FzL.get g.2 d e h;rw[f] at h;have:i=d:=xz f;subst this;simp at h;subst h;exact g.1
theorem FzM.get{id k ls m}:∀ {r:List (Nat×Ct)},FzM id k ls m r->∀ i c,lk r i=some c->∃ E ly f,id≠i/\c=.bx E f/\lk m i=some (.bx E ly)/\FzR id k ls ly f
 | [],_,d,f,h=>by cases h
 | (i,x)::r,j,d,c,h=>by
   cases x with
   | bx E f=>
     simp only[lk] at h;cases g:Nat.beq i d;rw[g] at h;exact FzM.get j.2 d c h;rw[g] at h;have:i=d:=xz g;subst this;simp at h;subst h;obtain⟨⟨n,ly,p,q⟩,_⟩:=j;exact⟨E,ly,f,λe=>by subst e;simp at n,rfl,p,q⟩
   | _=>exact j.elim
theorem Q4r{α:Type}{st:Nat->Option α}{el i}(h:lk el i=none):up st el i=st i:=by simp[up,h]
theorem Jbd{α:Type}{st:Nat->Option α}{el i x}(h:lk el i=some x):up st el i=some x:=by simp[up,h]
theorem frz{R:Type}{X:Cx}{l:List (Nat×Ly)}{m:List (Nat×Ct)}{md:Option R}{G:R->Act->World->Prop}{id E k ls}(W:List (Nat×Ly))(s:List (Nat×Ct))(U:lk m id=some (.sl E k ls))(S:IFs ls)
 (T:FzL id k ls l W) (C:FzM id k ls m s) (K:Sq X (W++l) (s++(id,.gone)::m) md G):Sq X l m md G:=by
 intro r a w γ hr hi;refine K r a w γ hr ?_;obtain⟨v,cs,L,⟨e2,e3⟩,e4,e5⟩:=slI hi U;have hd:=hi.drop id;have hS:∀ b,X.S γ (up (lk m) [(id,.gone)]) b->X.S γ (lk m) b:=by rintro b (h | ⟨i,n,u,p,B,t,y⟩);exact .inl h;rw[Xg] at p;by_cases e:id=i;simp[e] at p;subst p;simp[Ct.alive] at B;simp[e] at p;exact .inr ⟨i,n,u,p,B,t,y⟩
 have hp:(cpL k ls).p w (X.S γ (up (lk m) [(id,.gone)])) v:=by rcases e3 with ⟨rfl,hn⟩ | ⟨g,cap,cur,rfl,_,B,t,y,Z,N⟩;exact .inl ⟨rfl,ow hn⟩;have hmine:=hi.mine g ⟨id,_,_,U,rfl,L,rfl⟩;refine .inr (.inl ⟨g,0,cap,cs,rfl,t,y,hmine.2.1,?_,λj u M=>?_,Ly.holds_mono (Kp.refl _ _) (λb P=>.inl (hS b P)) (Ng.refl _) _ _ ((S w _ γ (λ_=>none)).1 _ e4),e5⟩);rintro(h | ⟨i,n,u,k1,k2,V,k4⟩);exact hmine.2.2 h;rw[Xg] at k1;by_cases e:id=i;simp[e] at k1;subst k1;simp[Ct.alive] at k2;simp[e] at k1;exact e (hi.apart id i _ n _ u g U rfl k1 k2 L V rfl k4);rw[X5 B,<-yb,xj];rw[<-N,uz] at M;split at M;exact M;cases M
 have F:lk (s++(id,.gone)::m)=up (up (lk m) [(id,.gone)]) s:=by rw[up_lk,up_lk];rfl
 have I:∀ b,Ow γ (lk (s++(id,.gone)::m)) b↔Ow γ (up (lk m) [(id,.gone)]) b:=by
  intro b;rw[F];constructor;rintro⟨i,c,u,p,B,t,y⟩;simp only[up] at p;cases f:lk s i with
  | none=>rw[f] at p;exact⟨i,c,u,p,B,t,y⟩
  | some n=>
    rw[f] at p;simp at p;subst p;obtain⟨E',ly,A,g0,g1,H,g3⟩:=C.get i n f;exact⟨i,_,u,by rw[Xg,ol g0];exact H,rfl,t,y⟩
  rintro⟨i,c,u,p,B,t,y⟩;cases f:lk s i with
  | none=>exact⟨i,c,u,by simp only[up];rw[f];exact p,B,t,y⟩
  | some n=>
    obtain⟨E',ly,A,g0,g1,H,g3⟩:=C.get i n f;exact⟨i,n,u,by simp only[up];rw[f],by rw[g1];rfl,t,y⟩
 have J:X.S γ (lk (s++(id,.gone)::m))=X.S γ (up (lk m) [(id,.gone)]):=by funext b;exact propext ⟨λh=>orM h (λx=>x) (I b).1,λh=>orM h (λx=>x) (I b).2⟩
 refine { hd with fresh:=?_,cts:=?_,apart:=?_,mine:=λb P=>hd.mine b ((I b).1 P),sts:=?_ };intro i h;rw[F] at h;simp only[up] at h;cases f:lk s i with
 | none=>rw[f] at h;exact hd.fresh i h
 | some n=>rw[f] at h;cases h
 intro i c h;rw[J];rw[F] at h;cases f:lk s i with
 | none=>rw[Q4r f] at h;exact hd.cts i c h
 | some n=>
   rw[Jbd f] at h;simp at h;subst h;obtain⟨E',ly,A,g0,rfl,H,g3⟩:=C.get i n f;obtain⟨g,cur,k1,k2,V⟩:=hd.cts i (.bx E' ly) (by rw[Xg,ol g0];exact H);exact⟨g,cur,k1,k2,(g3 w _ γ v L hp).1 _ V⟩
 intro i i' c1 c2 u u' b p B t y Z N h7 h8;have tr:∀ i c,lk (s++(id,.gone)::m) i=some c->c.alive=true->∃ n,up (lk m) [(id,.gone)] i=some n/\n.alive=true:=by
  intro i c h O;rw[F] at h;cases f:lk s i with
  | none=>rw[Q4r f] at h;exact⟨c,h,O⟩
  | some n=>
    obtain⟨E',ly,A,g0,g1,H,g3⟩:=C.get i n f;exact⟨_,by rw[Xg,ol g0];exact H,rfl⟩
 obtain⟨d1,q1,q2⟩:=tr i c1 p B;obtain⟨d2,q3,q4⟩:=tr i' c2 t y;exact hd.apart i i' d1 d2 u u' b q1 q2 q3 q4 Z N h7 h8;intro d ly q;rw[J];rw[<-up_lk] at q;cases f:lk W d with
 | none=>rw[Q4r f] at q;exact hd.sts d ly q
 | some A=>
   rw[Jbd f] at q;simp at q;subst q;obtain⟨Y,g1,H⟩:=T.get d A f;obtain⟨u,k1,k2⟩:=hd.sts d Y g1;exact⟨u,k1,(H w _ γ v L hp).2 _ k2⟩
section ops
variable {X:Cx}{st:Nat->Option Ly}{mm:Nat->Option Ct}
theorem cpy{d t s T H ty pos af id E k b z lx}{α:Type}{f:α->Ly}{xs ys:List α}(hm:mm id=some (.sl E k (xs.map f)))(hT:X.P.underlying T=some (.slice E))(hE:TyI X.P E k b z)
 (ht:OpdF st t (.own id)) (hs:OpdF st s lx) (hF:SlF mm lx k (ys.map f)) (hd:Nat.blt d X.N=true) :
 OpOk X st mm ⟨some d,.call { callee:=.builtin .copy,args:=#[t,s],argTypes:=#[T,H] },ty,pos,af,none⟩ [(d,i64 (min ys.length xs.length:Nat))] [(id,.sl E k ((cpyL xs ys).map f))]:=by
 intro a w γ K Q M hK;have x:=Xk (P:=X.P) hE;obtain⟨v,cs,J,Z,e3,e4⟩:=slI M hm;obtain⟨hv,hv1⟩:=ht.val M;have Y:a.eval t=v:=by rw[hv] at J;simpa using J
 rw[ou] at Z;have r:∀ n:Nat,n<=maxLen->IntKind.i64.min<=(n:Int)/\(n:Int)<=IntKind.i64.max:=λn h=>len_b h;have none_:(min ys.length xs.length=0)->(Builtin.copy_ #[T,H] ty #[v,a.eval s]).run X.P w=.ok (.int .i64 (0:Nat)) w->Oper.wp X.P ⟨some d,.call { callee:=.builtin .copy,args:=#[t,s],argTypes:=#[T,H] },ty,pos,af,none⟩ a w K Q:=by
  intro h0 hr;have q:(execOp a.eval ⟨some d,.call { callee:=.builtin .copy,args:=#[t,s],argTypes:=#[T,H] },ty,pos,af,none⟩).run X.P w=.ok (.value (.int .i64 (0:Nat))) w:=by simp only[execOp,resolve];simp[invoke,builtin,Y,hr]
  unfold Oper.wp;rw[q];have hxs:cpyL xs ys=xs:=by
   unfold cpyL;rcases Nat.min_eq_zero_iff.1 h0 with h | h
   . have:ys=[]:=ow h
     subst this;simp
   . have:xs=[]:=ow h
     subst this;simp
  have p:Inv X st (up mm [(id,.sl E k ((cpyL xs ys).map f))]) a w γ:=by
   rw[hxs];have:up mm [(id,.sl E k (xs.map f))]=mm:=by
    funext i;rw[Xg];split
    . rename_i h;subst h;exact hm.symm
    . rfl
   rw[this];exact M
  exact hK _ _ _ (p.put (d:=d) (v:=.int .i64 (0:Nat)) (by simpa using hd) (by rw[h0];exact⟨rfl,r 0 (ya _)⟩))
 rcases Jbb M hF hs with ⟨B,L⟩ | ⟨bb,o,cap,news,B,L,h3,h4,h5,h6,h7⟩ | ⟨L,ad,B⟩
 rotate_left 2
 . have:ys=[]:=by simpa using L
   subst this;refine none_ oc ?_;rw[B];rcases Z.2 with ⟨rfl,_⟩ | ⟨g,cap,cur,rfl,_⟩<;>simp[Builtin.copy_,underlying,hT,Builtin.lenOf,Builtin.firstCells,x,goInt,storeCells,loadCells,loadCellsFrom]
 . have:ys=[]:=by simpa using L
   subst this;refine none_ oc ?_;rw[B];rcases Z.2 with ⟨rfl,_⟩ | ⟨g,cap,cur,rfl,_⟩<;>simp[Builtin.copy_,underlying,hT,Builtin.lenOf,Builtin.firstCells,x,goInt,storeCells]
 . rw[ou] at B L
   rcases Z with ⟨C,⟨rfl,hn⟩ | ⟨g,I,cur,rfl,_,g2,g3,g4,g5,g6⟩⟩
   . refine none_ om ?_
     rw[B];simp[Builtin.copy_,underlying,hT,Builtin.lenOf,Builtin.firstCells,x,goInt,loadCells,loadCellsFrom]
   . let n:=Nat.min ys.length xs.length
     have hnl:news.length=ys.length*k:=by have:=Ly.holds_sz _ _ h6;rw[Q29 h7] at this;simpa using this
     have S:ys.length<=xs.length->n=ys.length:=λh=>yz h;have U:xs.length<=ys.length->n=xs.length:=λh=>Nat.min_eq_right h;have hn1:n<=ys.length:=Nat.min_le_left _ _;have hn2:n<=xs.length:=Nat.min_le_right _ _;have V:n*k<=news.length:=by rw[hnl];exact xt _ hn1
     have W:n*k<=cs.length:=by rw[C];exact xt _ hn2
     have hcur:cs.length<=cur.size:=by rw[C,g5];exact xt _ g3
     have hload:(loadCells ⟨bb,o,none⟩ (n*k)).run X.P w=.ok (news.take (n*k)).toArray w:=by
      have:=Qkk (P:=X.P) (b:=bb) (o:=o) (w:=w) (news.take (n*k)) 0 #[] (λj u hj=>by
       rw[uz] at hj;split at hj
       . simpa using h5 j u hj
       . cases hj)
      rw[xk,yz V] at this
      simpa [loadCells] using this
     obtain⟨w',A,r1,r2,r3,r4,r5,r6,r7⟩:=Qr0 (P:=X.P) (b:=g) (o:=0) (E:=E) (news.take (n*k)) 0 w cur g2 oh (λu hu=>Ly.oneCell_of_holds _ _ h6 u (yx hu));have q:(execOp a.eval ⟨some d,.call { callee:=.builtin .copy,args:=#[t,s],argTypes:=#[T,H] },ty,pos,af,none⟩).run X.P w=.ok (.value (.int .i64 (n:Nat))) w':=by simp only[execOp,resolve];simp[invoke,builtin,Y,B,Builtin.copy_,underlying,hT,Builtin.lenOf,Builtin.firstCells,x,goInt];rw[show(ys.length.min xs.length)=n from rfl,hload];simp[r1]
     unfold Oper.wp;rw[q];have hkS:Kp (X.S γ mm) w w':=⟨r4.1,λb hb hn=>r4.2 b hb (λee=>hn (.inr ⟨id,_,_,hm,rfl,J,by rw[ee];rfl⟩))⟩
     obtain⟨a1,_⟩:=Qgd n h6 h7;obtain⟨_,a2⟩:=Qgd n e3 e4;have e:(cpyL xs ys).length=xs.length:=by unfold cpyL;simp;omega
     have N:cpyL xs ys=ys.take n++xs.drop n:=by
      unfold cpyL;have e5:ys.take xs.length=ys.take n:=by
       rcases Nat.le_total ys.length xs.length with h | h
       . rw[xc h,xc (by rw[S h];exact xn _)]
       . rw[U h]
      have e6:xs.drop ys.length=xs.drop n:=by
       rcases Nat.le_total ys.length xs.length with h | h
       . rw[S h]
       . rw[xf h,xf (by rw[U h];exact xn _)]
      rw[e5,e6]
     have hhold:Ly.holds w (X.S γ mm) γ ((cpyL xs ys).map f) (news.take (n*k)++cs.drop (n*k)):=by rw[N,yf,dt,jc];exact Qm5 a1 a2
     have y:(news.take (n*k)).length=n*k:=oh
     have hcs:cs=cur.toList.take (xs.length*k):=g6.symm;have F:A.toList.take (xs.length*k)=news.take (n*k)++cs.drop (n*k):=by rw[r3];simp only[splice,xj,List.take_zero,uf,y];rw[List.take_append,y,hcs,List.drop_take];congr 1;exact xc (by rw[y,<-C];exact W)
     have hct:Z2 w' (X.S γ mm) γ id (.sl E k ((cpyL xs ys).map f)):=by
      refine⟨_,news.take (n*k)++cs.drop (n*k),J,⟨?_,.inr ⟨g,I,A,by simp[e],ya _,r2,by simpa [e] using g3,g4,?_,?_⟩⟩,Ly.holds_mono hkS (λb hb=>.inl hb) (Ng.refl _) _ _ hhold,?_⟩
      . simp only[yy,uy,y,ou,e];omega
      . have:=yj List.length r3
        simp only[splice,gj,yy,xk,uy] at this;rw[<-g5];omega
      . rw[ou,e];exact F
      . intro ly O
        rw[N,yf,dt,jc] at O;rcases ym.1 O with h | h
        . exact h7 ly (yx h)
        . exact e4 ly (wn h)
     have p:=M.setc r5 r6 r7 hm rfl J rfl r4 rfl hct;exact hK _ _ γ (p.put (d:=d) (v:=.int .i64 (n:Nat)) (by simpa using hd) ⟨rfl,r n om⟩)
def Plc(P:Program)(T:Nat)(pl:List (Nat×Nat)):Prop:=∃ fs,P.underlying T=some (.struct fs)/\(fs.toList.map λf=>(P.info? f.type).map λi=>(f.offset,i.size))=pl.map some
def BPart(st:Nat->Option Ly)(pl:List (Nat×Nat)):List (Nat×Operand)->Ly->Ly->Prop
 | [],z,r=>z=r
 | (i,x)::e,z,r=>∃ ly d off,OpdF st x ly/\ly.lies=true/\Ly.go [i] z=some (d,off)/\pl[i]?=some (off,d.sz)/\ly.sz=d.sz/\BPart st pl e (Ly.pu ly [i] z) r
theorem Qsp{a w γ pl}(hi:Inv X st mm a w γ):∀(e:List (Nat×Operand)) (z r:Ly) (cells:Array Value),BPart st pl e z r->Ly.hold w (X.S γ mm) γ z cells.toList ->
 ∃ cells',Instr.fill (pl[·]?) cells (e.map λ(i,x)=>(i,a.eval x))=some cells'/\Ly.hold w (X.S γ mm) γ r cells'.toList
 | [],z,r,cells,h,g=>by simp only[BPart] at h;subst h;exact⟨cells,by simp[Instr.fill],g⟩
 | (i,x)::e,z,r,cells,h,g=>by
   obtain⟨ly,s,off,v,y,A,B,C,E⟩:=h;have q:=Ly.hold_of_val y (v.val hi);have d:(a.eval x).cells.size=s.sz:=by have:=Ly.hold_sz _ _ q;rw[C] at this;simpa using this
   obtain⟨a1,u,n,p,H,I,hp⟩:=Qnz [i] A g;have k:=Ly.hold_sz _ _ I;have F:cells.size=a1.length+u.length+n.length:=by have:=yj List.length p;simpa [jk] using this
   have hfold:=Q9c (a.eval x).cells.toList cells off 0 (by simp[d];omega);simp only[xq,gj,d] at hfold;let cells1:=((a.eval x).cells.toList.zipIdx 0).foldl (λcs (c,j)=>cs.setIfInBounds (off+j) c) cells;have f:cells1.toList=a1++(a.eval x).cells.toList++n:=by rw[show cells1.toList=cells.toList.take off++(a.eval x).cells.toList++cells.toList.drop (off+s.sz) from hfold,p,<-H,<-k];simp
   obtain⟨cells',g1,t⟩:=Qsp hi e _ r cells1 E (by rw[f];exact hp _ _ q);refine⟨cells',?_,t⟩;simp only[yv,Instr.fill,B];rw[ol (by simp[d];omega)]
   rw[show(a.eval x).cells.zipIdx.foldl (λcs (c,j)=>cs.setIfInBounds (off+j) c) cells=cells1 by rw[<-Array.foldl_toList,Array.toList_zipIdx]]
   exact g1
theorem Qzi{P:Program}{w:World}:∀(fs:List Field) (pl:List (Nat×Nat)),(fs.map λf=>(P.info? f.type).map λi=>(f.offset,i.size))=pl.map some ->
 (fs.mapM (λf=>(do pure (f.offset,<-sizeOf f.type):Sem (Nat×Nat)))).run P w=.ok pl w
 | [],[],_=>oc
 | f::fs,(o,s)::pl,h=>by
   simp only[yv,List.cons.injEq] at h;obtain⟨d,e⟩:=h;cases hi:P.info? f.type with
   | none=>rw[hi] at d;cases d
   | some i=>
     rw[hi] at d;simp at d;obtain⟨rfl,rfl⟩:=d;have g:(sizeOf f.type).run P w=.ok i.size w:=by simp[sizeOf,typeInfo,hi]
     simp only[List.mapM_cons,Sem.run_bind,g,Result.andThen_ok,Sem.run_pure,Qzi fs pl e]
 | [],_::_,h=>by simp at h
 | _::_,[],h=>by simp at h
theorem bld{d T parts ty pos af pl k b z j l}(t:Plc X.P T pl)(r:TyI X.P T k b z)(u:Zr j z.cells.toList)(hp:BPart st pl parts j (.agg l))(hd:Nat.blt d X.N=true):
 OpOk X st mm ⟨some d,.build T ⟨parts⟩,ty,pos,af,none⟩ [(d,.agg l)] []:=
 X4 hd λa w γ s=>by
  obtain⟨fs,p,q⟩:=t;obtain⟨cells',g1,n⟩:=Qsp s parts j (.agg l) z.cells hp (u _ _ _);refine⟨.agg cells',?_,⟨_,rfl,by simpa [Ly.hold] using n⟩⟩;have g:(fs.mapM (λf=>(do pure (f.offset,<-sizeOf f.type):Sem (Nat×Nat)))).run X.P w=.ok pl.toArray w:=by
   have e:fs.mapM (λf=>(do pure (f.offset,<-sizeOf f.type):Sem (Nat×Nat)))=List.toArray <$> (fs.toList.mapM (λf=>(do pure (f.offset,<-sizeOf f.type):Sem (Nat×Nat)))):=by
    conv=>lhs;rw[<-Array.toArray_toList (xs:=fs)]
    rw[List.mapM_toArray]
   rw[e];simp only[Sem.run_map,Qzi _ _ q,Result.andThen_ok]
  simp only[execOp,Instr.build];have hfill:Instr.fill (λi=>pl.toArray[i]?) z.cells (parts.map λ(i,x)=>(i,a.eval x))=some cells':=by simpa using g1
  simp only[Sem.run_bind,Qgz r,Result.andThen_ok,underlying,run_program,p,Sem.run_pure,g];simp only[List.map_toArray,hfill];rfl
end ops
end Go.Proofs.YtbdgngdpkdagoabGreatDoor
