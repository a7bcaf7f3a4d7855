import Derived.WalkKit
import Derived.KernelRfl
import Derived.Orders
import Derived.Deep.AppendSrc
import Derived.Test.YtlfphifbmoccgaaGreatDoorGw
namespace Go.Proofs.YtlfphifbmoccgaaGreatDoor
open Go
theorem orM{a b c d:Prop}(h:a∨b)(f:a->c)(g:b->d):c∨d:=h.elim (λx=>.inl (f x)) (λx=>.inr (g x))
def Kp(S:Nat->Prop)(w w':World):Prop:=
 w.heap.size≤w'.heap.size∧∀ b,b<w.heap.size->¬ S b->w'.heap[b]?=w.heap[b]?
theorem Kp.refl(S:Nat->Prop)(w:World):Kp S w w:=⟨Nat.le_refl _,λ_ _ _=>rfl⟩
structure CP where
 p:World->(Nat->Prop)->Value->Prop
 one:∀ {w S v},p w S v->v.oneCell'=true
 mono:∀ {w S v w' S'},p w S v->Kp S w w'->(∀ b,S' b->S b∨w.heap.size≤b)->p w' S' v
inductive Ly where
 | cell (p:CP)
 | agg (l:List Ly)
 | own (id:Nat)
 | ptr (id off:Nat)
 | ref (ly:Ly)
 | por (id:Nat)
 | win (id off len:Nat)
 | ifc (T:Nat) (ly:Ly)
 | clo (f:Nat) (l:List Nat)
 | bnd (f:Nat) (l:List Ly)
 | tup (l:List Ly)
 | any
def blkOf:Value->Option Nat
 | .slice (some a) _ _=>some a.block
 | .pointer (some a)=>some a.block
 | _=>none
def WinV(γ:Nat->Option Value)(id off len:Nat)(v:Value):Prop:=∃ v0,γ id=some v0∧((v=.slice none 0 0∧v0=.slice none 0 0∧len=0)∨∃ g cap o,blkOf v0=some g∧v=.slice (some ⟨g,o,none⟩) len cap∧(0<len->o=off)∧len≤cap∧cap≤maxLen)
def CapV(γ:Nat->Option Value):List Nat->List Value->Prop
 | [],[]=>True
 | id::l,v::us=>γ id=some v∧v.oneCell'=true∧CapV γ l us
 | _,_=>False
def CloV(γ:Nat->Option Value)(f:Nat)(l:List Nat)(v:Value):Prop:=∃ us:List Value,v=.func (.func f) #[] us.toArray∧CapV γ l us
abbrev Nm:=Nat->Option Value
mutual
def Ly.hold(w:World)(S:Nat->Prop)(γ:Nm):Ly->List Value->Prop
 | .cell p,cs=>∃ v,cs=[v]∧p.p w S v
 | .agg l,cs=>Ly.holds w S γ l cs
 | .own id,cs=>∃ v,cs=[v]∧γ id=some v∧v.oneCell'=true
 | .ptr id off,cs=>∃ v0 g,γ id=some v0∧blkOf v0=some g∧cs=[.pointer (some ⟨g,off,none⟩)]
 | .ref ly,cs=>∃ b o us,cs=[.pointer (some ⟨b,o,none⟩)]∧b<w.heap.size∧¬ S b∧(∀ j u,us[j]?=some u->w.cell? ⟨b,o+j,none⟩=some u)∧Ly.hold w S γ ly us
 | .por id,cs=>∃ v,cs=[v]∧(v=.pointer none∨∃ v0 g,γ id=some v0∧blkOf v0=some g∧v=.pointer (some ⟨g,0,none⟩))
 | .win id off len,cs=>∃ v,cs=[v]∧WinV γ id off len v
 | .ifc _ _,_=>False
 | .clo f l,cs=>∃ v,cs=[v]∧CloV γ f l v
 | .bnd _ _,_=>False
 | .tup _,_=>False
 | .any,_=>False
def Ly.holds(w:World)(S:Nat->Prop)(γ:Nm):List Ly->List Value->Prop
 | [],cs=>cs=[]
 | ly::l,cs=>∃ c1 c2,cs=c1++c2∧Ly.hold w S γ ly c1∧Ly.holds w S γ l c2
end
mutual
def Ly.val(w:World)(S:Nat->Prop)(γ:Nm):Ly->Value->Prop
 | .agg l,v=>∃ cs,v=.agg cs∧Ly.holds w S γ l cs.toList
 | .tup l,v=>∃ vs,v=.tuple vs∧Ly.vals w S γ l vs.toList
 | .any,_=>True
 | .cell p,v=>p.p w S v
 | .own id,v=>γ id=some v∧v.oneCell'=true
 | .ptr id off,v=>∃ v0 g,γ id=some v0∧blkOf v0=some g∧v=.pointer (some ⟨g,off,none⟩)
 | .ref ly,v=>Ly.hold w S γ (.ref ly) [v]
 | .por id,v=>v=.pointer none∨∃ v0 g,γ id=some v0∧blkOf v0=some g∧v=.pointer (some ⟨g,0,none⟩)
 | .win id off len,v=>WinV γ id off len v
 | .ifc T ly,v=>∃ u,v=.iface T u∧Ly.val w S γ ly u
 | .clo f l,v=>CloV γ f l v
 | .bnd f l,v=>∃ us:List Value,v=.func (.func f) us.toArray #[]∧Ly.vals w S γ l us
def Ly.vals(w:World)(S:Nat->Prop)(γ:Nm):List Ly->List Value->Prop
 | [],vs=>vs=[]
 | ly::l,vs=>∃ v r,vs=v::r∧Ly.val w S γ ly v∧Ly.vals w S γ l r
end
mutual
def Ly.sz:Ly->Nat
 | .agg l=>Ly.szs l
 | _=>1
def Ly.szs:List Ly->Nat
 | []=>0
 | ly::l=>ly.sz+Ly.szs l
end
mutual
theorem Ly.hold_sz{w S γ}:∀(ly:Ly) (cs:List Value),ly.hold w S γ cs->cs.length=ly.sz
 | .cell p,cs,h=>by obtain⟨v,rfl,_⟩:=h;rfl
 | .agg l,cs,h=>by simpa [Ly.sz] using Ly.holds_sz l cs (by simpa [Ly.hold] using h)
 | .own id,cs,h=>by obtain⟨v,rfl,_⟩:=h;rfl
 | .ptr id off,cs,h=>by obtain⟨_,g,_,_,rfl⟩:=h;rfl
 | .ref ly,cs,h=>by obtain⟨b,o,us,rfl,_⟩:=h;rfl
 | .por id,cs,h=>by obtain⟨v,rfl,_⟩:=h;rfl
 | .win id off len,cs,h=>by obtain⟨v,rfl,_⟩:=h;rfl
 | .ifc _ _,_,h=>by simp[Ly.hold] at h
 | .clo _ _,cs,h=>by obtain⟨v,rfl,_⟩:=h;rfl
 | .bnd _ _,_,h=>by simp[Ly.hold] at h
 | .tup _,_,h=>by simp[Ly.hold] at h
 | .any,_,h=>by simp[Ly.hold] at h
theorem Ly.holds_sz{w S γ}:∀(l:List Ly) (cs:List Value),Ly.holds w S γ l cs->cs.length=Ly.szs l
 | [],cs,h=>by simp[Ly.holds] at h;simp[h,Ly.szs]
 | ly::l,cs,h=>by obtain⟨c1,c2,rfl,h1,h2⟩:=h;simp[Ly.szs,Ly.hold_sz ly c1 h1,Ly.holds_sz l c2 h2]
end
theorem Kp.cell{S:Nat->Prop}{w w':World}(h:Kp S w w'){b o:Nat}{v:Value}(hS:¬ S b)(hc:w.cell? ⟨b,o,none⟩=some v):
 w'.cell? ⟨b,o,none⟩=some v:=by
 have hb:b<w.heap.size:=by rcases Nat.lt_or_ge b w.heap.size with h | h;exact h;simp[World.cell?,Array.getElem?_eq_none h] at hc
 rw[World.cell?_of_block (w:=w) (h.2 b hb hS)];exact hc
theorem Kp.trans{S S':Nat->Prop}{a b c:World}(h:Kp S a b)(k:Kp S' b c)(hs:∀ x,S' x->S x∨a.heap.size≤x):Kp S a c:=
 ⟨Nat.le_trans h.1 k.1,λx hx hn=>by
  rw[k.2 x (Nat.lt_of_lt_of_le hx h.1) (λhx'=>(hs x hx').elim hn (λh'=>by omega))]
  exact h.2 x hx hn⟩
def Ng(γ γ':Nm):Prop:=∀ id v,γ id=some v->γ' id=some v
theorem Ng.refl(γ:Nm):Ng γ γ:=λ_ _ h=>h
theorem WinV.mono{γ γ':Nm}(hg:Ng γ γ'){id off len:Nat}{v:Value}(h:WinV γ id off len v):WinV γ' id off len v:=by obtain⟨v0,h1,h2⟩:=h;exact⟨v0,hg _ _ h1,h2⟩
theorem CapV.mono{γ γ':Nm}(hg:Ng γ γ'):∀ {l:List Nat}{us:List Value},CapV γ l us->CapV γ' l us
 | [],[],_=>trivial
 | _::_,_::_,h=>⟨hg _ _ h.1,h.2.1,CapV.mono hg h.2.2⟩
 | [],_::_,h=>h.elim
 | _::_,[],h=>h.elim
theorem CloV.mono{γ γ':Nm}(hg:Ng γ γ'){f:Nat}{l:List Nat}{v:Value}(h:CloV γ f l v):CloV γ' f l v:=by obtain⟨us,h1,h2⟩:=h;exact⟨us,h1,h2.mono hg⟩
theorem CloV.one{γ:Nm}{f:Nat}{l:List Nat}{v:Value}(h:CloV γ f l v):v.oneCell'=true:=by obtain⟨us,rfl,_⟩:=h;rfl
theorem WinV.one{γ:Nm}{id off len:Nat}{v:Value}(h:WinV γ id off len v):v.oneCell'=true:=by obtain⟨v0,_,⟨rfl,_⟩ | ⟨g,cap,o,_,rfl,_⟩⟩:=h<;>rfl
mutual
theorem Ly.hold_mono{w w':World}{S S':Nat->Prop}{γ γ':Nm}(hk:Kp S w w')(hs:∀ b,S' b->S b∨w.heap.size≤b)(hg:Ng γ γ'):
 ∀(ly:Ly) (cs:List Value),ly.hold w S γ cs->ly.hold w' S' γ' cs
 | .cell p,cs,h=>by obtain⟨v,rfl,hp⟩:=h;exact⟨v,rfl,p.mono hp hk hs⟩
 | .agg l,cs,h=>by simp only[Ly.hold] at h ⊢;exact Ly.holds_mono hk hs hg l cs h
 | .own id,cs,h=>by obtain⟨v,rfl,h1,h2⟩:=h;exact⟨v,rfl,hg _ _ h1,h2⟩
 | .ptr id off,cs,h=>by obtain⟨v0,g,h1,h2,rfl⟩:=h;exact⟨v0,g,hg _ _ h1,h2,rfl⟩
 | .ref ly,cs,h=>by obtain⟨b,o,us,rfl,hb,hS,hc,h1⟩:=h;refine⟨b,o,us,rfl,Nat.lt_of_lt_of_le hb hk.1,λh'=>(hs b h').elim hS (λh''=>by omega),λj u hj=>hk.cell hS (hc j u hj),Ly.hold_mono hk hs hg ly us h1⟩
 | .por id,cs,h=>by obtain⟨v,rfl,h⟩:=h;exact⟨v,rfl,orM h (λx=>x) (λ⟨v0,g,h1,h2,h3⟩=>⟨v0,g,hg _ _ h1,h2,h3⟩)⟩
 | .win id off len,cs,h=>by obtain⟨v,rfl,h⟩:=h;exact⟨v,rfl,h.mono hg⟩
 | .ifc _ _,_,h=>by simp[Ly.hold] at h
 | .clo f l,cs,h=>by obtain⟨v,rfl,h⟩:=h;exact⟨v,rfl,h.mono hg⟩
 | .bnd _ _,_,h=>by simp[Ly.hold] at h
 | .tup _,_,h=>by simp[Ly.hold] at h
 | .any,_,h=>by simp[Ly.hold] at h
theorem Ly.holds_mono{w w':World}{S S':Nat->Prop}{γ γ':Nm}(hk:Kp S w w')(hs:∀ b,S' b->S b∨w.heap.size≤b)(hg:Ng γ γ'):
 ∀(l:List Ly) (cs:List Value),Ly.holds w S γ l cs->Ly.holds w' S' γ' l cs
 | [],cs,h=>h
 | ly::l,cs,h=>by obtain⟨c1,c2,rfl,h1,h2⟩:=h;exact⟨c1,c2,rfl,Ly.hold_mono hk hs hg ly c1 h1,Ly.holds_mono hk hs hg l c2 h2⟩
end
mutual
theorem Ly.val_mono{w w':World}{S S':Nat->Prop}{γ γ':Nm}(hk:Kp S w w')(hs:∀ b,S' b->S b∨w.heap.size≤b)(hg:Ng γ γ'):
 ∀(ly:Ly) (v:Value),ly.val w S γ v->ly.val w' S' γ' v
 | .agg l,v,h=>by simp only[Ly.val] at h ⊢;obtain⟨cs,rfl,h⟩:=h;exact⟨cs,rfl,Ly.holds_mono hk hs hg l _ h⟩
 | .tup l,v,h=>by simp only[Ly.val] at h ⊢;obtain⟨vs,rfl,h⟩:=h;exact⟨vs,rfl,Ly.vals_mono hk hs hg l _ h⟩
 | .any,v,h=>by simp[Ly.val]
 | .cell p,v,h=>by simp only[Ly.val] at h ⊢;exact p.mono h hk hs
 | .own id,v,h=>by simp only[Ly.val] at h ⊢;exact⟨hg _ _ h.1,h.2⟩
 | .ptr id off,v,h=>by simp only[Ly.val] at h ⊢;obtain⟨v0,g,h1,h2,rfl⟩:=h;exact⟨v0,g,hg _ _ h1,h2,rfl⟩
 | .ref ly,v,h=>by simp only[Ly.val] at h ⊢;exact Ly.hold_mono hk hs hg (.ref ly) [v] h
 | .por id,v,h=>by simp only[Ly.val] at h ⊢;exact orM h (λx=>x) (λ⟨v0,g,h1,h2,h3⟩=>⟨v0,g,hg _ _ h1,h2,h3⟩)
 | .win id off len,v,h=>by simp only[Ly.val] at h ⊢;exact h.mono hg
 | .ifc T ly,v,h=>by simp only[Ly.val] at h ⊢;obtain⟨u,rfl,h⟩:=h;exact⟨u,rfl,Ly.val_mono hk hs hg ly u h⟩
 | .clo f l,v,h=>by simp only[Ly.val] at h ⊢;exact h.mono hg
 | .bnd f l,v,h=>by simp only[Ly.val] at h ⊢;obtain⟨us,rfl,h⟩:=h;exact⟨us,rfl,Ly.vals_mono hk hs hg l us h⟩
theorem Ly.vals_mono{w w':World}{S S':Nat->Prop}{γ γ':Nm}(hk:Kp S w w')(hs:∀ b,S' b->S b∨w.heap.size≤b)(hg:Ng γ γ'):
 ∀(l:List Ly) (vs:List Value),Ly.vals w S γ l vs->Ly.vals w' S' γ' l vs
 | [],vs,h=>by simp only[Ly.vals] at h ⊢;exact h
 | ly::l,vs,h=>by simp only[Ly.vals] at h ⊢;obtain⟨v,r,rfl,h1,h2⟩:=h;exact⟨v,r,rfl,Ly.val_mono hk hs hg ly v h1,Ly.vals_mono hk hs hg l r h2⟩
end
def Ly.lies:Ly->Bool
 | .tup _=>false
 | .any=>false
 | .ifc _ _=>false
 | .bnd _ _=>false
 | _=>true
def Ly.isN:Ly->Bool
 | .agg _=>true
 | _=>false
theorem Ly.hold_of_val{w S γ}{ly:Ly}{v:Value}(hl:ly.lies=true)(h:ly.val w S γ v):ly.hold w S γ v.cells.toList:=by
 cases ly<;>simp[Ly.lies] at hl<;>simp only[Ly.val] at h
 case cell p=>
  have:=p.one h;cases v<;>simp[Value.oneCell'] at this<;>exact⟨_,rfl,h⟩
 case agg l=>obtain⟨cs,rfl,h⟩:=h;simpa [Ly.hold,Value.cells] using h
 case own id=>
  obtain⟨h1,h2⟩:=h;cases v<;>simp[Value.oneCell'] at h2<;>exact⟨_,rfl,h1,rfl⟩
 case ptr id off=>obtain⟨v0,g,h1,h2,rfl⟩:=h;exact⟨v0,g,h1,h2,rfl⟩
 case ref ly=>
  have h':=h;obtain⟨b,o,us,hv,_⟩:=h;simp at hv;subst hv;exact h'
 case por id=>
  rcases h with rfl | ⟨v0,g,h1,h2,rfl⟩
  . exact⟨_,rfl,.inl rfl⟩
  . exact⟨_,rfl,.inr ⟨v0,g,h1,h2,rfl⟩⟩
 case win id off len=>
  have h':=h.one;cases v<;>simp[Value.oneCell'] at h'<;>exact⟨_,rfl,h⟩
 case clo f l=>
  have h':=h.one;cases v<;>simp[Value.oneCell'] at h'<;>exact⟨_,rfl,h⟩
theorem Ly.val_of_hold1{w S γ}{ly:Ly}{v:Value}(hn:ly.isN=false)(h:ly.hold w S γ [v]):ly.val w S γ v:=by
 cases ly<;>simp[Ly.isN] at hn
 case cell p=>obtain⟨u,hu,h⟩:=h;simp at hu;subst hu;simpa [Ly.val] using h
 case own id=>obtain⟨u,hu,h1,h2⟩:=h;simp at hu;subst hu;exact⟨h1,h2⟩
 case ptr id off=>obtain⟨v0,g,h1,h2,hu⟩:=h;simp at hu;subst hu;exact⟨v0,g,h1,h2,rfl⟩
 case ref ly=>simpa [Ly.val] using h
 case por id=>obtain⟨u,hu,h⟩:=h;simp at hu;subst hu;simpa [Ly.val] using h
 case win id off len=>obtain⟨u,hu,h⟩:=h;simp at hu;subst hu;simpa [Ly.val] using h
 case tup l=>simp[Ly.hold] at h
 case ifc T l=>simp[Ly.hold] at h
 case clo f l=>obtain⟨u,hu,h⟩:=h;simp at hu;subst hu;simpa [Ly.val] using h
 case bnd f l=>simp[Ly.hold] at h
 case any=>trivial
mutual
theorem Ly.oneCell_of_hold{w S γ}:∀(ly:Ly) (cs:List Value),ly.hold w S γ cs->∀ u∈cs,u.oneCell'=true
 | .cell p,cs,h=>by obtain⟨v,rfl,hp⟩:=h;intro u hu;simp at hu;subst hu;exact p.one hp
 | .agg l,cs,h=>by simp only[Ly.hold] at h;exact Ly.oneCell_of_holds l cs h
 | .own id,cs,h=>by obtain⟨v,rfl,h1,h2⟩:=h;intro u hu;simp at hu;subst hu;exact h2
 | .ptr id off,cs,h=>by obtain⟨_,g,h1,_,rfl⟩:=h;intro u hu;simp at hu;subst hu;rfl
 | .ref ly,cs,h=>by obtain⟨b,o,us,rfl,_⟩:=h;intro u hu;simp at hu;subst hu;rfl
 | .por id,cs,h=>by obtain⟨v,rfl,h⟩:=h;intro u hu;simp at hu;subst hu;rcases h with rfl | ⟨v0,g,h1,h2,rfl⟩<;>rfl
 | .win id off len,cs,h=>by obtain⟨v,rfl,h⟩:=h;intro u hu;simp at hu;subst hu;exact h.one
 | .ifc _ _,_,h=>by simp[Ly.hold] at h
 | .clo f l,cs,h=>by obtain⟨v,rfl,h⟩:=h;intro u hu;simp at hu;subst hu;exact h.one
 | .bnd _ _,_,h=>by simp[Ly.hold] at h
 | .tup _,_,h=>by simp[Ly.hold] at h
 | .any,_,h=>by simp[Ly.hold] at h
theorem Ly.oneCell_of_holds{w S γ}:∀(l:List Ly) (cs:List Value),Ly.holds w S γ l cs->∀ u∈cs,u.oneCell'=true
 | [],cs,h=>by simp only[Ly.holds] at h;subst h;intro u hu;cases hu
 | ly::l,cs,h=>by obtain⟨c1,c2,rfl,h1,h2⟩:=h;intro u hu;rcases List.mem_append.1 hu with h | h;exact Ly.oneCell_of_hold ly c1 h1 u h;exact Ly.oneCell_of_holds l c2 h2 u h
end
end Go.Proofs.YtlfphifbmoccgaaGreatDoor
namespace Go.Proofs.YtlfphifbmoccgaaGreatDoor
open Go
inductive Ct where
 | sl (E k:Nat) (ls:List Ly)
 | bx (E:Nat) (ly:Ly)
 | ob (o:Obj)
 | gone
def Ct.alive:Ct->Bool
 | .gone=>false
 | _=>true
def lk{α:Type}:List (Nat×α)->Nat->Option α
 | [],_=>none
 | (i,a)::l,j=>cond (Nat.beq i j) (some a) (lk l j)
def up{α:Type}(st:Nat->Option α)(el:List (Nat×α)):Nat->Option α:=λd=>match lk el d with
 | some x=>some x
 | none=>st d
theorem Jcj{α:Type}(st:Nat->Option α):up st []=st:=rfl
theorem up_lk{α:Type}(l el:List (Nat×α)):up (lk l) el=lk (el++l):=by
 funext d
 induction el with
 | nil=>rfl
 | cons e el ih=>
   obtain⟨i,x⟩:=e;simp only[up,lk,List.cons_append];cases Nat.beq i d
   simpa [up] using ih
   rfl
theorem Vx{α:Type}(st:Nat->Option α)(d:Nat)(x:α)(i:Nat):up st [(d,x)] i=if d=i then some x else st i:=by
 simp only[up,lk];by_cases h:d=i;subst h;simp;have:Nat.beq d i=false:=by cases hb:Nat.beq d i;rfl;exact absurd (Nat.eq_of_beq_eq_true hb) h
 simp[this,h]
def Ow(γ:Nm)(mm:Nat->Option Ct)(b:Nat):Prop:=∃ id c v,mm id=some c∧c.alive=true∧γ id=some v∧blkOf v=some b
def Xu(w:World)(S:Nat->Prop)(γ:Nm)(id:Nat):Ct->Prop
 | .sl E k ls=>∃ v cs,γ id=some v∧w.ownsRow 0 E k v ls.length cs∧Ly.holds w S γ ls cs∧∀ ly∈ls,ly.sz=k
 | .bx E ly=>∃ g cur,γ id=some (.pointer (some ⟨g,0,none⟩))∧w.heap[g]?=some (.cells cur E (0,0))∧Ly.hold w S γ ly cur.toList
 | .ob o=>∃ g,γ id=some (.pointer (some ⟨g,0,none⟩))∧w.heap[g]?=some o
 | .gone=>True
structure Cx where
 P:Program
 N:Nat
 w0:World
 S0:Nat->Prop
 M:Nat->Prop
 g0:Nm
 df:List Deferred
def Cx.S(X:Cx)(γ:Nm)(mm:Nat->Option Ct)(b:Nat):Prop:=X.S0 b∨Ow γ mm b
def GwOk(w:World)(S:Nat->Prop):Prop:=(∀ b,b<gN->¬ S b∧b<w.heap.size)∧GF w
structure Inv(X:Cx)(st:Nat->Option Ly)(mm:Nat->Option Ct)(a:Act)(w:World)(γ:Nm):Prop where
 size:a.tmps.size=X.N
 defs:a.defers=X.df
 s0:∀ b,X.S0 b->b<X.w0.heap.size
 gx:GwOk X.w0 (λb=>X.S0 b∨X.M b)
 keep:Ng X.g0 γ
 os:w.os=X.w0.os
 tape:w.tape=X.w0.tape
 output:w.output=X.w0.output
 grow:X.w0.heap.size≤w.heap.size
 old:∀ b,b<X.w0.heap.size->¬ X.M b->w.heap[b]?=X.w0.heap[b]?
 fresh:∀ id,mm id=none->γ id=none
 cts:∀ id c,mm id=some c->Xu w (X.S γ mm) γ id c
 apart:∀ id id' c c' v v' b,mm id=some c->c.alive=true->mm id'=some c'->c'.alive=true->γ id=some v->γ id'=some v'->blkOf v=some b->blkOf v'=some b->id=id'
 mine:∀ b,Ow γ mm b->(X.w0.heap.size≤b∨X.M b)∧b<w.heap.size∧¬ X.S0 b
 sts:∀ d ly,st d=some ly->∃ v,a.tmps[d]?=some v∧ly.val w (X.S γ mm) γ v
def Sq{R:Type}(X:Cx)(l:List (Nat×Ly))(m:List (Nat×Ct))(md:Option R)(G:R->Act->World->Prop):Prop:=
 ∀ r a w γ,md=some r->Inv X (lk l) (lk m) a w γ->G r a w
def OpOk(X:Cx)(st:Nat->Option Ly)(mm:Nat->Option Ct)(o:Oper)(el:List (Nat×Ly))(em:List (Nat×Ct)):Prop:=
 ∀ a w γ K Q,Inv X st mm a w γ->(∀ a' w' γ',Inv X (up st el) (up mm em) a' w' γ'->K a' w')->o.wp X.P a w K Q
theorem okm{X:Cx}{st:Nat->Option Ly}{mm:Nat->Option Ct}{o el em id c}(h:mm id=some c)(hn:lk em id=none)(h2:OpOk X st mm o el ((id,c)::em)):OpOk X st mm o el em:=by
 have e:up mm ((id,c)::em)=up mm em:=by funext i;simp only[up,lk];cases hb:Nat.beq id i;rfl;have:=Nat.eq_of_beq_eq_true hb;subst this;rw[hn,h];rfl
 intro a w γ K Q hi hK;exact h2 a w γ K Q hi λa' w' γ' hi'=>hK a' w' γ' (e ▸ hi')
theorem Xu.mono{w w':World}{S S':Nat->Prop}{γ γ':Nm}{id:Nat}{c:Ct}(h:Xu w S γ id c)(hk:Kp S w w')(hs:∀ b,S' b->S b∨w.heap.size≤b)(hg:Ng γ γ')
 (hb:∀ v b,γ id=some v->blkOf v=some b->w'.heap[b]?=w.heap[b]?):Xu w' S' γ' id c:=by
 cases c with
 | gone=>trivial
 | sl E k ls=>
   obtain⟨v,cs,hv,ho,hh,hz⟩:=h;refine⟨v,cs,hg _ _ hv,?_,Ly.holds_mono hk hs hg ls cs hh,hz⟩;obtain⟨h1,h2⟩:=ho;refine⟨h1,?_⟩;rcases h2 with h2 | ⟨g,cap,cur,rfl,hg',hc,r⟩;exact .inl h2;exact .inr ⟨g,cap,cur,rfl,hg',by rw[hb _ g hv rfl];exact hc,r⟩
 | bx E ly=>
   obtain⟨g,cur,hv,hc,hh⟩:=h;exact⟨g,cur,hg _ _ hv,by rw[hb _ g hv rfl];exact hc,Ly.hold_mono hk hs hg ly _ hh⟩
 | ob o=>
   obtain⟨g,hv,hc⟩:=h;exact⟨g,hg _ _ hv,by rw[hb _ g hv rfl];exact hc⟩
namespace Inv
variable {X:Cx}{st:Nat->Option Ly}{mm:Nat->Option Ct}{a:Act}{w:World}{γ:Nm}
theorem gw(h:Inv X st mm a w γ){S:Nat->Prop}(hS:∀ b,S b->X.S γ mm b):GwOk w S:=
 ⟨λb hb=>⟨λhs=>by
  obtain⟨g1,g2⟩:=h.gx.1 b hb;rcases hS b hs with h1 | h1;exact g1 (.inl h1);rcases(h.mine b h1).1 with h2 | h2;omega
  exact g1 (.inr h2),Nat.lt_of_lt_of_le (h.gx.1 b hb).2 h.grow⟩,
  GF_st h.gx.2 h.grow λb hb=>h.old b (h.gx.1 b hb).2 λh2=>(h.gx.1 b hb).1 (.inr h2)⟩
theorem put(h:Inv X st mm a w γ){d:Nat}{v:Value}{ly:Ly}(hd:d<X.N)(hv:ly.val w (X.S γ mm) γ v):
 Inv X (up st [(d,ly)]) mm (a.put (some d) v) w γ:=
 { h with
   size:=by simpa [Act.put] using h.size
   defs:=by simpa [Act.put] using h.defs
   sts:=by
    intro i ly' hi;rw[Vx] at hi;by_cases hdi:d=i;subst hdi;simp at hi;subst hi;exact⟨v,by simp[Act.put,h.size,hd],hv⟩;simp[hdi] at hi;obtain⟨u,hu,hl⟩:=h.sts i ly' hi
    exact⟨u,by simp[Act.put,Array.getElem?_setIfInBounds_ne hdi,hu],hl⟩ }
theorem ext(h:Inv X st mm a w γ){w':World}(hos:w'.os=w.os)(ht:w'.tape=w.tape)(hout:w'.output=w.output)(hk:Kp (λ_=>False) w w'):Inv X st mm a w' γ:=by
 have hk':Kp (X.S γ mm) w w':=⟨hk.1,λb hb _=>hk.2 b hb (λh=>h)⟩
 refine { h with os:=hos.trans h.os,tape:=ht.trans h.tape,output:=hout.trans h.output,grow:=Nat.le_trans h.grow hk.1,old:=?_,cts:=?_,mine:=?_,sts:=?_ };intro b hb hM;rw[hk.2 b (Nat.lt_of_lt_of_le hb h.grow) (λh=>h)];exact h.old b hb hM;intro id c hc;by_cases hal:c.alive=true;refine(h.cts id c hc).mono hk' (λb hb=>.inl hb) (Ng.refl _) ?_;intro v b hv hb;exact hk.2 b (h.mine b ⟨id,c,v,hc,hal,hv,hb⟩).2.1 (λh=>h);cases c<;>simp[Ct.alive] at hal;trivial;intro b hb;obtain⟨h1,h2,h3⟩:=h.mine b hb;exact⟨h1,Nat.lt_of_lt_of_le h2 hk.1,h3⟩;intro d ly hd;obtain⟨v,hv,hl⟩:=h.sts d ly hd;exact⟨v,hv,Ly.val_mono hk' (λb hb=>.inl hb) (Ng.refl _) ly v hl⟩
def gset(γ:Nm)(y:Nat)(v:Value):Nm:=λi=>if y=i then some v else γ i
theorem new(h:Inv X st mm a w γ){w':World}(hos:w'.os=w.os)(ht:w'.tape=w.tape)(hout:w'.output=w.output)(hk:Kp (λ_=>False) w w')
 {y:Nat}{ct:Ct}{v:Value}(hy:mm y=none) (hal:ct.alive=true)
 (hct:∀ S γ',(∀ b,X.S γ mm b->S b)->(∀ b,S b->X.S γ mm b∨w.heap.size≤b)->Ng γ γ'->γ' y=some v->Xu w' S γ' y ct)
 (hb:∀ b,blkOf v=some b->w.heap.size≤b∧b<w'.heap.size) :
 Inv X st (up mm [(y,ct)]) a w' (gset γ y v):=by
 have h':=h.ext hos ht hout hk;have hgy:γ y=none:=h.fresh y hy;have hng:Ng γ (gset γ y v):=by intro i u hu;by_cases hyi:y=i;subst hyi;rw[hgy] at hu;cases hu;simp[gset,hyi,hu]
 have how:∀ b,Ow (gset γ y v) (up mm [(y,ct)]) b↔Ow γ mm b∨blkOf v=some b:=by
  intro b;constructor;rintro⟨id,c,u,h1,h2,h3,h4⟩;rw[Vx] at h1;by_cases hid:y=id;subst hid;simp[gset] at h3;subst h3;exact .inr h4;simp[hid] at h1;simp[gset,hid] at h3;exact .inl ⟨id,c,u,h1,h2,h3,h4⟩;rintro(⟨id,c,u,h1,h2,h3,h4⟩ | h4);have hid:y≠id:=by rintro rfl;rw[hy] at h1;cases h1
  exact⟨id,c,u,by rw[Vx];simp[hid,h1],h2,by simp[gset,hid,h3],h4⟩;exact⟨y,ct,v,by rw[Vx];simp,hal,by simp[gset],h4⟩
 have hS:∀ b,X.S (gset γ y v) (up mm [(y,ct)]) b->X.S γ mm b∨w.heap.size≤b:=by rintro b (hb' | hb');exact .inl (.inl hb');rcases(how b).1 hb' with h1 | h1;exact .inl (.inr h1);exact .inr (hb b h1).1
 have hS':∀ b,X.S γ mm b->X.S (gset γ y v) (up mm [(y,ct)]) b:=by rintro b (hb' | hb');exact .inl hb';exact .inr ((how b).2 (.inl hb'))
 have hk':Kp (X.S γ mm) w w':=⟨hk.1,λb hb _=>hk.2 b hb (λh=>h)⟩
 refine { h' with keep:=λi u hu=>hng i u (h.keep i u hu),fresh:=?_,cts:=?_,apart:=?_,mine:=?_,sts:=?_ };intro id hid;rw[Vx] at hid;by_cases hyi:y=id;simp[hyi] at hid;simp[hyi] at hid;simp[gset,hyi,h.fresh id hid];intro id c hc;rw[Vx] at hc;by_cases hyi:y=id;subst hyi;simp at hc;subst hc;exact hct _ _ hS' hS hng (by simp[gset]);simp[hyi] at hc;by_cases hal':c.alive=true;refine(h.cts id c hc).mono hk' hS hng ?_;intro u b hu hb';exact hk.2 b (h.mine b ⟨id,c,u,hc,hal',hu,hb'⟩).2.1 (λh=>h);cases c<;>simp[Ct.alive] at hal';trivial;intro id id' c c' u u' b h1 h2 h3 h4 h5 h6 h7 h8;rw[Vx] at h1 h3;by_cases e1:y=id<;>by_cases e2:y=id';exact e1.symm.trans e2;subst e1;simp[e2] at h3;simp[gset] at h5;subst h5;simp[gset,e2] at h6;have:=(hb b h7).1;have:=(h.mine b ⟨id',c',u',h3,h4,h6,h8⟩).2.1;omega;subst e2;simp[e1] at h1;simp[gset] at h6;subst h6;simp[gset,e1] at h5;have:=(hb b h8).1;have:=(h.mine b ⟨id,c,u,h1,h2,h5,h7⟩).2.1;omega;simp[e1] at h1;simp[e2] at h3;simp[gset,e1] at h5;simp[gset,e2] at h6;exact h.apart id id' c c' u u' b h1 h2 h3 h4 h5 h6 h7 h8;intro b hb';rcases(how b).1 hb' with h1 | h1;exact h'.mine b h1;obtain⟨g1,g2⟩:=hb b h1;exact⟨.inl (Nat.le_trans h.grow g1),g2,λhs=>by have:=h.s0 b hs;have:=h.grow;omega⟩;intro d ly hd;obtain⟨u,hu,hl⟩:=h.sts d ly hd;exact⟨u,hu,Ly.val_mono hk' hS hng ly u hl⟩
theorem setc(h:Inv X st mm a w γ){w':World}(hos:w'.os=w.os)(ht:w'.tape=w.tape)(hout:w'.output=w.output){id:Nat}{c ct:Ct}(hid:mm id=some c)(hc:c.alive=true)
 {v:Value}(hv:γ id=some v) {b0:Nat}(hb0:blkOf v=some b0) (hk:Kp (λb=>b=b0) w w')
 (hal:ct.alive=true) (hct:Xu w' (X.S γ mm) γ id ct):Inv X st (up mm [(id,ct)]) a w' γ:=by
 have hmine:=h.mine b0 ⟨id,c,v,hid,hc,hv,hb0⟩;have how:∀ b,Ow γ (up mm [(id,ct)]) b↔Ow γ mm b:=by intro b;constructor;rintro⟨i,c',u,h1,h2,h3,h4⟩;rw[Vx] at h1;by_cases e:id=i;subst e;exact⟨id,c,u,hid,hc,h3,h4⟩;simp[e] at h1;exact⟨i,c',u,h1,h2,h3,h4⟩;rintro⟨i,c',u,h1,h2,h3,h4⟩;by_cases e:id=i;subst e;exact⟨id,ct,u,by rw[Vx];simp,hal,h3,h4⟩;exact⟨i,c',u,by rw[Vx];simp[e,h1],h2,h3,h4⟩
 have hSe:X.S γ (up mm [(id,ct)])=X.S γ mm:=by funext b;exact propext ⟨λh=>orM h (λx=>x) (how b).1,λh=>orM h (λx=>x) (how b).2⟩
 have hk':Kp (X.S γ mm) w w':=⟨hk.1,λb hb hn=>hk.2 b hb (λe=>hn (.inr ⟨id,c,v,hid,hc,hv,e ▸ hb0⟩))⟩
 refine { h with os:=hos.trans h.os,tape:=ht.trans h.tape,output:=hout.trans h.output,grow:=Nat.le_trans h.grow hk.1,old:=?_,fresh:=?_,cts:=?_,apart:=?_,mine:=?_,sts:=?_ };intro b hb hM
 rw[hk.2 b (Nat.lt_of_lt_of_le hb h.grow) (λe=>by
  subst e;rcases hmine.1 with h1 | h1;omega
  exact hM h1)]
 exact h.old b hb hM;intro i hi;rw[Vx] at hi;by_cases e:id=i;simp[e] at hi;simp[e] at hi;exact h.fresh i hi;intro i c' hc';rw[hSe];rw[Vx] at hc';by_cases e:id=i;subst e;simp at hc';subst hc';exact hct;simp[e] at hc';by_cases hal':c'.alive=true;refine(h.cts i c' hc').mono hk' (λb hb=>.inl hb) (Ng.refl _) ?_;intro u b hu hb;refine hk.2 b (h.mine b ⟨i,c',u,hc',hal',hu,hb⟩).2.1 (λhbe=>e ?_);subst hbe;exact h.apart id i c c' v u b hid hc hc' hal' hv hu hb0 hb;cases c'<;>simp[Ct.alive] at hal';trivial;intro i i' c1 c2 u u' b h1 h2 h3 h4 h5 h6 h7 h8;rw[Vx] at h1 h3;have g1:∃ c1',mm i=some c1'∧c1'.alive=true:=by
  by_cases e:id=i;subst e;exact⟨c,hid,hc⟩;simp[e] at h1;exact⟨c1,h1,h2⟩
 have g2:∃ c2',mm i'=some c2'∧c2'.alive=true:=by by_cases e:id=i';subst e;exact⟨c,hid,hc⟩;simp[e] at h3;exact⟨c2,h3,h4⟩
 obtain⟨c1',m1,a1⟩:=g1;obtain⟨c2',m2,a2⟩:=g2;exact h.apart i i' c1' c2' u u' b m1 a1 m2 a2 h5 h6 h7 h8;intro b hb;obtain⟨h1,h2,h3⟩:=h.mine b ((how b).1 hb);exact⟨h1,Nat.lt_of_lt_of_le h2 hk.1,h3⟩;intro d ly hd;rw[hSe];obtain⟨u,hu,hl⟩:=h.sts d ly hd;exact⟨u,hu,Ly.val_mono hk' (λb hb=>.inl hb) (Ng.refl _) ly u hl⟩
theorem drop(h:Inv X st mm a w γ)(id:Nat):Inv X st (up mm [(id,.gone)]) a w γ:=by
 have how:∀ b,Ow γ (up mm [(id,.gone)]) b->Ow γ mm b:=by rintro b ⟨i,c',u,h1,h2,h3,h4⟩;rw[Vx] at h1;by_cases e:id=i;simp[e] at h1;subst h1;simp[Ct.alive] at h2;simp[e] at h1;exact⟨i,c',u,h1,h2,h3,h4⟩
 have hS:∀ b,X.S γ (up mm [(id,.gone)]) b->X.S γ mm b:=λb h=>orM h (λx=>x) (how b);refine { h with fresh:=?_,cts:=?_,apart:=?_,mine:=?_,sts:=?_ };intro i hi;rw[Vx] at hi;by_cases e:id=i;simp[e] at hi;simp[e] at hi;exact h.fresh i hi;intro i c' hc';rw[Vx] at hc';by_cases e:id=i;simp[e] at hc';subst hc';trivial;simp[e] at hc';exact(h.cts i c' hc').mono (Kp.refl _ _) (λb hb=>.inl (hS b hb)) (Ng.refl _) (λ_ _ _ _=>rfl);intro i i' c1 c2 u u' b h1 h2 h3 h4;rw[Vx] at h1 h3;by_cases e:id=i;simp[e] at h1;subst h1;simp[Ct.alive] at h2;by_cases e':id=i';simp[e'] at h3;subst h3;simp[Ct.alive] at h4;simp[e] at h1;simp[e'] at h3;exact h.apart i i' c1 c2 u u' b h1 h2 h3 h4;intro b hb;exact h.mine b (how b hb);intro d ly hd;obtain⟨u,hu,hl⟩:=h.sts d ly hd;exact⟨u,hu,Ly.val_mono (Kp.refl _ _) (λb hb=>.inl (hS b hb)) (Ng.refl _) ly u hl⟩
end Inv
end Go.Proofs.YtlfphifbmoccgaaGreatDoor
namespace Go.Proofs.YtlfphifbmoccgaaGreatDoor
open Go Go.RowKit
def cpB(b:Bool):CP where
 p:=λ_ _ v=>v=.bool b
 one:=by intro _ _ v h;subst h;rfl
 mono:=λh _ _=>h
def bl(b:Bool):Ly:=.cell (cpB b)
def cpI(k:IntKind)(x:Int):CP where
 p:=λ_ _ v=>v=.int k x∧k.min≤x∧x≤k.max
 one:=by intro _ _ v h;obtain⟨rfl,_⟩:=h;rfl
 mono:=λh _ _=>h
def i64(x:Int):Ly:=.cell (cpI .i64 x)
def SubL:List (Nat×Ly)->List (Nat×Ly)->Prop
 | [],_=>True
 | (d,ly)::r,l=>lk l d=some ly∧SubL r l
theorem SubL.lk{l' l:List (Nat×Ly)}(h:SubL l' l):∀ d ly,Go.Proofs.YtlfphifbmoccgaaGreatDoor.lk l' d=some ly->Go.Proofs.YtlfphifbmoccgaaGreatDoor.lk l d=some ly:=by
 induction l' with
 | nil=>intro d ly h;cases h
 | cons e r ih=>
   obtain⟨i,x⟩:=e;intro d ly hd;simp only[Go.Proofs.YtlfphifbmoccgaaGreatDoor.lk] at hd;cases hb:Nat.beq i d;rw[hb] at hd;exact ih h.2 d ly hd;rw[hb] at hd;have:i=d:=Nat.eq_of_beq_eq_true hb;subst this;simp at hd;subst hd;exact h.1
def EqM1:List (Nat×Ct)->List (Nat×Ct)->List (Nat×Ct)->Prop
 | [],_,_=>True
 | (d,_)::r,m,m'=>lk m d=lk m' d∧EqM1 r m m'
def EqM(m m':List (Nat×Ct)):Prop:=EqM1 m m m'∧EqM1 m' m m'
theorem Qkx:∀(r m m':List (Nat×Ct)) (d:Nat),EqM1 r m m'->lk r d≠none->lk m d=lk m' d
 | [],_,_,_,_,h=>absurd rfl h
 | (i,x)::r,m,m',d,h,hd=>by simp only[lk] at hd;cases hb:Nat.beq i d;rw[hb] at hd;exact Qkx r m m' d h.2 hd;have:i=d:=Nat.eq_of_beq_eq_true hb;subst this;exact h.1
theorem EqM.eq{m m':List (Nat×Ct)}(h:EqM m m'):lk m=lk m':=by funext d;by_cases h1:lk m d=none;by_cases h2:lk m' d=none;rw[h1,h2];exact Qkx m' m m' d h.2 h2;exact Qkx m m m' d h.1 h1
def Ent(X:Cx)(l:List (Nat×Ly))(m:List (Nat×Ct))(l':List (Nat×Ly))(m':List (Nat×Ct)):Prop:=
 ∀ a w γ,Inv X (lk l) (lk m) a w γ->∃ γ',Inv X (lk l') (lk m') a w γ'
theorem entI{X:Cx}{l l' m m'}(h:SubL l' l)(hm:EqM m m'):Ent X l m l' m':=λa w γ hi=>
 ⟨γ,by rw[←hm.eq];exact { hi with sts:=λd ly hd=>hi.sts d ly (h.lk d ly hd) }⟩
def Rn(σ:List (Nat×Nat))(ly ly':Ly):Prop:=∀ w S (γ γ':Nm),(∀ y x,lk σ y=some x->γ' y=γ x) →
 (∀ cs,ly.hold w S γ cs->ly'.hold w S γ' cs)∧(∀ v,ly.val w S γ v->ly'.val w S γ' v)
def Rns(σ:List (Nat×Nat))(l l':List Ly):Prop:=∀ w S (γ γ':Nm),(∀ y x,lk σ y=some x->γ' y=γ x) →
 (∀ cs,Ly.holds w S γ l cs->Ly.holds w S γ' l' cs)∧(∀ v,Ly.vals w S γ l v->Ly.vals w S γ' l' v)
def IF(ly:Ly):Prop:=∀ w S (γ γ':Nm),(∀ cs,ly.hold w S γ cs->ly.hold w S γ' cs)∧(∀ v,ly.val w S γ v->ly.val w S γ' v)
def IFs(l:List Ly):Prop:=∀ w S (γ γ':Nm),(∀ cs,Ly.holds w S γ l cs->Ly.holds w S γ' l cs)∧(∀ v,Ly.vals w S γ l v->Ly.vals w S γ' l v)
theorem Qfv(p:CP):IF (.cell p):=λw S γ γ'=>⟨λcs h=>h,λv h=>by simpa [Ly.val] using h⟩
theorem Jck:IF .any:=λw S γ γ'=>⟨λcs h=>h,λv h=>by simp[Ly.val]⟩
theorem Qfw:IFs []:=λw S γ γ'=>⟨λcs h=>h,λv h=>by simpa [Ly.vals] using h⟩
theorem Ym{ly l}(h1:IF ly)(h2:IFs l):IFs (ly::l):=λw S γ γ'=>
 ⟨λcs h=>by obtain⟨c1,c2,rfl,g1,g2⟩:=h;exact⟨c1,c2,rfl,(h1 w S γ γ').1 _ g1,(h2 w S γ γ').1 _ g2⟩,
  λv h=>by
   simp only[Ly.vals] at h ⊢
   obtain⟨u,r,rfl,g1,g2⟩:=h;exact⟨u,r,rfl,(h1 w S γ γ').2 _ g1,(h2 w S γ γ').2 _ g2⟩⟩
theorem Jq{α:Type}{f:α->Ly}(h:∀ x,IF (f x)):∀ xs:List α,IFs (xs.map f)
 | []=>Qfw
 | x::xs=>Ym (h x) (Jq h xs)
theorem Qi8{l}(h:IFs l):IF (.agg l):=λw S γ γ'=>
 ⟨λcs g=>by simp only[Ly.hold] at g ⊢;exact(h w S γ γ').1 cs g,
  λv g=>by simp only[Ly.val] at g ⊢;obtain⟨cs,rfl,g⟩:=g;exact⟨cs,rfl,(h w S γ γ').1 _ g⟩⟩
theorem Jcl{l}(h:IFs l):IF (.tup l):=λw S γ γ'=>
 ⟨λcs g=>by simp[Ly.hold] at g,
  λv g=>by simp only[Ly.val] at g ⊢;obtain⟨cs,rfl,g⟩:=g;exact⟨cs,rfl,(h w S γ γ').2 _ g⟩⟩
theorem Jcm{ly}(h:IF ly):IF (.ref ly):=λw S γ γ'=>by
 have hh:∀ cs,(Ly.ref ly).hold w S γ cs->(Ly.ref ly).hold w S γ' cs:=by rintro cs ⟨b,o,us,h1,h2,h3,h4,h5⟩;exact⟨b,o,us,h1,h2,h3,h4,(h w S γ γ').1 _ h5⟩
 exact⟨hh,λv g=>by simp only[Ly.val] at g ⊢;exact hh _ g⟩
theorem rn_id{σ ly}(h:IF ly):Rn σ ly ly:=λw S γ γ' _=>h w S γ γ'
theorem Vn{σ y x}(h:lk σ y=some x):Rn σ (.own x) (.own y):=λw S γ γ' hg=>by have:=hg y x h;exact⟨λcs g=>by obtain⟨v,rfl,g1,g2⟩:=g;exact⟨v,rfl,by rw[this];exact g1,g2⟩,λv g=>by simp only[Ly.val] at g ⊢;rw[this];exact g⟩
theorem Qky{σ y x off}(h:lk σ y=some x):Rn σ (.ptr x off) (.ptr y off):=λw S γ γ' hg=>by have:=hg y x h;exact⟨λcs g=>by obtain⟨v0,b,g1,g2⟩:=g;exact⟨v0,b,by rw[this];exact g1,g2⟩,λv g=>by simp only[Ly.val] at g ⊢;rw[this];exact g⟩
theorem Qg2{σ y x}(h:lk σ y=some x):Rn σ (.por x) (.por y):=λw S γ γ' hg=>by
 have:=hg y x h
 exact⟨λcs g=>by
  obtain⟨v,rfl,g⟩:=g;exact⟨v,rfl,orM g (λx=>x) (λ⟨v0,b,g1,g2⟩=>⟨v0,b,by rw[this];exact g1,g2⟩)⟩,
  λv g=>by simp only[Ly.val] at g ⊢;rw[this];exact g⟩
theorem Vm{σ}:Rns σ [] []:=λw S γ γ' _=>⟨λcs h=>h,λv h=>by simpa [Ly.vals] using h⟩
theorem Jy{σ ly ly' l l'}(h1:Rn σ ly ly')(h2:Rns σ l l'):Rns σ (ly::l) (ly'::l'):=λw S γ γ' hg=>
 ⟨λcs h=>by obtain⟨c1,c2,rfl,g1,g2⟩:=h;exact⟨c1,c2,rfl,(h1 w S γ γ' hg).1 _ g1,(h2 w S γ γ' hg).1 _ g2⟩,
  λv h=>by
   simp only[Ly.vals] at h ⊢
   obtain⟨u,r,rfl,g1,g2⟩:=h;exact⟨u,r,rfl,(h1 w S γ γ' hg).2 _ g1,(h2 w S γ γ' hg).2 _ g2⟩⟩
theorem Jcn{σ l}(h:IFs l):Rns σ l l:=λw S γ γ' _=>h w S γ γ'
theorem Yg{σ l l'}(h:Rns σ l l'):Rn σ (.agg l) (.agg l'):=λw S γ γ' hg=>
 ⟨λcs g=>by simp only[Ly.hold] at g ⊢;exact(h w S γ γ' hg).1 cs g,
  λv g=>by simp only[Ly.val] at g ⊢;obtain⟨cs,rfl,g⟩:=g;exact⟨cs,rfl,(h w S γ γ' hg).1 _ g⟩⟩
theorem Qc2{σ l l'}(h:Rns σ l l'):Rn σ (.tup l) (.tup l'):=λw S γ γ' hg=>
 ⟨λcs g=>by simp[Ly.hold] at g,
  λv g=>by simp only[Ly.val] at g ⊢;obtain⟨cs,rfl,g⟩:=g;exact⟨cs,rfl,(h w S γ γ' hg).2 _ g⟩⟩
def RnC(σ:List (Nat×Nat)):Ct->Ct->Prop
 | .sl E k ls,.sl E' k' ls'=>E=E'∧k=k'∧ls.length=ls'.length∧Rns σ ls ls'∧((∀ ly∈ls,ly.sz=k)->∀ ly∈ls',ly.sz=k)
 | .bx E ly,.bx E' ly'=>E=E'∧Rn σ ly ly'
 | .ob o,.ob o'=>o=o'
 | _,_=>False
theorem rc_sl{σ E k ls}(h:IFs ls):RnC σ (.sl E k ls) (.sl E k ls):=⟨rfl,rfl,rfl,Jcn h,λh=>h⟩
theorem rc_ob{σ o}:RnC σ (.ob o) (.ob o):=rfl
theorem rc_bx{σ E ly ly'}(h:Rn σ ly ly'):RnC σ (.bx E ly) (.bx E ly'):=⟨rfl,h⟩
def RnC1(σ:List (Nat×Nat))(c c':Ct):Prop:=RnC σ c c'∨c'=.gone
theorem rci{σ c c'}(h:RnC σ c c'):RnC1 σ c c':=.inl h
theorem rcg{σ c}:RnC1 σ c .gone:=.inr rfl
def alO:Option Ct->Bool
 | some c=>c.alive
 | none=>false
def alv(σ:List (Nat×Nat))(m:List (Nat×Ct)):List (Nat×Nat):=σ.filter λe=>alO (lk m e.1)
theorem Qvb{σ:List (Nat×Nat)}{m:List (Nat×Ct)}{y x c}(h:(y,x)∈σ)(hm:lk m y=some c)(hc:c.alive=true):(y,x)∈alv σ m:=
 List.mem_filter.2 ⟨h,by simp[alO,hm,hc]⟩
def RnL(σ:List (Nat×Nat))(l:List (Nat×Ly)):List (Nat×Ly)->Prop
 | []=>True
 | (d,ly')::r=>(∃ ly,lk l d=some ly∧Rn σ ly ly')∧RnL σ l r
def RnM(σ:List (Nat×Nat))(m:List (Nat×Ct)):List (Nat×Ct)->Prop
 | []=>True
 | (y,c')::r=>(∃ x c,lk σ y=some x∧lk m x=some c∧RnC1 σ c c')∧RnM σ m r
def NmM(m':List (Nat×Ct)):List (Nat×Nat)->Prop
 | []=>True
 | (y,_)::r=>(∃ c,lk m' y=some c)∧NmM m' r
def nodupB:List Nat->Bool
 | []=>true
 | x::r=>!(r.any (Nat.beq x)) && nodupB r
def KeepS(σ:List (Nat×Nat))(g0:Nm):Prop:=∀ id v,g0 id=some v->lk σ id=some id
theorem RnL.get{σ l}:∀ {l'},RnL σ l l'->∀ d ly',lk l' d=some ly'->∃ ly,lk l d=some ly∧Rn σ ly ly'
 | [],_,d,ly',h=>by cases h
 | (i,x)::r,hh,d,ly',h=>by simp only[lk] at h;cases hb:Nat.beq i d;rw[hb] at h;exact RnL.get hh.2 d ly' h;rw[hb] at h;have:i=d:=Nat.eq_of_beq_eq_true hb;subst this;simp at h;subst h;exact hh.1
theorem RnM.get{σ m}:∀ {m'},RnM σ m m'->∀ y c',lk m' y=some c'->∃ x c,lk σ y=some x∧lk m x=some c∧RnC1 σ c c'
 | [],_,d,ly',h=>by cases h
 | (i,x)::r,hh,d,ly',h=>by simp only[lk] at h;cases hb:Nat.beq i d;rw[hb] at h;exact RnM.get hh.2 d ly' h;rw[hb] at h;have:i=d:=Nat.eq_of_beq_eq_true hb;subst this;simp at h;subst h;exact hh.1
theorem NmM.get{m'}:∀ {σ:List (Nat×Nat)},NmM m' σ->∀ y x,lk σ y=some x->∃ c,lk m' y=some c
 | [],_,y,x,h=>by cases h
 | (i,x0)::r,hh,y,x,h=>by simp only[lk] at h;cases hb:Nat.beq i y;rw[hb] at h;exact NmM.get hh.2 y x h;have:i=y:=Nat.eq_of_beq_eq_true hb;subst this;exact hh.1
theorem Qax{σ:List (Nat×Nat)}:∀ {y x},lk σ y=some x->(y,x)∈σ:=by
 induction σ with
 | nil=>intro y x h;cases h
 | cons e r ih=>
   obtain⟨i,x0⟩:=e;intro y x h;simp only[lk] at h;cases hb:Nat.beq i y;rw[hb] at h;exact List.mem_cons_of_mem _ (ih h);rw[hb] at h;have:i=y:=Nat.eq_of_beq_eq_true hb;subst this;simp at h;subst h;exact List.mem_cons_self
theorem Qm4:∀ {σ:List (Nat×Nat)},nodupB (σ.map (·.2))=true->∀ {y y' x},(y,x)∈σ->(y',x)∈σ->lk σ y=some x->lk σ y'=some x->y=y'
 | [],_,_,_,_,h,_,_,_=>by cases h
 | (i,x0)::r,hn,y,y',x,h1,h2,h3,h4=>by
   simp only[List.map_cons,nodupB,Bool.and_eq_true,Bool.not_eq_true'] at hn;have hx0:∀ z,(z,x0) ∉ r:=by intro z hz;have:(r.map (·.2)).any (Nat.beq x0)=true:=List.any_eq_true.2 ⟨x0,List.mem_map.2 ⟨_,hz,rfl⟩,by simp⟩;rw[this] at hn;simp at hn
   simp only[lk] at h3 h4;cases hb:Nat.beq i y<;>cases hb':Nat.beq i y';rw[hb] at h3;rw[hb'] at h4;exact Qm4 hn.2 (Qax h3) (Qax h4) h3 h4;rw[hb'] at h4;simp at h4;subst h4;rw[hb] at h3;exact absurd (Qax h3) (hx0 y);rw[hb] at h3;simp at h3;subst h3;rw[hb'] at h4;exact absurd (Qax h4) (hx0 y');have e1:i=y:=Nat.eq_of_beq_eq_true hb;have e2:i=y':=Nat.eq_of_beq_eq_true hb';omega
theorem Qsa:∀ {σ:List (Nat×Nat)},nodupB (σ.map (·.2))=true->∀ {y y' x},(y,x)∈σ->(y',x)∈σ->y=y'
 | [],_,_,_,_,h,_=>by cases h
 | (i,x0)::r,hn,y,y',x,h1,h2=>by
   simp only[List.map_cons,nodupB,Bool.and_eq_true,Bool.not_eq_true'] at hn;have hx0:∀ z,(z,x0) ∉ r:=by intro z hz;have:(r.map (·.2)).any (Nat.beq x0)=true:=List.any_eq_true.2 ⟨x0,List.mem_map.2 ⟨_,hz,rfl⟩,by simp⟩;rw[this] at hn;simp at hn
   rcases List.mem_cons.1 h1 with e | k1<;>rcases List.mem_cons.1 h2 with e' | k2;exact(congrArg Prod.fst e).trans (congrArg Prod.fst e').symm;have e3:x=x0:=congrArg Prod.snd e;rw[e3] at k2;exact absurd k2 (hx0 y');have e3:x=x0:=congrArg Prod.snd e';rw[e3] at k1;exact absurd k1 (hx0 y);exact Qsa hn.2 k1 k2
theorem Xu.rn{w S γ γ' σ x y c c'}(hg:∀ y x,lk σ y=some x->γ' y=γ x)(hy:lk σ y=some x)(h:Xu w S γ x c)(hr:RnC σ c c'):Xu w S γ' y c':=by
 have hxy:=hg y x hy;cases c<;>cases c'<;>simp only[RnC] at hr
 case sl.sl E k ls E' k' ls'=>
  obtain⟨rfl,rfl,hl,hn,hz⟩:=hr;obtain⟨v,cs,h1,h2,h3,h4⟩:=h;exact⟨v,cs,by rw[hxy];exact h1,by rw[←hl];exact h2,(hn w S γ γ' hg).1 _ h3,hz h4⟩
 case bx.bx E ly E' ly'=>
  obtain⟨rfl,hn⟩:=hr;obtain⟨g,cur,h1,h2,h3⟩:=h;exact⟨g,cur,by rw[hxy];exact h1,h2,(hn w S γ γ' hg).1 _ h3⟩
 case ob.ob o o'=>
  subst hr;obtain⟨g,h1,h2⟩:=h;exact⟨g,by rw[hxy];exact h1,h2⟩
theorem RnC.alive{σ c c'}(h:RnC σ c c'):c.alive=true∧c'.alive=true:=by cases c<;>cases c'<;>simp only[RnC] at h<;>exact⟨rfl,rfl⟩
theorem RnC1.al{σ c c'}(h:RnC1 σ c c')(h2:c'.alive=true):c.alive=true:=by rcases h with h | rfl;exact h.alive.1;cases h2
theorem Xu.rn1{w S γ γ' σ x y c c'}(hg:∀ y x,lk σ y=some x->γ' y=γ x)(hy:lk σ y=some x)(h:Xu w S γ x c)(hr:RnC1 σ c c'):Xu w S γ' y c':=by rcases hr with hr | rfl;exact h.rn hg hy hr;trivial
theorem entR{X:Cx}{l l' m m'}(σ:List (Nat×Nat))(hn:nodupB ((alv σ m').map (·.2))=true)(hk:KeepS σ X.g0)(hs:NmM m' σ)(hm:RnM σ m m')(hl:RnL σ l l'):Ent X l m l' m':=by
 intro a w γ hi;let γ':Nm:=λy=>match lk σ y with | some x=>γ x | none=>none
 have hg:∀ y x,lk σ y=some x->γ' y=γ x:=λy x h=>by simp only[γ',h]
 have how:∀ b,Ow γ' (lk m') b->Ow γ (lk m) b:=by rintro b ⟨y,c',v,h1,h2,h3,h4⟩;obtain⟨x,c,g1,g2,g3⟩:=hm.get y c' h1;exact⟨x,c,v,g2,g3.al h2,by rw[←hg y x g1];exact h3,h4⟩
 have hS:∀ b,X.S γ' (lk m') b->X.S γ (lk m) b:=λb h=>orM h (λx=>x) (how b);refine⟨γ',{ hi with keep:=?_,fresh:=?_,cts:=?_,apart:=?_,mine:=?_,sts:=?_ }⟩;intro id v hv;rw[hg id id (hk id v hv)];exact hi.keep id v hv;intro y hy;cases h:lk σ y with
 | none=>simp only[γ',h]
 | some x=>obtain⟨c,hc⟩:=hs.get y x h;rw[hy] at hc;cases hc
 intro y c' hc';obtain⟨x,c,g1,g2,g3⟩:=hm.get y c' hc';have h0:=hi.cts x c g2;have h1:Xu w (X.S γ' (lk m')) γ x c:=h0.mono (Kp.refl _ _) (λb hb=>.inl (hS b hb)) (Ng.refl _) (λ_ _ _ _=>rfl);exact h1.rn1 hg g1 g3;intro y y' c c' v v' b h1 h2 h3 h4 h5 h6 h7 h8;obtain⟨x,d,g1,g2,g3⟩:=hm.get y c h1;obtain⟨x',d',g1',g2',g3'⟩:=hm.get y' c' h3;rw[hg y x g1] at h5;rw[hg y' x' g1'] at h6;have:=hi.apart x x' d d' v v' b g2 (g3.al h2) g2' (g3'.al h4) h5 h6 h7 h8;subst this;exact Qsa hn (Qvb (Qax g1) h1 h2) (Qvb (Qax g1') h3 h4);intro b hb;exact hi.mine b (how b hb);intro d ly' hd;obtain⟨ly,g1,g2⟩:=hl.get d ly' hd;obtain⟨v,hv,hval⟩:=hi.sts d ly g1;exact⟨v,hv,(g2 w _ γ γ' hg).2 v (Ly.val_mono (Kp.refl _ _) (λb hb=>.inl (hS b hb)) (Ng.refl _) ly v hval)⟩
inductive Lp (σ τ:Type) where
 | go (s:σ)
 | out (t:τ)
def loopM{σ τ:Type}(f:σ->Option (Lp σ τ)):Nat->σ->Option τ
 | 0,_=>none
 | n+1,s=>(f s).bind fun | .go s'=>loopM f n s' | .out t=>some t
def rangeL{α σ τ:Type}(f:Nat->α->σ->Option (Lp σ τ)):List α->Nat->σ->Option (Lp σ τ)
 | [],_,s=>some (.go s)
 | x::xs,i,s=>(f i x s).bind fun | .go s'=>rangeL f xs (i+1) s' | .out t=>some (.out t)
section rules
variable {R:Type}{X:Cx}{l:List (Nat×Ly)}{m:List (Nat×Ct)}{md:Option R}{Q:R->Exit->Act->World->Prop}{G:R->Act->World->Prop}
theorem bd{α:Type}{x:Option α}{f:α->Option R}(h:∀ y,x=some y->Sq X l m (f y) G):Sq X l m (x.bind f) G:=by
 intro r a w γ hr hi;cases hx:x with
 | none=>rw[hx] at hr;cases hr
 | some y=>rw[hx] at hr;exact h y hx r a w γ hr hi
theorem sent{l' m'}(h:Ent X l m l' m')(k:Sq X l' m' md G):Sq X l m md G:=by intro r a w γ hr hi;obtain⟨γ',hi'⟩:=h a w γ hi;exact k r a w γ' hr hi'
theorem join{σ:Type}{A:Option σ}{k:σ->Option R}{G':R->Act->World->Prop}(L:σ->List (Nat×Ly))(M:σ->List (Nat×Ct))
 (h:(∀ s,Sq X (L s) (M s) (k s) G')->Sq X l m (A.bind k) G) (J:∀ s,Sq X (L s) (M s) (k s) G'):Sq X l m (A.bind k) G:=h J
theorem sif{b:Bool}{m1 m2:Option R}(h1:b=true->Sq X l m m1 G)(h2:b=false->Sq X l m m2 G):Sq X l m (bif b then m1 else m2) G:=by cases b;exact h2 rfl;exact h1 rfl
theorem sifd{b:Bool}{m1 m2:Option R}(d:Nat)(hd:lk l d=some (bl b))(h1:Sq X ((d,bl true)::l) m m1 G)(h2:Sq X ((d,bl false)::l) m m2 G):Sq X l m (bif b then m1 else m2) G:=by
 refine sif (λhb=>?_) (λhb=>?_)<;>subst hb
 exact sent (λa w γ hi=>⟨γ,{ hi with sts:=λi ly h=>hi.sts i ly (by
  simp only[lk] at h;cases e:Nat.beq d i;rw[e] at h;exact h
  rw[e] at h;rw[←Nat.eq_of_beq_eq_true e,hd];exact h) }⟩) h1
 exact sent (λa w γ hi=>⟨γ,{ hi with sts:=λi ly h=>hi.sts i ly (by
  simp only[lk] at h;cases e:Nat.beq d i;rw[e] at h;exact h
  rw[e] at h;rw[←Nat.eq_of_beq_eq_true e,hd];exact h) }⟩) h2
def OpdF(st:Nat->Option Ly):Operand->Ly->Prop
 | .tmp t,ly=>st t=some ly
 | .const v,ly=>∀ w S γ,ly.val w S γ v
 | .func f,ly=>∀ w S γ,ly.val w S γ (.func (.func f) #[] #[])
 | .global g,ly=>∀ w S γ,ly.val w S γ (.pointer (some ⟨g,0,none⟩))
theorem OpdF.val{st mm a w γ}(hi:Inv X st mm a w γ){x:Operand}{ly:Ly}(h:OpdF st x ly):ly.val w (X.S γ mm) γ (a.eval x):=by
 cases x with
 | tmp t=>obtain⟨v,hv,hl⟩:=hi.sts t ly h;simpa [Act.eval,hv] using hl
 | const v=>exact h _ _ _
 | func f=>exact h _ _ _
 | global g=>exact h _ _ _
theorem scond{b:Bool}{c:Operand}{x y:Code}{m1 m2:Option R}(hc:OpdF (lk l) c (bl b))
 (h1:Sq X l m m1 (λr=>x.wp X.P (Q r))) (h2:Sq X l m m2 (λr=>y.wp X.P (Q r))) :
 Sq X l m (bif b then m1 else m2) (λr=>(Code.cond c x y).wp X.P (Q r)):=by
 intro r a w γ hr hi;have:=hc.val hi;simp only[bl,Ly.val,cpB] at this;refine wp_cond_split this (λhb=>?_) (λhb=>?_)<;>subst hb;exact h1 r a w γ hr hi;exact h2 r a w γ hr hi
theorem sskip(h:Sq X l m md (λr=>Q r .normal)):Sq X l m md (λr=>Code.skip.wp X.P (Q r)):=λr a w γ hr hi=>wp_skip (h r a w γ hr hi)
theorem sexit{id:Nat}(h:Sq X l m md (λr=>Q r (.exit id))):Sq X l m md (λr=>(Code.exit id).wp X.P (Q r)):=λr a w γ hr hi=>wp_exit (h r a w γ hr hi)
theorem sret(h:Sq X l m md (λr=>Q r .ret)):Sq X l m md (λr=>Code.ret.wp X.P (Q r)):=λr a w γ hr hi=>wp_ret (h r a w γ hr hi)
theorem sseq{x y:Code}(h:Sq X l m md (λr=>x.wp X.P (Exit.then (y.wp X.P (Q r)) (Q r)))):Sq X l m md (λr=>(Code.seq x y).wp X.P (Q r)):=
 λr a w γ hr hi=>wp_seq (h r a w γ hr hi)
theorem sblk{id:Nat}{c:Code}(h:Sq X l m md (λr=>c.wp X.P (Exit.inBlock id (Q r)))):Sq X l m md (λr=>(Code.block id c).wp X.P (Q r)):=
 λr a w γ hr hi=>wp_block (h r a w γ hr hi)
theorem sreg{id:Nat}{ls:List Oper}(h:Sq X l m md (λr=>wpList X.P ⟨ls⟩ (Q r) ls)):Sq X l m md (λr=>(Code.region id ⟨ls⟩ false).wp X.P (Q r)):=
 λr a w γ hr hi=>wp_region_list (h r a w γ hr hi)
theorem snil{ops:Array Oper}(h:Sq X l m md (λr=>Q r .normal)):Sq X l m md (λr=>wpList X.P ops (Q r) []):=h
theorem sx{id:Nat}(h:Sq X l m md (λr=>Q r .normal)):Sq X l m md (λr=>Exit.inBlock id (Q r) (.exit id)):=
 λr a w γ hr hi=>by simp only[Exit.inBlock,if_true];exact h r a w γ hr hi
theorem sxo{id id':Nat}(hne:Nat.beq id' id=false)(h:Sq X l m md (λr=>Q r (.exit id'))):Sq X l m md (λr=>Exit.inBlock id (Q r) (.exit id')):=
 λr a w γ hr hi=>by
  have:id'≠id:=λe=>by subst e;simp at hne
  simp only[Exit.inBlock,if_neg this];exact h r a w γ hr hi
theorem so{d op ty pos after}{ops:Array Oper}{rest:List Oper}{el em}(h:OpOk X (lk l) (lk m) ⟨d,op,ty,pos,after,none⟩ el em)
 (k:Sq X (el++l) (em++m) md (λr=>wpList X.P ops (Q r) rest)):Sq X l m md (λr=>wpList X.P ops (Q r) (⟨d,op,ty,pos,after,none⟩::rest)):=by
 intro r a w γ hr hi;refine wpList_plain rfl λK hK=>h a w γ K (Q r) hi λa' w' γ' hi'=>hK a' w' (k r a' w' γ' hr ?_);rw[up_lk,up_lk] at hi';exact hi'
theorem s1{d op ty pos after}{ops:Array Oper}{rest:List Oper}{e}(h:OpOk X (lk l) (lk m) ⟨d,op,ty,pos,after,none⟩ [e] [])
 (k:Sq X (e::l) m md (λr=>wpList X.P ops (Q r) rest)):Sq X l m md (λr=>wpList X.P ops (Q r) (⟨d,op,ty,pos,after,none⟩::rest)):=so h k
theorem Qkz{ops:Array Oper}{j dj:Nat}{b:Bool}{st mm a w γ}(hi:Inv X st mm a w γ)(hj:((ops[j]?).bind (·.dst))=some dj)(hv:st dj=some (bl b)):yielded ops a.tmps j=some b:=by obtain⟨v,hv',hl⟩:=hi.sts dj _ hv;simp only[bl,Ly.val,cpB] at hl;subst hl;unfold yielded;simp[hj,hv']
theorem sg{d op ty pos after j b}{ops:Array Oper}{rest:List Oper}{el em}(dj:Nat)(hj:((ops[j]?).bind (·.dst))=some dj)(hv:lk l dj=some (bl b))(h:OpOk X (lk l) (lk m) ⟨d,op,ty,pos,after,none⟩ el em)
 (k:Sq X (el++l) (em++m) md (λr=>wpList X.P ops (Q r) rest)):Sq X l m md (λr=>wpList X.P ops (Q r) (⟨d,op,ty,pos,after,some (j,b)⟩::rest)):=by
 intro r a w γ hr hi;refine wpList_step λK hK=>?_;rw[if_pos (by simp[Region.wanted,Qkz hi hj hv])];refine h a w γ K (Q r) hi λa' w' γ' hi'=>hK a' w' (k r a' w' γ' hr ?_);rw[up_lk,up_lk] at hi';exact hi'
theorem sp{d op ty pos after j b}{ops:Array Oper}{rest:List Oper}(dj:Nat)(hj:((ops[j]?).bind (·.dst))=some dj)(hv:lk l dj=some (bl (!b)))(hd:Nat.blt d X.N=true)
 (k:Sq X ((d,.any)::l) m md (λr=>wpList X.P ops (Q r) rest)):Sq X l m md (λr=>wpList X.P ops (Q r) (⟨some d,op,ty,pos,after,some (j,b)⟩::rest)):=by
 intro r a w γ hr hi;refine wpList_step λK hK=>?_;rw[if_neg (by cases b<;>simp[Region.wanted,Qkz hi hj hv])];refine hK _ w (k r _ w γ hr ?_);have:=hi.put (d:=d) (v:=undef) (ly:=.any) (by simpa using hd) (by simp[Ly.val]);rw[up_lk] at this;exact this
def LpQ{σ τ:Type}(X:Cx)(L:σ->List (Nat×Ly))(M:σ->List (Nat×Ct))(k:τ->Option R)(Q:R->Exit->Act->World->Prop):Lp σ τ->Exit->Act->World->Prop
 | .go s,e,a,w=>e=.normal∧∃ γ,Inv X (lk (L s)) (lk (M s)) a w γ
 | .out t,e,a,w=>e≠.normal∧∀ r,k t=some r->Q r e a w
theorem sgo{σ τ:Type}{L:σ->List (Nat×Ly)}{M:σ->List (Nat×Ct)}{k:τ->Option R}{s:σ}(h:Ent X l m (L s) (M s)):
 Sq X l m (some (Lp.go s)) (λo=>LpQ X L M k Q o .normal):=by
 intro o a w γ ho hi;cases ho;exact⟨rfl,h a w γ hi⟩
theorem sout{σ τ:Type}{L:σ->List (Nat×Ly)}{M:σ->List (Nat×Ct)}{k:τ->Option R}{t:τ}{e:Exit}(he:e≠.normal)(h:Sq X l m (k t) (λr=>Q r e)):
 Sq X l m (some (Lp.out t)) (λ(o:Lp σ τ)=>LpQ X L M k Q o e):=by
 intro o a w γ ho hi;cases ho;exact⟨he,λr hr=>h r a w γ hr hi⟩
theorem Q0s{P:Program}{Q:Exit->Act->World->Prop}{c:Code}(I:Nat->Act->World->Prop)
 (round:∀ n a w,I n a w->c.wp P (Exit.then (λa' w'=>∃ n',n'<n∧I n' a' w') Q) a w):∀ n a w,I n a w->(Code.loop c).wp P Q a w:=by
 intro n0 a0 w0 h0 b k cs;have key:∀ n a w,I n a w->∃ e a' w',Q e a' w'∧Arrives P (lone (b.at a (.code c::.inLoop c::k)) cs w) b k cs e a' w':=by
  intro n
  induction n using Nat.strongRecOn with
  | _ n ih=>
    intro a w hI;obtain⟨e,a₁,w₁,hq,harr⟩:=round n a w hI b (.inLoop c::k) cs;cases e with
    | normal=>
      obtain⟨n',hlt,hI₁⟩:=hq;obtain⟨e₂,a₂,w₂,hq₂,harr₂⟩:=ih n' hlt a₁ w₁ hI₁;exact⟨e₂,a₂,w₂,hq₂,.of_steps (Steps.trans harr (.one step_inLoop)) harr₂⟩
    | exit id=>exact⟨_,a₁,w₁,hq,.pass (x:=.inLoop c) rfl (λ_ _=>.inl (by simp)) harr⟩
    | goto l=>exact⟨_,a₁,w₁,hq,.pass (x:=.inLoop c) rfl (λ_ _=>.inl (by simp)) harr⟩
    | ret=>exact⟨_,a₁,w₁,hq,.pass (x:=.inLoop c) rfl (λ_ _=>.inl (by simp)) harr⟩
    | panic ch=>exact⟨_,a₁,w₁,hq,.pass (x:=.inLoop c) rfl (λ_ _=>.inl (by simp)) harr⟩
    | outgrown=>exact⟨_,a₁,w₁,hq,.pass (x:=.inLoop c) rfl (λ_ _=>.inl (by simp)) harr⟩
 obtain⟨e,a',w',hq,harr⟩:=key n0 a0 w0 h0;exact⟨e,a',w',hq,.of_steps (.one step_loop) harr⟩
theorem sloop{σ τ τ0:Type}{body:Code}{f:σ->Option (Lp σ τ)}{n:Nat}{s0:σ}{k:τ->Option R}{G':R->Act->World->Prop}(inj:τ0->τ)
 (L:σ->List (Nat×Ly)) (M:σ->List (Nat×Ct)) (Lo:τ0->List (Nat×Ly)) (Mo:τ0->List (Nat×Ct)) (h0:Ent X l m (L s0) (M s0))
 (hb:(∀ t,Sq X (Lo t) (Mo t) (k (inj t)) G')->∀ s,Sq X (L s) (M s) (f s) (λo=>body.wp X.P (LpQ X L M k Q o)))
 (hJ:∀ t,Sq X (Lo t) (Mo t) (k (inj t)) G') :
 Sq X l m ((loopM f n s0).bind k) (λr=>(Code.loop body).wp X.P (Q r)):=by
 have hb:=hb hJ;intro r a w γ hr hi;obtain⟨γ0,hi0⟩:=h0 a w γ hi;refine Q0s (λn a w=>∃ s γ,((loopM f n s).bind k=some r)∧Inv X (lk (L s)) (lk (M s)) a w γ) ?_ n a w ⟨s0,γ0,hr,hi0⟩;rintro n a w ⟨s,γ,hr,hi⟩;cases n with
 | zero=>cases hr
 | succ n=>
   cases hf:f s with
   | none=>simp[loopM,hf] at hr
   | some o=>
     refine Code.wp_mono (λe a' w' hq=>?_) (hb s o a w γ hf hi);cases o with
     | go s'=>
       obtain⟨rfl,γ',hi'⟩:=hq;exact⟨n,Nat.lt_succ_self n,s',γ',by simpa [loopM,hf] using hr,hi'⟩
     | out t=>
       obtain⟨hne,hq⟩:=hq;have hkt:k t=some r:=by simpa [loopM,hf] using hr
       have:=hq r hkt;cases e<;>first | exact this | exact absurd rfl hne
theorem pnm{y:Code}(h:Sq X l m md (λr=>y.wp X.P (Q r))):Sq X l m md (λr=>Exit.then (y.wp X.P (Q r)) (Q r) .normal):=h
theorem pth{N:R->Act->World->Prop}(h:Sq X l m md (λr=>Q r .ret)):Sq X l m md (λr=>Exit.then (N r) (Q r) .ret):=h
theorem ptx{N:R->Act->World->Prop}{id:Nat}(h:Sq X l m md (λr=>Q r (.exit id))):Sq X l m md (λr=>Exit.then (N r) (Q r) (.exit id)):=h
theorem pbn{id:Nat}(h:Sq X l m md (λr=>Q r .normal)):Sq X l m md (λr=>Exit.inBlock id (Q r) .normal):=h
theorem pbl{id:Nat}(h:Sq X l m md (λr=>Q r .ret)):Sq X l m md (λr=>Exit.inBlock id (Q r) .ret):=h
def jn{σ ρ:Type}(A:(σ->Option ρ)->Option ρ)(k:σ->Option ρ):Option ρ:=A k
def nkey{α:Type}(d:Nat):List (Nat×α)->Bool
 | []=>true
 | (i,_)::l=>!(Nat.beq i d) && nkey d l
theorem Qvc{α:Type}{d:Nat}:∀ {l:List (Nat×α)},nkey d l=true->lk l d=none
 | [],_=>rfl
 | (i,_)::l,h=>by simp only[nkey,Bool.and_eq_true,Bool.not_eq_true'] at h;simp only[lk,h.1,cond_false];exact Qvc h.2
theorem srange{α σ τ:Type}{f:Nat->α->σ->Option (Lp σ τ)}{xs:List α}{s0:σ}{k:Lp σ τ->Option R}
 {id1 id2 e tc ti tn t2 T1 T2 T3 T4 ty1 ty2 ty3:Nat}{p1 p2 p3:String}{f1 f2 f3:Array Edge}{B:Code}
 (L:σ->List (Nat×Ly)) (M:σ->List (Nat×Ct))
 (hd:(Nat.blt tc X.N && Nat.blt ti X.N && Nat.blt t2 X.N && !(Nat.beq tc ti) && !(Nat.beq tc tn) && !(Nat.beq ti tn) && !(Nat.beq t2 tn) && !(Nat.beq t2 ti))=true)
 (hk:∀ s,(nkey tc (L s) && nkey ti (L s) && nkey t2 (L s) && nkey tn (L s))=true)
 (h0:Ent X l m ((ti,i64 (0:Nat))::(tn,i64 xs.length)::L s0) (M s0))
 (hb:∀(i:Nat) x s,xs[i]?=some x->Sq X ((ti,i64 i)::(tn,i64 xs.length)::L s) (M s) (f i x s)
  (λo=>B.wp X.P (LpQ X (λs=>(ti,i64 i)::(tn,i64 xs.length)::L s) M (λt=>k (.out t)) Q o)))
 (hJ:∀ s,Sq X (L s) (M s) (k (.go s)) (λr=>Q r (.exit e))) :
 Sq X l m ((rangeL f xs 0 s0).bind k) (λr=>(Code.loop (.seq (.region id1 ⟨[⟨some tc,.binOp .lss T1 (.tmp ti) (.tmp tn) T2,ty1,p1,f1,none⟩]⟩ false)
  (.seq (.cond (.tmp tc) .skip (.exit e)) (.seq B (.region id2 ⟨[⟨some t2,.binOp .add T3 (.tmp ti) (.const (.int .i64 1)) T4,ty2,p2,f2,none⟩,⟨some ti,.move (.tmp t2),ty3,p3,f3,none⟩]⟩ false))))).wp X.P (Q r)):=by
 simp only[Bool.and_eq_true,Bool.not_eq_true',Nat.blt_eq] at hd;obtain⟨⟨⟨⟨⟨⟨⟨hN1,hN2⟩,hN3⟩,e1⟩,e2⟩,e3⟩,e4⟩,e5⟩:=hd;intro r a w γ hr hi;obtain⟨γ0,hi0⟩:=h0 a w γ hi;refine Q0s (λn a w=>∃ i s γ,n=xs.length - i∧i≤xs.length∧((rangeL f (xs.drop i) i s).bind k=some r)∧Inv X (lk ((ti,i64 i)::(tn,i64 xs.length)::L s)) (lk (M s)) a w γ) ?_ xs.length a w ⟨0,s0,γ0,rfl,Nat.zero_le _,by simpa using hr,hi0⟩;rintro n a w ⟨i,s,γ,rfl,hile,hr,hi⟩;have hks:=hk s;simp only[Bool.and_eq_true] at hks;obtain⟨⟨⟨k1,k2⟩,k3⟩,k4⟩:=hks;have hti:=OpdF.val hi (x:=.tmp ti) (ly:=i64 i) (by simp[OpdF,lk]);have htn:=OpdF.val hi (x:=.tmp tn) (ly:=i64 xs.length) (by simp[OpdF,lk,e3]);simp only[i64,Ly.val,cpI] at hti htn;refine wp_seq (wp_region_list (wpList_plain rfl λK hK=>?_));have hrun:(execOp a.eval ⟨some tc,.binOp .lss T1 (.tmp ti) (.tmp tn) T2,ty1,p1,f1,none⟩).run X.P w=.ok (.value (.bool (decide (i<xs.length)))) w:=by
  simp only[execOp,hti.1,htn.1];simp[eqGuard,binOp,Op.intCmp,bind,Sem.bind,pure]
 unfold Oper.wp;rw[hrun];refine hK _ _ ?_;have hi1:Inv X (lk ((tc,bl (decide (i<xs.length)))::(ti,i64 i)::(tn,i64 xs.length)::L s)) (lk (M s)) (a.put (some tc) (.bool (decide (i<xs.length)))) w γ:=by have:=hi.put (d:=tc) (v:=.bool (decide (i<xs.length))) (ly:=bl (decide (i<xs.length))) hN1 (by simp[bl,Ly.val,cpB]);rw[up_lk] at this;exact this
 show Code.wp _ _ _ _ _;have hcv:=OpdF.val hi1 (x:=.tmp tc) (ly:=bl (decide (i<xs.length))) (by simp[OpdF,lk]);simp only[bl,Ly.val,cpB] at hcv;by_cases hlt:i<xs.length;obtain⟨x,hx⟩:∃ x,xs[i]?=some x:=⟨_,List.getElem?_eq_getElem hlt⟩
 have hdrop:xs.drop i=x::xs.drop (i+1):=by rw[List.drop_eq_getElem_cons hlt];rw[List.getElem?_eq_getElem hlt] at hx;simp at hx;rw[hx]
 rw[hdrop] at hr;have hdt:decide (i<xs.length)=true:=by simp[hlt]
 rw[hdt] at hcv hi1 ⊢;refine wp_seq (wp_cond_true hcv (wp_skip ?_));show Code.wp _ _ _ _ _;cases hf:f i x s with
 | none=>simp[rangeL,hf] at hr
 | some o=>
   have hi2:Inv X (lk ((ti,i64 i)::(tn,i64 xs.length)::L s)) (lk (M s)) (a.put (some tc) (.bool true)) w γ:=
    { hi1 with sts:=λd ly hd=>hi1.sts d ly (by
     have hne:Nat.beq tc d=false:=by
      cases hb:Nat.beq tc d;rfl;have:tc=d:=Nat.eq_of_beq_eq_true hb;subst this;have e1':Nat.beq ti tc=false:=by cases hb:Nat.beq ti tc;rfl;rw[Nat.eq_of_beq_eq_true hb] at e1;simp at e1
      have e2':Nat.beq tn tc=false:=by cases hb:Nat.beq tn tc;rfl;rw[Nat.eq_of_beq_eq_true hb] at e2;simp at e2
      simp only[lk,e1',e2',cond_false,Qvc k1] at hd;cases hd
     show lk ((tc,bl true)::_) d=_
     rw[lk,hne];exact hd) }
   refine wp_seq (Code.wp_mono (λe' a' w' hq=>?_) (hb i x s hx o _ w γ hf hi2));cases o with
   | out t=>
     obtain⟨hne,hq⟩:=hq;have hkt:k (.out t)=some r:=by simpa [rangeL,hf] using hr
     have:=hq r hkt;cases e'<;>first | exact this | exact absurd rfl hne
   | go s'=>
     obtain⟨rfl,γ',hi'⟩:=hq;have hr':(rangeL f (xs.drop (i+1)) (i+1) s').bind k=some r:=by simpa [rangeL,hf] using hr
     have hti':=OpdF.val hi' (x:=.tmp ti) (ly:=i64 i) (by simp[OpdF,lk]);have htn':=OpdF.val hi' (x:=.tmp tn) (ly:=i64 xs.length) (by simp[OpdF,lk,e3]);simp only[i64,Ly.val,cpI] at hti' htn';have hw:IntKind.i64.wrap ((i:Int)+1)=((i+1:Nat):Int):=by
      have h1:(xs.length:Int)≤9223372036854775807:=by simpa [IntKind.max,IntKind.signed,IntKind.bits] using htn'.2.2
      rw[IntKind.wrap_i64];omega
     show Code.wp _ _ _ _ _;refine wp_region_list (wpList_plain rfl λK hK=>?_);have hrun2:(execOp a'.eval ⟨some t2,.binOp .add T3 (.tmp ti) (.const (.int .i64 1)) T4,ty2,p2,f2,none⟩).run X.P w'=.ok (.value (.int .i64 ((i+1:Nat):Int))) w':=by simp only[execOp];rw[hti'.1];show Sem.run X.P _ w'=_;simp[eqGuard,binOp,Op.intArith,bind,Sem.bind,pure,Act.eval,hw]
     unfold Oper.wp;rw[hrun2];refine hK _ _ ?_;have hb1:((i+1:Nat):Int)≤IntKind.i64.max:=by have h1:=htn'.2.2;omega
     have hb0:IntKind.i64.min≤((i+1:Nat):Int):=by
      have h1:IntKind.i64.min≤0:=by decide
      omega
     have hi3:=hi'.put (d:=t2) (v:=.int .i64 ((i+1:Nat):Int)) (ly:=i64 ((i+1:Nat):Int)) hN3 ⟨rfl,hb0,hb1⟩;rw[up_lk] at hi3;have ht2:=OpdF.val hi3 (x:=.tmp t2) (ly:=i64 ((i+1:Nat):Int)) (by simp[OpdF,lk]);simp only[i64,Ly.val,cpI] at ht2;refine wpList_plain rfl λK hK=>?_;unfold Oper.wp;have hrun3:(execOp (Act.put a' (some t2) (.int .i64 ((i+1:Nat):Int))).eval ⟨some ti,.move (.tmp t2),ty3,p3,f3,none⟩).run X.P w'=.ok (.value (.int .i64 ((i+1:Nat):Int))) w':=by
      simp only[execOp,ht2.1];rfl
     rw[hrun3];refine hK _ _ ?_;have hi4:=hi3.put (d:=ti) (v:=.int .i64 ((i+1:Nat):Int)) (ly:=i64 ((i+1:Nat):Int)) hN2 ⟨rfl,hb0,hb1⟩;rw[up_lk] at hi4;have hks:=hk s';simp only[Bool.and_eq_true] at hks;obtain⟨⟨⟨k1',k2'⟩,k3'⟩,k4'⟩:=hks;refine⟨xs.length - (i+1),by omega,i+1,s',γ',rfl,by omega,hr',{ hi4 with sts:=λd ly hd=>hi4.sts d ly ?_ }⟩;show lk ((ti,_)::(t2,_)::(ti,_)::(tn,_)::_) d=some ly;simp only[lk] at hd ⊢;cases hb1:Nat.beq ti d;simp only[hb1,cond_false] at hd ⊢;cases hb2:Nat.beq t2 d
     simpa using hd
     have:t2=d:=Nat.eq_of_beq_eq_true hb2;subst this;have e4':Nat.beq tn t2=false:=by cases hb:Nat.beq tn t2;rfl;rw[Nat.eq_of_beq_eq_true hb] at e4;simp at e4
     rw[e4',cond_false,Qvc k3'] at hd;cases hd;simp only[hb1,cond_true] at hd ⊢;exact hd
 have:xs.drop i=[]:=List.drop_eq_nil_of_le (by omega);rw[this] at hr;have hdf:decide (i<xs.length)=false:=by simp[hlt]
 rw[hdf] at hcv hi1 ⊢;refine wp_seq (wp_cond_false hcv (wp_exit ?_));show Q r (.exit e) _ _;refine hJ s r _ w γ (by simpa [rangeL] using hr) { hi1 with sts:=λd ly hd=>hi1.sts d ly ?_ }
 have nk:∀ t,nkey t (L s)=true->Nat.beq t d=false:=λt ht=>by cases hb:Nat.beq t d;rfl;rw[Nat.eq_of_beq_eq_true hb] at ht;rw[Qvc ht] at hd;cases hd
 show lk ((tc,_)::(ti,_)::(tn,_)::_) d=some ly;simp only[lk,nk tc k1,nk ti k2,nk tn k4,cond_false];exact hd
end rules
def i32(x:Int):Ly:=.cell (cpI .i32 x)
def uk(k:IntKind)(x:Nat):Ly:=.cell (cpI k x)
abbrev u8(x:Nat):Ly:=uk .u8 x
abbrev u32(x:Nat):Ly:=uk .u32 x
abbrev u64(x:Nat):Ly:=uk .u64 x
def cpX(v0:Value)(h:v0.oneCell'=true):CP where
 p:=λ_ _ v=>v=v0
 one:=by intro _ _ v hv;subst hv;exact h
 mono:=λh _ _=>h
def cpS(s:List UInt8):CP where
 p:=λ_ _ v=>v=.string ⟨s.toArray⟩∧s.length≤maxLen
 one:=by intro _ _ v h;obtain⟨rfl,_⟩:=h;rfl
 mono:=λh _ _=>h
def str(s:List UInt8):Ly:=.cell (cpS s)
def cpL(k:Nat)(ls:List Ly):CP where
 p:=λw S v=>(v=.slice none 0 0∧ls=[])∨(∃ b o cap cs,v=.slice (some ⟨b,o,none⟩) ls.length cap∧ls.length≤cap∧cap≤maxLen∧b<w.heap.size∧¬ S b ∧
  (∀ j u,cs[j]?=some u->w.cell? ⟨b,o+j,none⟩=some u)∧Ly.holds w S (λ_=>none) ls cs∧∀ ly∈ls,ly.sz=k)∨(ls=[]∧∃ ad,v=.slice (some ad) 0 0)
 one:=by rintro _ _ v (⟨rfl,_⟩ | ⟨b,o,cap,cs,rfl,_⟩ | ⟨_,ad,rfl⟩)<;>rfl
 mono:=by rintro w S v w' S' (⟨rfl,h⟩ | ⟨b,o,cap,cs,rfl,h1,h2,h3,h4,h5,h6,h7⟩ | h) hk hs;exact .inl ⟨rfl,h⟩;exact .inr (.inl ⟨b,o,cap,cs,rfl,h1,h2,Nat.lt_of_lt_of_le h3 hk.1,λh'=>(hs b h').elim h4 (λh''=>by omega),λj u hj=>hk.cell h4 (h5 j u hj),Ly.holds_mono hk hs (Ng.refl _) ls cs h6,h7⟩);exact .inr (.inr h)
def sli(k:Nat)(ls:List Ly):Ly:=.cell (cpL k ls)
theorem Xl{x}:IF (i64 x):=Qfv _
theorem Jco{x}:IF (i32 x):=Qfv _
theorem if_u8{x}:IF (u8 x):=Qfv _
theorem Wi{x}:IF (u32 x):=Qfv _
theorem Jcp{x}:IF (u64 x):=Qfv _
theorem if_bl{x}:IF (bl x):=Qfv _
theorem Qtr{x}:IF (str x):=Qfv _
theorem Qap{k x}:IF (sli k x):=Qfv _
section ops
variable {X:Cx}{st:Nat->Option Ly}{mm:Nat->Option Ct}
theorem Ws{d op ty pos af ly}(hd:Nat.blt d X.N=true)
 (h:∀ a w γ,Inv X st mm a w γ->∃ v,(execOp a.eval ⟨some d,op,ty,pos,af,none⟩).run X.P w=.ok (.value v) w∧ly.val w (X.S γ mm) γ v) :
 OpOk X st mm ⟨some d,op,ty,pos,af,none⟩ [(d,ly)] []:=by
 intro a w γ K Q hi hK;obtain⟨v,hr,hv⟩:=h a w γ hi;unfold Oper.wp;rw[hr];exact hK _ _ γ (hi.put (by simpa using hd) hv)
theorem mv{d x ty pos af ly}(hd:Nat.blt d X.N=true)(hx:OpdF st x ly):OpOk X st mm ⟨some d,.move x,ty,pos,af,none⟩ [(d,ly)] []:=
 Ws hd λ_ _ _ hi=>⟨_,rfl,hx.val hi⟩
theorem asg{d x ty pos af ly}(hd:Nat.blt d X.N=true)(hx:OpdF st x ly):OpOk X st mm ⟨some d,.assign x,ty,pos,af,none⟩ [(d,ly)] []:=
 Ws hd λ_ _ _ hi=>⟨_,rfl,hx.val hi⟩
theorem pickT{d c x y ty pos af ly}(hd:Nat.blt d X.N=true)(hc:OpdF st c (bl true))(hx:OpdF st x ly):OpOk X st mm ⟨some d,.pick c x y,ty,pos,af,none⟩ [(d,ly)] []:=
 Ws hd λ_ _ _ hi=>⟨_,by
  have:=hc.val hi;simp only[bl,Ly.val,cpB] at this
  simp only[execOp,this];rfl,hx.val hi⟩
theorem pickF{d c x y ty pos af ly}(hd:Nat.blt d X.N=true)(hc:OpdF st c (bl false))(hx:OpdF st y ly):OpOk X st mm ⟨some d,.pick c x y,ty,pos,af,none⟩ [(d,ly)] []:=
 Ws hd λ_ _ _ hi=>⟨_,by
  have:=hc.val hi;simp only[bl,Ly.val,cpB] at this
  simp only[execOp,this];rfl,hx.val hi⟩
theorem kB{b}:OpdF st (.const (.bool b)) (bl b):=λ_ _ _=>by simp[bl,Ly.val,cpB]
theorem kI{x:Int}(h:(decide (-9223372036854775808≤x) && decide (x≤9223372036854775807))=true):OpdF st (.const (.int .i64 x)) (i64 x):=λ_ _ _=>by simp only[Bool.and_eq_true,decide_eq_true_eq] at h;exact⟨rfl,h.1,h.2⟩
theorem k32{x:Nat}(h:Nat.ble x 4294967295=true):OpdF st (.const (.int .u32 x)) (u32 x):=λ_ _ _=>by have:=Nat.le_of_ble_eq_true h;exact⟨rfl,by show(0:Int)≤_;omega,by show(x:Int)≤4294967295;omega⟩
theorem k8{x:Nat}(h:Nat.ble x 255=true):OpdF st (.const (.int .u8 x)) (u8 x):=λ_ _ _=>by have:=Nat.le_of_ble_eq_true h;exact⟨rfl,by show(0:Int)≤_;omega,by show(x:Int)≤255;omega⟩
theorem k64{x:Nat}(h:Nat.ble x 18446744073709551615=true):OpdF st (.const (.int .u64 x)) (u64 x):=λ_ _ _=>by have:=Nat.le_of_ble_eq_true h;exact⟨rfl,by show(0:Int)≤_;omega,by show(x:Int)≤18446744073709551615;omega⟩
theorem kS{s:List UInt8}(h:Nat.ble s.length 1000000=true):OpdF st (.const (.string ⟨s.toArray⟩)) (str s):=λ_ _ _=>
 ⟨rfl,by have:=Nat.le_of_ble_eq_true h;unfold maxLen;omega⟩
theorem Qi9{d o T x y T2 ty pos af lx l2 lz}(hd:Nat.blt d X.N=true)(hx:OpdF st x lx)(hy:OpdF st y l2)
 (h:∀ w S γ vx vy,lx.val w S γ vx->l2.val w S γ vy->∃ v,(∀ w,(eqGuard o T x y vx vy).run X.P w=.ok () w)∧(∀ w,(binOp o T vx vy).run X.P w=.ok v w)∧lz.val w S γ v) :
 OpOk X st mm ⟨some d,.binOp o T x y T2,ty,pos,af,none⟩ [(d,lz)] []:=
 Ws hd λa w γ hi=>by obtain⟨v,h1,h2,h3⟩:=h w _ γ _ _ (hx.val hi) (hy.val hi);refine⟨v,?_,h3⟩;simp only[execOp];simp[h1,h2]
theorem w64_b(n:Int):IntKind.i64.min≤wrap64 n∧wrap64 n≤IntKind.i64.max:=by
 have h1:IntKind.i64.min=-9223372036854775808:=by decide
 have h2:IntKind.i64.max=9223372036854775807:=by decide
 rw[h1,h2];unfold wrap64;omega
theorem Qk0(n:Int):IntKind.i64.wrap n=wrap64 n:=by rw[IntKind.wrap_i64];simp only[wrap64]
theorem arI{d x y T T2 ty pos af p q z}{o:BinOp}(hz:∀ w,(binOp o T (.int .i64 p) (.int .i64 q)).run X.P w=.ok (.int .i64 (wrap64 z)) w)(ho:(o matches .eql | .neq)=false)
 (hd:Nat.blt d X.N=true) (hx:OpdF st x (i64 p)) (hy:OpdF st y (i64 q)) :
 OpOk X st mm ⟨some d,.binOp o T x y T2,ty,pos,af,none⟩ [(d,i64 (wrap64 z))] []:=
 Qi9 hd hx hy λw S γ vx vy h1 h2=>by obtain⟨rfl,_⟩:=h1;obtain⟨rfl,_⟩:=h2;exact⟨_,λw=>by cases o<;>simp_all [eqGuard],hz,rfl,w64_b z⟩
theorem addI{d x y T T2 ty pos af p q}(hd:Nat.blt d X.N=true)(hx:OpdF st x (i64 p))(hy:OpdF st y (i64 q)):
 OpOk X st mm ⟨some d,.binOp .add T x y T2,ty,pos,af,none⟩ [(d,i64 (wrap64 (p+q)))] []:=arI (λw=>by simp[binOp,Op.intArith,Qk0]) rfl hd hx hy
theorem subI{d x y T T2 ty pos af p q}(hd:Nat.blt d X.N=true)(hx:OpdF st x (i64 p))(hy:OpdF st y (i64 q)):
 OpOk X st mm ⟨some d,.binOp .sub T x y T2,ty,pos,af,none⟩ [(d,i64 (wrap64 (p - q)))] []:=arI (λw=>by simp[binOp,Op.intArith,Qk0]) rfl hd hx hy
theorem mulI{d x y T T2 ty pos af p q}(hd:Nat.blt d X.N=true)(hx:OpdF st x (i64 p))(hy:OpdF st y (i64 q)):
 OpOk X st mm ⟨some d,.binOp .mul T x y T2,ty,pos,af,none⟩ [(d,i64 (wrap64 (p*q)))] []:=arI (λw=>by simp[binOp,Op.intArith,Qk0]) rfl hd hx hy
theorem quoI{d x y T T2 ty pos af p q}(hq:(q == 0)=false)(hd:Nat.blt d X.N=true)(hx:OpdF st x (i64 p))(hy:OpdF st y (i64 q)):
 OpOk X st mm ⟨some d,.binOp .quo T x y T2,ty,pos,af,none⟩ [(d,i64 (wrap64 (p.tdiv q)))] []:=
 arI (λw=>by have:q≠0:=by simpa using hq
             simp[binOp,Op.intDiv,Qk0,this]) rfl hd hx hy
theorem remI{d x y T T2 ty pos af p q}(hq:(q == 0)=false)(hd:Nat.blt d X.N=true)(hx:OpdF st x (i64 p))(hy:OpdF st y (i64 q)):
 OpOk X st mm ⟨some d,.binOp .rem T x y T2,ty,pos,af,none⟩ [(d,i64 (p.tmod q))] []:=
 Qi9 hd hx hy λw S γ vx vy h1 h2=>by
  have hq':q≠0:=by simpa using hq
  obtain⟨rfl,hp1,hp2⟩:=h1;obtain⟨rfl,hq1,hq2⟩:=h2;refine⟨_,λw=>by simp[eqGuard],λw=>by simp[binOp,Op.intDiv,hq'],rfl,?_⟩;have h1:IntKind.i64.min=-9223372036854775808:=by decide
  have h2:IntKind.i64.max=9223372036854775807:=by decide
  rw[h1] at hp1 hq1 ⊢;rw[h2] at hp2 hq2 ⊢;have h3:(p.tmod q).natAbs=p.natAbs%q.natAbs:=Int.natAbs_tmod p q;have h4:p.natAbs%q.natAbs<q.natAbs:=Nat.mod_lt _ (by omega);omega
theorem negI{d x T ty pos af p}(hd:Nat.blt d X.N=true)(hx:OpdF st x (i64 p)):
 OpOk X st mm ⟨some d,.unOp .neg T x,ty,pos,af,none⟩ [(d,i64 (wrap64 (-p)))] []:=
 Ws hd λa w γ hi=>by obtain⟨h1,_⟩:=hx.val hi;exact⟨.int .i64 (wrap64 (-p)),by simp only[execOp,h1];simp[Op.unary,Op.intArith,Qk0],rfl,w64_b _⟩
theorem notB{d x T ty pos af b}(hd:Nat.blt d X.N=true)(hx:OpdF st x (bl b)):
 OpOk X st mm ⟨some d,.unOp .not T x,ty,pos,af,none⟩ [(d,bl (!b))] []:=
 Ws hd λa w γ hi=>by have h1:=hx.val hi;simp only[bl,Ly.val,cpB] at h1;exact⟨.bool (!b),by simp only[execOp,h1];simp[Op.unary],by simp[bl,Ly.val,cpB]⟩
theorem cmI{d x y T T2 ty pos af p q b}{o:BinOp}{k:IntKind}(hz:∀ w,(binOp o T (.int k p) (.int k q)).run X.P w=.ok (.bool b) w)
 (hd:Nat.blt d X.N=true) (hx:OpdF st x (.cell (cpI k p))) (hy:OpdF st y (.cell (cpI k q))) :
 OpOk X st mm ⟨some d,.binOp o T x y T2,ty,pos,af,none⟩ [(d,bl b)] []:=
 Qi9 hd hx hy λw S γ vx vy h1 h2=>by obtain⟨rfl,_⟩:=h1;obtain⟨rfl,_⟩:=h2;exact⟨_,λw=>by cases o<;>simp[eqGuard],hz,by simp[bl,Ly.val,cpB]⟩
theorem ltI{d x y T T2 ty pos af p q}(hd:Nat.blt d X.N=true)(hx:OpdF st x (i64 p))(hy:OpdF st y (i64 q)):
 OpOk X st mm ⟨some d,.binOp .lss T x y T2,ty,pos,af,none⟩ [(d,bl (decide (p<q)))] []:=cmI (λw=>by simp[binOp,Op.intCmp]) hd hx hy
theorem leI{d x y T T2 ty pos af p q}(hd:Nat.blt d X.N=true)(hx:OpdF st x (i64 p))(hy:OpdF st y (i64 q)):
 OpOk X st mm ⟨some d,.binOp .leq T x y T2,ty,pos,af,none⟩ [(d,bl (decide (p≤q)))] []:=cmI (λw=>by simp[binOp,Op.intCmp]) hd hx hy
theorem gtI{d x y T T2 ty pos af p q}(hd:Nat.blt d X.N=true)(hx:OpdF st x (i64 p))(hy:OpdF st y (i64 q)):
 OpOk X st mm ⟨some d,.binOp .gtr T x y T2,ty,pos,af,none⟩ [(d,bl (decide (q<p)))] []:=cmI (λw=>by simp[binOp,Op.intCmp]) hd hx hy
theorem geI{d x y T T2 ty pos af p q}(hd:Nat.blt d X.N=true)(hx:OpdF st x (i64 p))(hy:OpdF st y (i64 q)):
 OpOk X st mm ⟨some d,.binOp .geq T x y T2,ty,pos,af,none⟩ [(d,bl (decide (q≤p)))] []:=cmI (λw=>by simp[binOp,Op.intCmp]) hd hx hy
theorem eqI{d x y T T2 ty pos af p q}(hd:Nat.blt d X.N=true)(hx:OpdF st x (i64 p))(hy:OpdF st y (i64 q)):
 OpOk X st mm ⟨some d,.binOp .eql T x y T2,ty,pos,af,none⟩ [(d,bl (decide (p=q)))] []:=cmI (λw=>by simp[binOp,Op.intCmp];rfl) hd hx hy
theorem neI{d x y T T2 ty pos af p q}(hd:Nat.blt d X.N=true)(hx:OpdF st x (i64 p))(hy:OpdF st y (i64 q)):
 OpOk X st mm ⟨some d,.binOp .neq T x y T2,ty,pos,af,none⟩ [(d,bl (!decide (p=q)))] []:=cmI (λw=>by simp[binOp,Op.intCmp];rfl) hd hx hy
theorem ltU{d x y T T2 ty pos af p q}(k:IntKind)(hd:Nat.blt d X.N=true)(hx:OpdF st x (uk k p))(hy:OpdF st y (uk k q)):
 OpOk X st mm ⟨some d,.binOp .lss T x y T2,ty,pos,af,none⟩ [(d,bl (decide (p<q)))] []:=cmI (k:=k) (p:=p) (q:=q) (λw=>by simp[binOp,Op.intCmp]) hd hx hy
theorem leU{d x y T T2 ty pos af p q}(k:IntKind)(hd:Nat.blt d X.N=true)(hx:OpdF st x (uk k p))(hy:OpdF st y (uk k q)):
 OpOk X st mm ⟨some d,.binOp .leq T x y T2,ty,pos,af,none⟩ [(d,bl (decide (p≤q)))] []:=cmI (k:=k) (p:=p) (q:=q) (λw=>by simp[binOp,Op.intCmp]) hd hx hy
theorem gtU{d x y T T2 ty pos af p q}(k:IntKind)(hd:Nat.blt d X.N=true)(hx:OpdF st x (uk k p))(hy:OpdF st y (uk k q)):
 OpOk X st mm ⟨some d,.binOp .gtr T x y T2,ty,pos,af,none⟩ [(d,bl (decide (q<p)))] []:=cmI (k:=k) (p:=p) (q:=q) (λw=>by simp[binOp,Op.intCmp]) hd hx hy
theorem geU{d x y T T2 ty pos af p q}(k:IntKind)(hd:Nat.blt d X.N=true)(hx:OpdF st x (uk k p))(hy:OpdF st y (uk k q)):
 OpOk X st mm ⟨some d,.binOp .geq T x y T2,ty,pos,af,none⟩ [(d,bl (decide (q≤p)))] []:=cmI (k:=k) (p:=p) (q:=q) (λw=>by simp[binOp,Op.intCmp]) hd hx hy
theorem eqU{d x y T T2 ty pos af p q}(k:IntKind)(hd:Nat.blt d X.N=true)(hx:OpdF st x (uk k p))(hy:OpdF st y (uk k q)):
 OpOk X st mm ⟨some d,.binOp .eql T x y T2,ty,pos,af,none⟩ [(d,bl (decide (p=q)))] []:=cmI (k:=k) (p:=p) (q:=q) (λw=>by
  have:((p:Int) == (q:Int))=decide (p=q):=by rw[Bool.eq_iff_iff];simp;omega
  simp[binOp,Op.intCmp,this]) hd hx hy
theorem neU{d x y T T2 ty pos af p q}(k:IntKind)(hd:Nat.blt d X.N=true)(hx:OpdF st x (uk k p))(hy:OpdF st y (uk k q)):
 OpOk X st mm ⟨some d,.binOp .neq T x y T2,ty,pos,af,none⟩ [(d,bl (!decide (p=q)))] []:=cmI (k:=k) (p:=p) (q:=q) (λw=>by
  have:((p:Int) != (q:Int))=!decide (p=q):=by rw[Bool.eq_iff_iff];simp;omega
  simp[binOp,Op.intCmp,this]) hd hx hy
structure UK(k:IntKind)(N:Nat):Prop where
 wrap:∀ n:Int,k.wrap n=n%N
 min:k.min=0
 max:k.max=(N:Int) - 1
 bits:2 ^ k.bits=N
 pos:0<N
theorem uk8:UK .u8 256:=⟨λn=>IntKind.wrap_u8 n,by decide,by decide,by decide,by decide⟩
theorem uk32:UK .u32 4294967296:=⟨λn=>IntKind.wrap_u32 n,by decide,by decide,by decide,by decide⟩
theorem uk64:UK .u64 18446744073709551616:=⟨λn=>IntKind.wrap_u64 n,by decide,by decide,by decide,by decide⟩
theorem uk_b{k N}(h:UK k N)(x:Nat)(hx:x<N):k.min≤(x:Int)∧(x:Int)≤k.max:=by rw[h.min,h.max];omega
theorem arU{d x y T T2 ty pos af p q}{z:Nat}{o:BinOp}{k N}(hu:UK k N)(hz:p<N->q<N->z<N∧∀ w,(binOp o T (.int k p) (.int k q)).run X.P w=.ok (.int k z) w)(ho:(o matches .eql | .neq)=false)
 (hd:Nat.blt d X.N=true) (hx:OpdF st x (uk k p)) (hy:OpdF st y (uk k q)) :
 OpOk X st mm ⟨some d,.binOp o T x y T2,ty,pos,af,none⟩ [(d,uk k z)] []:=
 Qi9 hd hx hy λw S γ vx vy h1 h2=>by obtain⟨rfl,_,a2⟩:=h1;obtain⟨rfl,_,b2⟩:=h2;rw[hu.max] at a2 b2;obtain⟨h3,h4⟩:=hz (by omega) (by omega);exact⟨_,λw=>by cases o<;>simp_all [eqGuard],h4,rfl,uk_b hu z h3⟩
theorem addU{d x y T T2 ty pos af p q k N}(hu:UK k N)(hd:Nat.blt d X.N=true)(hx:OpdF st x (uk k p))(hy:OpdF st y (uk k q)):
 OpOk X st mm ⟨some d,.binOp .add T x y T2,ty,pos,af,none⟩ [(d,uk k ((p+q)%N))] []:=
 arU hu (λ_ _=>⟨Nat.mod_lt _ hu.pos,λw=>by simp[binOp,Op.intArith,hu.wrap]⟩) rfl hd hx hy
theorem subU{d x y T T2 ty pos af p q k N}(hu:UK k N)(hd:Nat.blt d X.N=true)(hx:OpdF st x (uk k p))(hy:OpdF st y (uk k q)):
 OpOk X st mm ⟨some d,.binOp .sub T x y T2,ty,pos,af,none⟩ [(d,uk k ((p+N - q)%N))] []:=
 arU hu (λhp hq=>⟨Nat.mod_lt _ hu.pos,λw=>by
  have:((p:Int) - q)%(N:Int)=((p+N - q:Nat):Int)%(N:Int):=by rw[Int.ofNat_sub (by omega),Int.natCast_add,show(p:Int)+N - q=p - q+N by omega,Int.add_emod_right]
  simp[binOp,Op.intArith,hu.wrap,this]⟩) rfl hd hx hy
theorem mulU{d x y T T2 ty pos af p q k N}(hu:UK k N)(hd:Nat.blt d X.N=true)(hx:OpdF st x (uk k p))(hy:OpdF st y (uk k q)):
 OpOk X st mm ⟨some d,.binOp .mul T x y T2,ty,pos,af,none⟩ [(d,uk k ((p*q)%N))] []:=
 arU hu (λ_ _=>⟨Nat.mod_lt _ hu.pos,λw=>by simp[binOp,Op.intArith,hu.wrap]⟩) rfl hd hx hy
theorem quoU{d x y T T2 ty pos af p q k N}(hu:UK k N)(hq:Nat.beq q 0=false)(hd:Nat.blt d X.N=true)(hx:OpdF st x (uk k p))(hy:OpdF st y (uk k q)):
 OpOk X st mm ⟨some d,.binOp .quo T x y T2,ty,pos,af,none⟩ [(d,uk k (p / q))] []:=
 arU hu (λhp _=>⟨Nat.lt_of_le_of_lt (Nat.div_le_self _ _) hp,λw=>by
  have h0:q≠0:=by rintro rfl;simp at hq
  have h1:((p / q:Nat):Int)%(N:Int)=((p / q:Nat):Int):=by
   rw[Int.emod_eq_of_lt (Int.natCast_nonneg _)]
   exact_mod_cast Nat.lt_of_le_of_lt (Nat.div_le_self _ _) hp
  have h2:(p:Int).tdiv q=((p / q:Nat):Int):=rfl;simp[binOp,Op.intDiv,hu.wrap,h0,h2]
  simpa using h1⟩) rfl hd hx hy
theorem remU{d x y T T2 ty pos af p q k N}(hu:UK k N)(hq:Nat.beq q 0=false)(hd:Nat.blt d X.N=true)(hx:OpdF st x (uk k p))(hy:OpdF st y (uk k q)):
 OpOk X st mm ⟨some d,.binOp .rem T x y T2,ty,pos,af,none⟩ [(d,uk k (p%q))] []:=
 arU hu (λhp _=>⟨Nat.lt_of_le_of_lt (Nat.mod_le _ _) hp,λw=>by
  have h0:q≠0:=by rintro rfl;simp at hq
  have h2:(p:Int).tmod q=((p%q:Nat):Int):=rfl
  simp[binOp,Op.intDiv,h0,h2]⟩) rfl hd hx hy
theorem orU{d x y T T2 ty pos af p q k N}(hu:UK k N)(hd:Nat.blt d X.N=true)(hx:OpdF st x (uk k p))(hy:OpdF st y (uk k q)):
 OpOk X st mm ⟨some d,.binOp .or T x y T2,ty,pos,af,none⟩ [(d,uk k (p ||| q))] []:=
 arU hu (λhp hq=>by
  have hlt:p ||| q<N:=by rw[←hu.bits] at hp hq ⊢;exact Nat.or_lt_two_pow hp hq
  refine⟨hlt,λw=>?_⟩
  have e1:∀ n:Nat,n<N->n%2 ^ k.bits=n:=λn hn=>by rw[hu.bits];exact Nat.mod_eq_of_lt hn
  have:((p ||| q:Nat):Int)%(N:Int)=((p ||| q:Nat):Int):=Int.emod_eq_of_lt (Int.natCast_nonneg _) (by exact_mod_cast hlt);simp only[binOp,Op.intBits];simp[BitVec.toNat_or,hu.wrap,e1 p hp,e1 q hq]
  exact this) rfl hd hx hy
theorem andU{d x y T T2 ty pos af p q k N}(hu:UK k N)(hd:Nat.blt d X.N=true)(hx:OpdF st x (uk k p))(hy:OpdF st y (uk k q)):
 OpOk X st mm ⟨some d,.binOp .and T x y T2,ty,pos,af,none⟩ [(d,uk k (p &&& q))] []:=
 arU hu (λhp hq=>by
  have hlt:p &&& q<N:=Nat.lt_of_le_of_lt Nat.and_le_left hp;refine⟨hlt,λw=>?_⟩
  have e1:∀ n:Nat,n<N->n%2 ^ k.bits=n:=λn hn=>by rw[hu.bits];exact Nat.mod_eq_of_lt hn
  have:((p &&& q:Nat):Int)%(N:Int)=((p &&& q:Nat):Int):=Int.emod_eq_of_lt (Int.natCast_nonneg _) (by exact_mod_cast hlt);simp only[binOp,Op.intBits];simp[BitVec.toNat_and,hu.wrap,e1 p hp,e1 q hq]
  exact this) rfl hd hx hy
end ops
def getI{α:Type}(l:List α)(i:Int):Option α:=if 0≤i then l[i.toNat]? else none
def getS(l:List UInt8)(i:Int):Option Nat:=if 0≤i then (l[i.toNat]?).map (·.toNat) else none
def grd(b:Bool):Option Unit:=bif b then some () else none
def sub{α:Type}(l:List α)(lo hi:Int):Option (List α):=if 0≤lo∧lo≤hi∧hi≤l.length then some ((l.take hi.toNat).drop lo.toNat) else none
def appM{α:Type}(b:Nat)(l r:List α):Option (List α):=if (l.length+r.length)*b≤140737488355328∧l.length+r.length≤9223372036854775807 then some (l++r) else none
def mkM{α:Type}(b:Nat)(z:α)(n:Int):Option (List α):=if 0≤n∧n*b≤140737488355328∧n≤9223372036854775807 then some (List.replicate n.toNat z) else none
def catS(x y:List UInt8):Option (List UInt8):=if x.length+y.length≤9223372036854775807 then some (x++y) else none
theorem Qcb{b:Bool}{u:Unit}(h:grd b=some u):b=true:=by cases b<;>simp[grd] at h;rfl
section ops
variable {X:Cx}{st:Nat->Option Ly}{mm:Nat->Option Ct}
theorem cv_ok{d x S T ty pos af lx lz ds k}(hS:X.P.underlying S=some ds)(hT:X.P.underlying T=some (.int k))(hd:Nat.blt d X.N=true)(hx:OpdF st x lx)
 (h:∀ w S γ v,lx.val w S γ v->∃ k' n,v=.int k' n∧lz.val w S γ (.int k (k.wrap n))) :
 OpOk X st mm ⟨some d,.convert S T x,ty,pos,af,none⟩ [(d,lz)] []:=
 Ws hd λa w γ hi=>by obtain⟨k',n,hv,hl⟩:=h w _ γ _ (hx.val hi);refine⟨_,?_,hl⟩;simp only[execOp,hv];simp[convert,underlying,hS,hT,Conv.intToInt]
theorem cvU{d x S T ty pos af ds k k' N p}(hu:UK k N)(hS:X.P.underlying S=some ds)(hT:X.P.underlying T=some (.int k))(hd:Nat.blt d X.N=true)(hx:OpdF st x (uk k' p)):
 OpOk X st mm ⟨some d,.convert S T x,ty,pos,af,none⟩ [(d,uk k (p%N))] []:=
 cv_ok hS hT hd hx λw S γ v hv=>by obtain⟨rfl,_⟩:=hv;refine⟨_,_,rfl,?_,uk_b hu _ (Nat.mod_lt _ hu.pos)⟩;rw[hu.wrap];simp
theorem cvUw{d x S T ty pos af ds k k' N N' p}(hu:UK k N)(hu':UK k' N')(hN:Nat.ble N' N=true)(hS:X.P.underlying S=some ds)(hT:X.P.underlying T=some (.int k))(hd:Nat.blt d X.N=true)(hx:OpdF st x (uk k' p)):
 OpOk X st mm ⟨some d,.convert S T x,ty,pos,af,none⟩ [(d,uk k p)] []:=
 cv_ok hS hT hd hx λw S γ v hv=>by
  obtain⟨rfl,_,h2⟩:=hv;rw[hu'.max] at h2;have:=Nat.le_of_ble_eq_true hN;have hp:p<N:=by omega
  refine⟨_,_,rfl,?_,uk_b hu _ hp⟩;rw[hu.wrap,Int.emod_eq_of_lt (Int.natCast_nonneg _) (by exact_mod_cast hp)]
theorem cvIU{d x S T ty pos af ds k k' N}{p:Int}(hu:UK k N)(hS:X.P.underlying S=some ds)(hT:X.P.underlying T=some (.int k))(hd:Nat.blt d X.N=true)(hx:OpdF st x (.cell (cpI k' p))):
 OpOk X st mm ⟨some d,.convert S T x,ty,pos,af,none⟩ [(d,uk k (p%(N:Int)).toNat)] []:=
 cv_ok hS hT hd hx λw S γ v hv=>by obtain⟨rfl,_⟩:=hv;have hN:=hu.pos;have h0:=Int.emod_nonneg p (b:=(N:Int)) (by omega);have h1:=Int.emod_lt_of_pos p (b:=(N:Int)) (by omega);refine⟨_,_,rfl,?_,uk_b hu _ (by omega)⟩;rw[hu.wrap,Int.toNat_of_nonneg h0]
theorem cvUI{d x S T ty pos af ds k' p}(hS:X.P.underlying S=some ds)(hT:X.P.underlying T=some (.int .i64))(hd:Nat.blt d X.N=true)(hx:OpdF st x (uk k' p)):
 OpOk X st mm ⟨some d,.convert S T x,ty,pos,af,none⟩ [(d,i64 (wrap64 p))] []:=
 cv_ok hS hT hd hx λw S γ v hv=>by obtain⟨rfl,_⟩:=hv;exact⟨_,_,rfl,by rw[Qk0],w64_b _⟩
theorem cvUIw{d x S T ty pos af ds k' N' p}(hu':UK k' N')(hN:Nat.ble N' 9223372036854775808=true)(hS:X.P.underlying S=some ds)(hT:X.P.underlying T=some (.int .i64))(hd:Nat.blt d X.N=true)(hx:OpdF st x (uk k' p)):
 OpOk X st mm ⟨some d,.convert S T x,ty,pos,af,none⟩ [(d,i64 p)] []:=
 cv_ok hS hT hd hx λw S γ v hv=>by
  obtain⟨rfl,_,h2⟩:=hv;rw[hu'.max] at h2;have:=Nat.le_of_ble_eq_true hN;have e:wrap64 (p:Int)=p:=by unfold wrap64;omega
  have hb:=w64_b (p:Int);rw[e] at hb;exact⟨_,_,rfl,by rw[Qk0,e],hb⟩
theorem shlU{d x y T T2 ty pos af p k N k'}{q:Int}(hu:UK k N)(hq:(decide (0≤q))=true)(hd:Nat.blt d X.N=true)(hx:OpdF st x (uk k p))(hy:OpdF st y (.cell (cpI k' q))):
 OpOk X st mm ⟨some d,.binOp .shl T x y T2,ty,pos,af,none⟩ [(d,uk k ((p*2 ^ (min q.toNat k.bits))%N))] []:=
 Qi9 hd hx hy λw S γ vx vy h1 h2=>by
  obtain⟨rfl,_⟩:=h1;obtain⟨rfl,_⟩:=h2;have:¬ q<0:=by have:=of_decide_eq_true hq;omega
  exact⟨_,λw=>by simp[eqGuard],λw=>by simp[binOp,Op.shift,this,hu.wrap];rfl,by simp,uk_b hu _ (Nat.mod_lt _ hu.pos)⟩
theorem shrU{d x y T T2 ty pos af p k N k'}{q:Int}(hu:UK k N)(hq:(decide (0≤q))=true)(hd:Nat.blt d X.N=true)(hx:OpdF st x (uk k p))(hy:OpdF st y (.cell (cpI k' q))):
 OpOk X st mm ⟨some d,.binOp .shr T x y T2,ty,pos,af,none⟩ [(d,uk k (p / 2 ^ (min q.toNat k.bits)))] []:=
 Qi9 hd hx hy λw S γ vx vy h1 h2=>by
  obtain⟨rfl,a1,a2⟩:=h1;obtain⟨rfl,_⟩:=h2;rw[hu.max] at a2;have:¬ q<0:=by have:=of_decide_eq_true hq;omega
  have e:(p:Int).fdiv (2 ^ (min q.toNat k.bits))=((p / 2 ^ (min q.toNat k.bits):Nat):Int):=by rw[Int.fdiv_eq_ediv_of_nonneg _ (by exact_mod_cast Nat.zero_le _)];norm_cast
  refine⟨_,λw=>by simp[eqGuard],λw=>by simp only[binOp,Op.shift,if_neg this,e];rfl,rfl,uk_b hu _ (Nat.lt_of_le_of_lt (Nat.div_le_self _ _) (by omega))⟩
theorem Qxj{d x T ty pos af lx n}(hd:Nat.blt d X.N=true)(hx:OpdF st x lx)
 (h:∀ a w γ,Inv X st mm a w γ->∀ v,lx.val w (X.S γ mm) γ v->(Builtin.len_ #[T] ty #[v]).run X.P w=.ok (.int .i64 n) w∧IntKind.i64.min≤n∧n≤IntKind.i64.max) :
 OpOk X st mm ⟨some d,.call { callee:=.builtin .len,args:=#[x],argTypes:=#[T] },ty,pos,af,none⟩ [(d,i64 n)] []:=
 Ws hd λa w γ hi=>by obtain⟨h1,h2,h3⟩:=h a w γ hi _ (hx.val hi);refine⟨_,?_,rfl,h2,h3⟩;simp only[execOp,resolve];simp[invoke,builtin,h1]
theorem len_b{n:Nat}(h:n≤maxLen):IntKind.i64.min≤(n:Int)∧(n:Int)≤IntKind.i64.max:=by
 have h1:IntKind.i64.min=-9223372036854775808:=by decide
 have h2:IntKind.i64.max=9223372036854775807:=by decide
 unfold maxLen at h;rw[h1,h2];omega
theorem lenL{d x T ty pos af E k}{α:Type}{f:α->Ly}{xs:List α}(hT:X.P.underlying T=some (.slice E))(hd:Nat.blt d X.N=true)(hx:OpdF st x (sli k (xs.map f))):
 OpOk X st mm ⟨some d,.call { callee:=.builtin .len,args:=#[x],argTypes:=#[T] },ty,pos,af,none⟩ [(d,i64 xs.length)] []:=
 Qxj hd hx λa w γ hi v hv=>by
  rcases hv with ⟨rfl,hn⟩ | ⟨b,o,cap,cs,rfl,h1,h2,_⟩ | ⟨hn,ad,rfl⟩;have:xs=[]:=by simpa using hn
  subst this;exact⟨by unfold Builtin.len_;simp[underlying,hT,goInt],len_b (Nat.zero_le _)⟩;simp only[List.length_map] at h1 ⊢;exact⟨by unfold Builtin.len_;simp[underlying,hT,goInt],len_b (by omega)⟩;have:xs=[]:=by simpa using hn
  subst this;exact⟨by unfold Builtin.len_;simp[underlying,hT,goInt],len_b (Nat.zero_le _)⟩
theorem lenO{d x T ty pos af E E' k id}{α:Type}{f:α->Ly}{xs:List α}(hT:X.P.underlying T=some (.slice E))(hm:mm id=some (.sl E' k (xs.map f)))(hd:Nat.blt d X.N=true)(hx:OpdF st x (.own id)):
 OpOk X st mm ⟨some d,.call { callee:=.builtin .len,args:=#[x],argTypes:=#[T] },ty,pos,af,none⟩ [(d,i64 xs.length)] []:=
 Qxj hd hx λa w γ hi v hv=>by
  obtain⟨u,cs,h1,h2,_⟩:=hi.cts id _ hm;obtain⟨hv1,_⟩:=hv;rw[hv1] at h1;simp at h1;subst h1;obtain⟨_,h3⟩:=h2;rcases h3 with ⟨rfl,hn⟩ | ⟨g,cap,cur,rfl,_,_,h4,h5,_⟩;have:xs=[]:=by simpa using hn
  subst this;exact⟨by unfold Builtin.len_;simp[underlying,hT,goInt],len_b (Nat.zero_le _)⟩;simp only[List.length_map] at h4 ⊢;exact⟨by unfold Builtin.len_;simp[underlying,hT,goInt],len_b (by omega)⟩
theorem lenS{d x T ty pos af s}(hT:X.P.underlying T=some .string)(hd:Nat.blt d X.N=true)(hx:OpdF st x (str s)):
 OpOk X st mm ⟨some d,.call { callee:=.builtin .len,args:=#[x],argTypes:=#[T] },ty,pos,af,none⟩ [(d,i64 s.length)] []:=
 Qxj hd hx λa w γ hi v hv=>by obtain⟨rfl,h1⟩:=hv;have e:(ByteArray.mk s.toArray).size=s.length:=rfl;exact⟨by unfold Builtin.len_;simp[underlying,hT,goInt,e],len_b h1⟩
theorem maxI{d x y ty pos af T1 T2 p q}(hd:Nat.blt d X.N=true)(hx:OpdF st x (i64 p))(hy:OpdF st y (i64 q)):
 OpOk X st mm ⟨some d,.call { callee:=.builtin .max,args:=#[x,y],argTypes:=#[T1,T2] },ty,pos,af,none⟩ [(d,i64 (max p q))] []:=
 Ws hd λa w γ hi=>by
  obtain⟨h1,h2,h3⟩:=hx.val hi;obtain⟨g1,g2,g3⟩:=hy.val hi;have e:max p q=if q > p then q else p:=by split<;>omega
  refine⟨.int .i64 (max p q),?_,rfl,by omega,by omega⟩;simp only[execOp,resolve];simp[invoke,builtin,h1,g1,Builtin.max_,Builtin.max2,e]
theorem minI{d x y ty pos af T1 T2 p q}(hd:Nat.blt d X.N=true)(hx:OpdF st x (i64 p))(hy:OpdF st y (i64 q)):
 OpOk X st mm ⟨some d,.call { callee:=.builtin .min,args:=#[x,y],argTypes:=#[T1,T2] },ty,pos,af,none⟩ [(d,i64 (min p q))] []:=
 Ws hd λa w γ hi=>by
  obtain⟨h1,h2,h3⟩:=hx.val hi;obtain⟨g1,g2,g3⟩:=hy.val hi;have e:min p q=if q<p then q else p:=by split<;>omega
  refine⟨.int .i64 (min p q),?_,rfl,by omega,by omega⟩;simp only[execOp,resolve];simp[invoke,builtin,h1,g1,Builtin.min_,Builtin.min2,e]
theorem ixS{kk:IntKind}{d x i T ty pos af s p y}(hT:X.P.underlying T=some .string)(hg:getS s p=some y)(hd:Nat.blt d X.N=true)(hx:OpdF st x (str s))(hi:OpdF st i (.cell (cpI kk p))):
 OpOk X st mm ⟨some d,.index T x i,ty,pos,af,none⟩ [(d,uk .u8 y)] []:=
 Ws hd λa w γ hI=>by
  obtain⟨h1,h2⟩:=hx.val hI;obtain⟨g1,_⟩:=hi.val hI;unfold getS at hg;split at hg;rename_i h0;simp only[Option.map_eq_some_iff] at hg;obtain⟨c,hc,rfl⟩:=hg;refine⟨.int .u8 c.toNat,?_,rfl,uk_b uk8 _ c.toNat_lt⟩;simp only[execOp,h1,g1];have hlt:p.toNat<s.length:=by rcases Nat.lt_or_ge p.toNat s.length with h | h;exact h;simp[List.getElem?_eq_none h] at hc
  have hc':(ByteArray.mk s.toArray)[p.toNat]?=some c:=by
   rw[getElem?_pos _ _ (by simpa [ByteArray.size] using hlt)];have:s[p.toNat]=c:=by rw[List.getElem?_eq_getElem hlt] at hc;simpa using hc
   rw[←this];rfl
  simp[Instr.index,asIntOf,underlying,hT,h0,hc'];cases hg
theorem bin_S{d o T x y T2 ty pos af s t lz}(hd:Nat.blt d X.N=true)(hx:OpdF st x (str s))(hy:OpdF st y (str t))
 (h:s.length≤maxLen->t.length≤maxLen->∃ v,(∀ w,(Op.stringOp o ⟨s.toArray⟩ ⟨t.toArray⟩).run X.P w=.ok v w)∧∀ w S γ,lz.val w S γ v) (ho:∀(_ _:IntKind×Int),(o matches .shl | .shr)=false) :
 OpOk X st mm ⟨some d,.binOp o T x y T2,ty,pos,af,none⟩ [(d,lz)] []:=
 Qi9 hd hx hy λw S γ vx vy h1 h2=>by
  obtain⟨rfl,a1⟩:=h1;obtain⟨rfl,a2⟩:=h2;obtain⟨v,hr,hv⟩:=h a1 a2;have ho':=ho (.i64,0) (.i64,0);refine⟨v,λw=>by cases o<;>simp[eqGuard],λw=>?_,hv _ _ _⟩;have:binOp o T (.string ⟨s.toArray⟩) (.string ⟨t.toArray⟩)=Op.stringOp o ⟨s.toArray⟩ ⟨t.toArray⟩:=by cases o<;>simp at ho'<;>rfl
  rw[this];exact hr w
theorem Q0t(s:List UInt8):(ByteArray.mk s.toArray).toList=s:=by rw[ByteArray.toList_eq]
theorem Q7i(s t:List UInt8):(s == t)=decide (s=t):=by rw[Bool.eq_iff_iff];simp
theorem catStr{d x y T T2 ty pos af s t z}(hz:catS s t=some z)(hd:Nat.blt d X.N=true)(hx:OpdF st x (str s))(hy:OpdF st y (str t)):
 OpOk X st mm ⟨some d,.binOp .add T x y T2,ty,pos,af,none⟩ [(d,str z)] []:=
 bin_S hd hx hy (λh1 h2=>by
  unfold catS at hz;split at hz;rename_i hle;cases hz;refine⟨_,λw=>?_,λw S γ=>⟨rfl,by unfold maxLen;simp;omega⟩⟩;have:¬(((s.length+t.length:Nat):Int) > IntKind.i64.max):=by
   have h2:IntKind.i64.max=9223372036854775807:=by decide
   rw[h2];omega
  have e:Op.stringOp .add ⟨s.toArray⟩ ⟨t.toArray⟩=if (((ByteArray.mk s.toArray).size+(ByteArray.mk t.toArray).size:Nat):Int) > IntKind.i64.max then unsupported (.resourceLimit "string concatenation: a sum of the lengths that is no int") else pure (.string (⟨s.toArray⟩++⟨t.toArray⟩)):=rfl
  have e2:(ByteArray.mk s.toArray)++(ByteArray.mk t.toArray)=⟨(s++t).toArray⟩:=by apply ByteArray.ext;simp[ByteArray.data_append]
  rw[e,if_neg (by simpa [ByteArray.size] using this),e2];rfl
  cases hz) (λ_ _=>rfl)
theorem eqS{d x y T T2 ty pos af s t}(hd:Nat.blt d X.N=true)(hx:OpdF st x (str s))(hy:OpdF st y (str t)):
 OpOk X st mm ⟨some d,.binOp .eql T x y T2,ty,pos,af,none⟩ [(d,bl (decide (s=t)))] []:=
 bin_S hd hx hy (λh1 h2=>⟨_,λw=>by simp only[Op.stringOp,Q0t];rfl,λw S γ=>by rw[Q7i];simp[bl,Ly.val,cpB]⟩) (λ_ _=>rfl)
theorem neS{d x y T T2 ty pos af s t}(hd:Nat.blt d X.N=true)(hx:OpdF st x (str s))(hy:OpdF st y (str t)):
 OpOk X st mm ⟨some d,.binOp .neq T x y T2,ty,pos,af,none⟩ [(d,bl (!decide (s=t)))] []:=
 bin_S hd hx hy (λh1 h2=>⟨_,λw=>by simp only[Op.stringOp,Q0t];rfl,λw S γ=>by rw[Q7i];simp[bl,Ly.val,cpB]⟩) (λ_ _=>rfl)
end ops
def TyI(P:Program)(E k b:Nat)(z:Value):Prop:=∃ i,P.info? E=some i∧i.zero=some z∧i.size=k∧i.bytes=b
theorem tyI{P:Program}{E k b:Nat}{z:Value}(h:(P.info? E).map (λi=>(i.zero,i.size,i.bytes))=some (some z,k,b)):TyI P E k b z:=by
 cases hi:P.info? E with
 | none=>rw[hi] at h;cases h
 | some i=>rw[hi] at h;simp at h;exact⟨i,hi,h.1,h.2.1,h.2.2⟩
def agB:TypeDesc->Bool
 | .struct _=>true
 | .array _ _=>true
 | _=>false
def Shp(P:Program)(T:Nat)(ag:Bool)(k:Nat):Prop:=∃ d,P.underlying T=some d∧agB d=ag∧∃ i,P.info? T=some i∧i.size=k
theorem shp{P:Program}{T:Nat}{ag:Bool}{k b:Nat}{d:TypeDesc}{z:Value}(hd:P.underlying T=some d)(ha:agB d=ag)(hi:TyI P T k b z):Shp P T ag k:=by obtain⟨i,h1,h2,h3,h4⟩:=hi;exact⟨d,hd,ha,i,h1,h3⟩
theorem Qp2{P T ag k}(h:Shp P T ag k)(w:World):(isAgg T).run P w=.ok ag w:=by obtain⟨d,h1,h2,_⟩:=h;subst h2;cases d<;>simp[isAgg,underlying,h1,agB]
theorem Qn0{P T ag k}(h:Shp P T ag k)(w:World):(sizeOf T).run P w=.ok k w:=by obtain⟨d,h1,h2,i,h3,h4⟩:=h;subst h4;simp[sizeOf,typeInfo,h3]
theorem Xc{P T k b z}(h:TyI P T k b z)(w:World):(sizeOf T).run P w=.ok k w:=by obtain⟨i,h3,h4,h5,h6⟩:=h;subst h5;simp[sizeOf,typeInfo,h3]
theorem Qct{P T k b z}(h:TyI P T k b z)(w:World):(zeroValue T).run P w=.ok z w:=by obtain⟨i,h3,h4,_⟩:=h;simp[zeroValue,typeInfo,h3,h4]
theorem add0(b o n:Nat):Addr.add ⟨b,o,none⟩ n=⟨b,o+n,none⟩:=by unfold Addr.add;split<;>simp_all
theorem Qfn{P:Program}{b o:Nat}{w:World}:∀(us:List Value) (i:Nat) (acc:Array Value),(∀ j u,us[j]?=some u->w.cell? ⟨b,o+i+j,none⟩=some u) →
 (loadCellsFrom ⟨b,o,none⟩ i us.length acc).run P w=.ok (acc++us.toArray) w
 | [],i,acc,_=>by simp[loadCellsFrom]
 | u::us,i,acc,h=>by have h0:=h 0 u rfl;simp only[Nat.add_zero] at h0;have ih:=Qfn (P:=P) us (i+1) (acc.push u) (λj v hj=>by have:=h (j+1) v hj;rw[show o+(i+1)+j=o+i+(j+1) by omega];exact this);simp only[List.length_cons,loadCellsFrom,Sem.run_bind,run_load,add0,h0,Result.andThen_ok,ih];simp
theorem Qmv{P:Program}{T:Nat}{ag:Bool}{k b o:Nat}{w:World}{S γ}{ly:Ly}{us:List Value}(h:Shp P T ag k)(hn:ly.isN=ag)(hz:ly.sz=k)
 (hc:∀ j u,us[j]?=some u->w.cell? ⟨b,o+j,none⟩=some u) (hh:ly.hold w S γ us):∃ v,(loadVar T ⟨b,o,none⟩).run P w=.ok v w∧ly.val w S γ v:=by
 have hl:=Ly.hold_sz ly us hh;unfold loadVar;cases ag with
 | true=>
   refine⟨.agg us.toArray,?_,?_⟩;have:=Qfn (P:=P) us 0 #[] (λj u hj=>by simpa using hc j u hj);rw[hl,hz] at this;simp[Qp2 h,Qn0 h,loadCells,this];cases ly<;>simp[Ly.isN] at hn;simp only[Ly.val,Ly.hold] at hh ⊢;exact⟨_,rfl,hh⟩
 | false=>
   have h1:us.length=1:=by cases ly<;>simp[Ly.isN] at hn<;>simpa [Ly.sz] using hl
   obtain⟨u,rfl⟩:∃ u,us=[u]:=by
    match us,h1 with
    | [u],_=>exact⟨u,rfl⟩
   refine⟨u,?_,Ly.val_of_hold1 hn hh⟩;have:=hc 0 u rfl;simp[Qp2 h,show w.cell? ⟨b,o,none⟩=some u by simpa using this]
def splice(l:List Value)(p:Nat)(vs:List Value):List Value:=l.take p++vs++l.drop (p+vs.length)
theorem Wg{w:World}{b:Nat}{cur:Array Value}{E:Nat}{fz:Nat×Nat}(h:w.heap[b]?=some (.cells cur E fz))(o:Nat):w.cell? ⟨b,o,none⟩=cur[o]?:=by simp[World.cell?,h]
theorem Ql7{P:Program}{b o E:Nat}:∀(vs:List Value) (i:Nat) (w:World) (cur:Array Value),w.heap[b]?=some (.cells cur E (0,0))->o+i+vs.length≤cur.size->(∀ u∈vs,u.oneCell'=true) →
 ∃ w' cur',(storeCells ⟨b,o,none⟩ vs i).run P w=.ok () w'∧w'.heap[b]?=some (.cells cur' E (0,0))∧cur'.toList=splice cur.toList (o+i) vs∧Kp (λx=>x=b) w w'∧w'.os=w.os∧w'.tape=w.tape∧w'.output=w.output
 | [],i,w,cur,h,_,_=>⟨w,cur,by simp[storeCells],h,by simp[splice],Kp.refl _ _,rfl,rfl,rfl⟩
 | v::vs,i,w,cur,h,hl,ho=>by
   simp only[List.length_cons] at hl;have hb:b<w.heap.size:=by rcases Nat.lt_or_ge b w.heap.size with h' | h';exact h';simp[Array.getElem?_eq_none h'] at h
   have hlt:o+i<cur.size:=by omega
   have hcell:w.cell? ⟨b,o+i,none⟩=some cur[o+i]:=by rw[Wg h,Array.getElem?_eq_getElem hlt]
   have hfz:w.frozen? ⟨b,o+i,none⟩=false:=by simp[World.frozen?,h]
   have hv:v.oneCell'=true:=ho v List.mem_cons_self;have hh:(w.setCell ⟨b,o+i,none⟩ v).heap[b]?=some (.cells (cur.setIfInBounds (o+i) v) E (0,0)):=by simp only[World.setCell,Array.getElem?_modify,if_pos,h];simp
   obtain⟨w',cur',h1,h2,h3,h4,h5,h6,h7⟩:=Ql7 (P:=P) (b:=b) (o:=o) (E:=E) vs (i+1) (w.setCell ⟨b,o+i,none⟩ v) (cur.setIfInBounds (o+i) v) hh (by simp;omega) (λu hu=>ho u (List.mem_cons_of_mem _ hu));refine⟨w',cur',?_,h2,?_,?_,h5,h6,h7⟩;simp only[storeCells,Sem.run_bind,add0];rw[run_store P w _ v _ hv,hcell];simp[hfz,h1];rw[h3];simp only[splice,Array.toList_setIfInBounds,List.length_cons];rw[show o+(i+1)=o+i+1 by omega,List.take_succ_eq_append_getElem (by simpa using hlt)];simp only[List.getElem_set_self,List.append_assoc,List.cons_append,List.nil_append];rw[List.take_set_of_le (by omega)];congr 2;rw[List.drop_set_of_lt (by omega)];congr 2;omega;refine Kp.trans (S':=λx=>x=b) ⟨by simp[World.setCell],λx hx hn=>?_⟩ h4 (λx hx=>.inl hx);exact Below.heap_setCell _ _ _ _ (by simpa using hn)
def Ly.go:List Nat->Ly->Option (Ly×Nat)
 | [],ly=>some (ly,0)
 | i::p,.agg l=>match l[i]? with
   | some x=>match Ly.go p x with
     | some (y,c)=>some (y,Ly.szs (l.take i)+c)
     | none=>none
   | none=>none
 | _::_,_=>none
def Ly.pu(n:Ly):List Nat->Ly->Ly
 | [],_=>n
 | i::p,.agg l=>match l[i]? with
   | some x=>.agg (l.set i (Ly.pu n p x))
   | none=>.agg l
 | _::_,ly=>ly
theorem Qmw{w S γ}:∀ {l:List Ly}{cs:List Value}{i:Nat}{x:Ly},Ly.holds w S γ l cs->l[i]?=some x →
 ∃ a u b,cs=a++u++b∧a.length=Ly.szs (l.take i)∧Ly.hold w S γ x u∧∀(n:Ly) (u':List Value),Ly.hold w S γ n u'->Ly.holds w S γ (l.set i n) (a++u'++b)
 | [],cs,i,x,_,hx=>by simp at hx
 | ly::l,cs,0,x,h,hx=>by obtain⟨c1,c2,rfl,h1,h2⟩:=h;simp at hx;subst hx;exact⟨[],c1,c2,by simp,by simp[Ly.szs],h1,λn u' hn=>⟨u',c2,by simp,hn,h2⟩⟩
 | ly::l,cs,i+1,x,h,hx=>by obtain⟨c1,c2,rfl,h1,h2⟩:=h;obtain⟨a,u,b,rfl,h3,h4,h5⟩:=Qmw (i:=i) h2 (by simpa using hx);refine⟨c1++a,u,b,by simp,?_,h4,λn u' hn=>⟨c1,a++u'++b,by simp,h1,h5 n u' hn⟩⟩;simp[Ly.szs,h3,Ly.hold_sz ly c1 h1]
theorem Qkf{w S γ}:∀(p:List Nat) {ly lz:Ly}{c:Nat}{cs:List Value},Ly.go p ly=some (lz,c)->Ly.hold w S γ ly cs →
 ∃ a u b,cs=a++u++b∧a.length=c∧Ly.hold w S γ lz u∧∀(n:Ly) (u':List Value),Ly.hold w S γ n u'->Ly.hold w S γ (Ly.pu n p ly) (a++u'++b)
 | [],ly,lz,c,cs,hg,h=>by simp only[Ly.go,Option.some.injEq,Prod.mk.injEq] at hg;obtain⟨rfl,rfl⟩:=hg;exact⟨[],cs,[],by simp,rfl,h,λn u' hn=>by simpa [Ly.pu] using hn⟩
 | i::p,ly,lz,c,cs,hg,h=>by
   cases ly with
   | agg l=>
     simp only[Ly.go] at hg;cases hx:l[i]? with
     | none=>simp[hx] at hg
     | some x=>
       simp only[hx] at hg;cases hy:Ly.go p x with
       | none=>simp[hy] at hg
       | some yc=>
         obtain⟨y,c'⟩:=yc;simp only[hy,Option.some.injEq,Prod.mk.injEq] at hg;obtain⟨rfl,rfl⟩:=hg;simp only[Ly.hold] at h;obtain⟨a,u,b,rfl,h1,h2,h3⟩:=Qmw h hx;obtain⟨a',u',b',rfl,g1,g2,g3⟩:=Qkf p hy h2;refine⟨a++a',u',b'++b,by simp,by simp[h1,g1],g2,λn v hn=>?_⟩;have:=h3 _ _ (g3 n v hn);simp only[Ly.pu,hx,Ly.hold]
         simpa using this
   | _=>simp[Ly.go] at hg
theorem Qsb{k:Nat}:∀ {l:List Ly}{i:Nat},(∀ ly∈l,ly.sz=k)->i≤l.length->Ly.szs (l.take i)=i*k
 | [],i,_,hi=>by simp at hi;subst hi;simp[Ly.szs]
 | ly::l,0,_,_=>by simp[Ly.szs]
 | ly::l,i+1,h,hi=>by simp only[List.take_succ_cons,Ly.szs];rw[Qsb (λx hx=>h x (List.mem_cons_of_mem _ hx)) (by simpa using hi),h ly List.mem_cons_self,Nat.succ_mul];omega
theorem Q0u{a u b vs:List Value}(h:vs.length=u.length):splice (a++u++b) a.length vs=a++vs++b:=by simp[splice,h,List.drop_append]
section ops
variable {X:Cx}{st:Nat->Option Ly}{mm:Nat->Option Ct}
theorem Qht{α:Type}{l:List α}{i:Int}{y:α}(h:getI l i=some y):0≤i∧l[i.toNat]?=some y:=by unfold getI at h;split at h;exact⟨by assumption,h⟩;cases h
theorem Qor{α:Type}{l:List α}{i:Nat}{y:α}(h:l[i]?=some y):getI l (i:Int)=some y:=by simp[getI,h]
theorem ixR{kk:IntKind}{d x i T ty pos af E k b z p}{α:Type}{f:α->Ly}{xs:List α}{y:α}(hT:X.P.underlying T=some (.slice E))(hE:TyI X.P E k b z)(hg:getI xs p=some y)
 (hd:Nat.blt d X.N=true) (hx:OpdF st x (sli k (xs.map f))) (hi:OpdF st i (.cell (cpI kk p))) :
 OpOk X st mm ⟨some d,.indexAddr T x i,ty,pos,af,none⟩ [(d,.ref (f y))] []:=
 Ws hd λa w γ hI=>by
  obtain⟨h0,hg⟩:=Qht hg;obtain⟨g1,_⟩:=hi.val hI;have hlt:p.toNat<xs.length:=by
   rcases Nat.lt_or_ge p.toNat xs.length with h | h
   . exact h
   . simp[List.getElem?_eq_none h] at hg
  rcases hx.val hI with ⟨h1,hn⟩ | ⟨bb,o,cap,cs,h1,h2,h3,h4,h5,h6,h7,h8⟩ | ⟨hn,_⟩
  rotate_left 2
  . have:xs=[]:=by simpa using hn
    subst this;simp at hlt
  . have:xs=[]:=by simpa using hn
    subst this;simp at hlt
  . have hmap:(xs.map f)[p.toNat]?=some (f y):=by simp[hg]
    obtain⟨a1,u,b1,rfl,e1,e2,_⟩:=Qmw h7 hmap;rw[Qsb h8 (by simp;omega)] at e1;refine⟨.pointer (some ⟨bb,o+p.toNat*k,none⟩),?_,?_⟩
    . have hpl:p<(xs.length:Int):=by omega
      simp only[execOp,h1,g1];simp[Instr.indexAt,asIntOf,underlying,hT,h0,hpl,Xc hE,add0]
    . exact⟨bb,o+p.toNat*k,u,rfl,h4,h5,λj v hj=>by
       have:=h6 (a1.length+j) v (by
        rw[List.append_assoc,List.getElem?_append_right (by omega),Nat.add_sub_cancel_left]
        rw[List.getElem?_append_left (by
         rcases Nat.lt_or_ge j u.length with h | h
         . exact h
         . simp[List.getElem?_eq_none h] at hj)]
        exact hj)
       rw[e1] at this
       rw[Nat.add_assoc];exact this,Ly.hold_mono (Kp.refl _ _) (λb hb=>.inl hb) (λ_ _ h=>by cases h) _ _ e2⟩
theorem ldR{d x T ty pos af ag k ly}(hT:Shp X.P T ag k)(hn:ly.isN=ag)(hz:ly.sz=k)(hd:Nat.blt d X.N=true)(hx:OpdF st x (.ref ly)):
 OpOk X st mm ⟨some d,.load T x,ty,pos,af,none⟩ [(d,ly)] []:=
 Ws hd λa w γ hI=>by obtain⟨b,o,us,h1,h2,h3,h4,h5⟩:=hx.val hI;simp at h1;obtain⟨v,hr,hv⟩:=Qmv (P:=X.P) hT hn hz h4 h5;exact⟨v,by simp only[execOp,h1];simp[Instr.loadAt,Instr.sureAddr,hr],hv⟩
def FldAt(P:Program)(T j fo:Nat):Prop:=∃ fs F,P.underlying T=some (.struct fs)∧fs[j]?=some F∧F.offset=fo∧∃ i,P.info? F.type=some i∧i.size≠0
theorem Qqr{P T j fo b o}(h:FldAt P T j fo)(w:World):(Instr.fieldAt T (.pointer (some ⟨b,o,none⟩)) j).run P w=.ok (.pointer (some ⟨b,o+fo,none⟩)) w:=by obtain⟨fs,F,h1,h2,h3,i,h4,h5⟩:=h;subst h3;simp[Instr.fieldAt,underlying,h1,h2,Instr.sureAddr,fieldPlace,sizeOf,typeInfo,h4,h5,add0]
theorem faR{d x T j ty pos af fo l lz}(hF:FldAt X.P T j fo)(hg:Ly.go [j] (.agg l)=some (lz,fo))(hd:Nat.blt d X.N=true)(hx:OpdF st x (.ref (.agg l))):
 OpOk X st mm ⟨some d,.fieldAddr T x j,ty,pos,af,none⟩ [(d,.ref lz)] []:=
 Ws hd λa w γ hI=>by
  obtain⟨b,o,us,h1,h2,h3,h4,h5⟩:=hx.val hI;simp at h1;obtain⟨a1,u,b1,rfl,e1,e2,_⟩:=Qkf [j] hg h5;refine⟨_,by simp only[execOp,h1];simp[Qqr hF],b,o+fo,u,rfl,h2,h3,λi v hj=>?_,e2⟩
  have:=h4 (a1.length+i) v (by
   rw[List.append_assoc,List.getElem?_append_right (by omega),Nat.add_sub_cancel_left]
   rw[List.getElem?_append_left (by
    rcases Nat.lt_or_ge i u.length with h | h;exact h
    simp[List.getElem?_eq_none h] at hj)]
   exact hj)
  rw[e1] at this;rw[Nat.add_assoc];exact this
theorem bxI{id E ly}{a w γ}(hI:Inv X st mm a w γ)(hm:mm id=some (.bx E ly)):∃ g cur,γ id=some (.pointer (some ⟨g,0,none⟩))∧w.heap[g]?=some (.cells cur E (0,0))∧Ly.hold w (X.S γ mm) γ ly cur.toList:=hI.cts id _ hm
theorem faO{d x T j ty pos af fo id E ly}(hm:mm id=some (.bx E ly))(hF:FldAt X.P T j fo)(hd:Nat.blt d X.N=true)(hx:OpdF st x (.own id)):
 OpOk X st mm ⟨some d,.fieldAddr T x j,ty,pos,af,none⟩ [(d,.ptr id fo)] []:=
 Ws hd λa w γ hI=>by obtain⟨g,cur,h1,h2,h3⟩:=bxI hI hm;obtain⟨hv,_⟩:=hx.val hI;rw[h1] at hv;simp at hv;exact⟨.pointer (some ⟨g,fo,none⟩),by simp only[execOp,←hv];simp[Qqr hF],_,g,h1,rfl,rfl⟩
theorem faP{d x T j ty pos af fo id off}(hF:FldAt X.P T j fo)(hd:Nat.blt d X.N=true)(hx:OpdF st x (.ptr id off)):
 OpOk X st mm ⟨some d,.fieldAddr T x j,ty,pos,af,none⟩ [(d,.ptr id (off+fo))] []:=
 Ws hd λa w γ hI=>by obtain⟨v0,g,h1,h2,h3⟩:=hx.val hI;exact⟨.pointer (some ⟨g,off+fo,none⟩),by simp only[execOp,h3];simp[Qqr hF],v0,g,h1,h2,rfl⟩
def OwnP(mm:Nat->Option Ct)(lx:Ly)(id off:Nat):Prop:=lx=.ptr id off∨(lx=.own id∧off=0∧∃ E ly,mm id=some (.bx E ly))
theorem Qts{st mm a w γ lx id off x}(hI:Inv X st mm a w γ)(h:OwnP mm lx id off)(hx:OpdF st x lx):∃ v0 g,γ id=some v0∧blkOf v0=some g∧a.eval x=.pointer (some ⟨g,off,none⟩):=by rcases h with rfl | ⟨rfl,rfl,E,ly,hm⟩;exact hx.val hI;obtain⟨g,cur,h1,h2,h3⟩:=bxI hI hm;obtain⟨hv,_⟩:=hx.val hI;rw[h1] at hv;simp at hv;exact⟨_,g,h1,rfl,hv.symm⟩
theorem ldB{d x T ty pos af ag k lx id E ly lz off}(p:List Nat)(hm:mm id=some (.bx E ly))(hg:Ly.go p ly=some (lz,off))(hT:Shp X.P T ag k)(hn:lz.isN=ag)(hz:lz.sz=k)
 (hd:Nat.blt d X.N=true) (hx:OpdF st x lx) (ho:OwnP mm lx id off) :
 OpOk X st mm ⟨some d,.load T x,ty,pos,af,none⟩ [(d,lz)] []:=
 Ws hd λa w γ hI=>by
  obtain⟨g,cur,h1,h2,h3⟩:=bxI hI hm;obtain⟨v0,g',e1,e2,e3⟩:=Qts hI ho hx;rw[h1] at e1;simp at e1;subst e1;simp[blkOf] at e2;subst e2;obtain⟨a1,u,b1,hc,hl,hh,_⟩:=Qkf p hg h3
  obtain⟨v,hr,hv⟩:=Qmv (P:=X.P) (b:=g) (o:=off) hT hn hz (us:=u) (w:=w) (λj v hj=>by
   rw[Wg h2,←Array.getElem?_toList,hc,List.append_assoc,List.getElem?_append_right (by omega),hl,Nat.add_sub_cancel_left]
   rw[List.getElem?_append_left (by
    rcases Nat.lt_or_ge j u.length with h | h;exact h
    simp[List.getElem?_eq_none h] at hj)]
   exact hj) hh
  exact⟨v,by simp only[execOp,e3];simp[Instr.loadAt,Instr.sureAddr,hr],hv⟩
theorem Q0v{P:Program}{T ag k b o E}{w:World}{cur:Array Value}{v:Value}{vs:List Value}(hT:Shp P T ag k)(hb:w.heap[b]?=some (.cells cur E (0,0)))(hv:v.cells.toList=vs)(hl:vs.length=k)
 (hc:o+k≤cur.size) (h1:∀ u∈vs,u.oneCell'=true) :
 ∃ w' cur',(Instr.storeAt T (.pointer (some ⟨b,o,none⟩)) v).run P w=.ok () w'∧w'.heap[b]?=some (.cells cur' E (0,0))∧cur'.toList=splice cur.toList o vs∧Kp (λx=>x=b) w w'∧w'.os=w.os∧w'.tape=w.tape∧w'.output=w.output:=by
 obtain⟨w',cur',g1,g2,g3,g4,g5,g6,g7⟩:=Ql7 (P:=P) (b:=b) (o:=o) (E:=E) vs 0 w cur hb (by omega) h1;have hsz:v.cells.size=k:=by rw[←hl,←hv];simp
 refine⟨w',cur',?_,g2,g3,g4,g5,g6,g7⟩;simp[Instr.storeAt,Instr.sureAddr,storeVar,Qn0 hT,hsz,hv,g1]
theorem stB{x y T ty pos af ag k lx id E ly lz ln off}(p:List Nat)(hm:mm id=some (.bx E ly))(hg:Ly.go p ly=some (lz,off))(hT:Shp X.P T ag k)(hz:lz.sz=k)(hnz:ln.sz=k)(hnl:ln.lies=true)
 (hx:OpdF st x lx) (ho:OwnP mm lx id off) (hy:OpdF st y ln) :
 OpOk X st mm ⟨none,.store T x y,ty,pos,af,none⟩ [] [(id,.bx E (Ly.pu ln p ly))]:=by
 intro a w γ K Q hI hK;obtain⟨g,cur,h1,h2,h3⟩:=bxI hI hm;obtain⟨v0,g',e1,e2,e3⟩:=Qts hI ho hx;rw[h1] at e1;simp at e1;subst e1;simp[blkOf] at e2;subst e2;obtain⟨a1,u,b1,hc,hl,hh,hp⟩:=Qkf p hg h3;have hv:=Ly.hold_of_val hnl (hy.val hI);have hvl:=Ly.hold_sz _ _ hv;have hul:=Ly.hold_sz _ _ hh;have hcs:cur.size=a1.length+u.length+b1.length:=by have:=congrArg List.length hc;simpa [Nat.add_assoc] using this
 obtain⟨w',cur',r1,r2,r3,r4,r5,r6,r7⟩:=Q0v (P:=X.P) (o:=off) (v:=a.eval y) hT h2 rfl (by rw[hvl,hnz]) (by omega) (Ly.oneCell_of_hold _ _ hv);have hrun:(execOp a.eval ⟨none,.store T x y,ty,pos,af,none⟩).run X.P w=.ok .skip w':=by simp only[execOp,e3];simp[r1]
 unfold Oper.wp;rw[hrun];have hkS:Kp (X.S γ mm) w w':=⟨r4.1,λb hb hn=>r4.2 b hb (λe=>hn (.inr ⟨id,_,_,hm,rfl,h1,by rw[e];rfl⟩))⟩
 have hhold:=hp _ _ hv;have hct:Xu w' (X.S γ mm) γ id (.bx E (Ly.pu ln p ly)):=by refine⟨g,cur',h1,r2,?_⟩;rw[r3,hc,←hl,Q0u (by rw[hvl,hul,hnz,hz])];exact Ly.hold_mono hkS (λb hb=>.inl hb) (Ng.refl _) _ _ hhold
 exact hK _ _ γ (hI.setc r5 r6 r7 hm rfl h1 rfl r4 rfl hct)
end ops
def Zr(ly:Ly)(cs:List Value):Prop:=∀ w S γ,ly.hold w S γ cs
def Zrs(l:List Ly)(cs:List Value):Prop:=∀ w S γ,Ly.holds w S γ l cs
theorem K9:Zr (i64 0) [.int .i64 0]:=λ_ _ _=>⟨_,rfl,rfl,by decide,by decide⟩
theorem zr_u8:Zr (u8 0) [.int .u8 0]:=λ_ _ _=>⟨_,rfl,rfl,by decide,by decide⟩
theorem Qdo:Zr (u32 0) [.int .u32 0]:=λ_ _ _=>⟨_,rfl,rfl,by decide,by decide⟩
theorem zr_bl:Zr (bl false) [.bool false]:=λ_ _ _=>⟨_,rfl,rfl⟩
theorem Qg3:Zr (str []) [.string ⟨#[]⟩]:=λ_ _ _=>⟨_,rfl,rfl,by decide⟩
theorem Jz{k}:Zr (sli k []) [.slice none 0 0]:=λ_ _ _=>⟨_,rfl,.inl ⟨rfl,rfl⟩⟩
theorem Ki{l cs}(h:Zrs l cs):Zr (.agg l) cs:=λw S γ=>by simp only[Ly.hold];exact h w S γ
theorem J0:Zrs [] []:=λ_ _ _=>rfl
theorem Qi{ly l c1 c2}(h1:Zr ly c1)(h2:Zrs l c2):Zrs (ly::l) (c1++c2):=λw S γ=>⟨c1,c2,rfl,h1 w S γ,h2 w S γ⟩
theorem Qs3{ly c}(h:Zr ly c):∀ n,Zrs (List.replicate n ly) ((List.replicate n c).flatten)
 | 0=>J0
 | n+1=>by simp only[List.replicate_succ,List.flatten_cons];exact Qi h (Qs3 h n)
namespace Inv
variable {X:Cx}{st:Nat->Option Ly}{mm:Nat->Option Ct}{a:Act}{w:World}{γ:Nm}
theorem replace(h:Inv X st mm a w γ){w':World}(hos:w'.os=w.os)(ht:w'.tape=w.tape)(hout:w'.output=w.output){id:Nat}{c:Ct}(hid:mm id=some c)(hc:c.alive=true)
 {v:Value}(hv:γ id=some v) (hk:Kp (λb=>blkOf v=some b) w w')
 {y:Nat}{ct:Ct}{v':Value}(hy:mm y=none) (_:ct.alive=true)
 (hct:∀ S γ',(∀ b,S b->X.S γ mm b∨w.heap.size≤b)->Ng γ γ'->γ' y=some v'->Xu w' S γ' y ct)
 (hb:∀ b,blkOf v'=some b->(blkOf v=some b∨w.heap.size≤b)∧b<w'.heap.size) :
 Inv X st (up mm [(y,ct),(id,.gone)]) a w' (gset γ y v'):=by
 have hgy:γ y=none:=h.fresh y hy;have hyid:y≠id:=by rintro rfl;rw[hy] at hid;cases hid
 have hng:Ng γ (gset γ y v'):=by intro i u hu;by_cases hyi:y=i;subst hyi;rw[hgy] at hu;cases hu;simp[gset,hyi,hu]
 have hup:∀ i,up mm [(y,ct),(id,.gone)] i=if y=i then some ct else if id=i then some .gone else mm i:=by
  intro i;have:up mm [(y,ct),(id,.gone)]=up (up mm [(id,.gone)]) [(y,ct)]:=by
   funext j;rw[Vx];by_cases hj:y=j;subst hj;simp[up,lk];have e:Nat.beq y j=false:=by cases hb:Nat.beq y j;rfl;exact absurd (Nat.eq_of_beq_eq_true hb) hj
   simp[up,lk,e,hj]
  rw[this,Vx,Vx]
 have how:∀ b,Ow (gset γ y v') (up mm [(y,ct),(id,.gone)]) b->(∃ i c' u,i≠id∧i≠y∧mm i=some c'∧c'.alive=true∧γ i=some u∧blkOf u=some b)∨blkOf v'=some b:=by rintro b ⟨i,c',u,h1,h2,h3,h4⟩;rw[hup] at h1;by_cases hyi:y=i;subst hyi;simp[gset] at h3;subst h3;exact .inr h4;by_cases hii:id=i;simp[hyi,hii] at h1;subst h1;simp[Ct.alive] at h2;simp[hyi,hii] at h1;simp[gset,hyi] at h3;exact .inl ⟨i,c',u,λe=>hii e.symm,λe=>hyi e.symm,h1,h2,h3,h4⟩
 have hvb:∀ b,blkOf v=some b->X.S γ mm b:=λb hb'=>.inr ⟨id,c,v,hid,hc,hv,hb'⟩;have hS:∀ b,X.S (gset γ y v') (up mm [(y,ct),(id,.gone)]) b->X.S γ mm b∨w.heap.size≤b:=by rintro b (hb' | hb');exact .inl (.inl hb');rcases how b hb' with ⟨i,c',u,h1,h2,h3,h4,h5,h6⟩ | h1;exact .inl (.inr ⟨i,c',u,h3,h4,h5,h6⟩);rcases(hb b h1).1 with h2 | h2;exact .inl (hvb b h2);exact .inr h2
 have hk':Kp (X.S γ mm) w w':=⟨hk.1,λb hb' hn=>hk.2 b hb' (λe=>hn (hvb b e))⟩
 refine { h with keep:=λi u hu=>hng i u (h.keep i u hu),os:=hos.trans h.os,tape:=ht.trans h.tape,output:=hout.trans h.output,grow:=Nat.le_trans h.grow hk.1,old:=?_,fresh:=?_,cts:=?_,apart:=?_,mine:=?_,sts:=?_ };intro b hb' hM
 rw[hk.2 b (Nat.lt_of_lt_of_le hb' h.grow) (λe=>by
  rcases(h.mine b ⟨id,c,v,hid,hc,hv,e⟩).1 with h1 | h1;omega
  exact hM h1)]
 exact h.old b hb' hM;intro i hi;rw[hup] at hi;by_cases hyi:y=i;simp[hyi] at hi;by_cases hii:id=i;simp[hyi,hii] at hi;simp[hyi,hii] at hi;simp[gset,hyi,h.fresh i hi];intro i c' hc';rw[hup] at hc';by_cases hyi:y=i;subst hyi;simp at hc';subst hc';exact hct _ _ hS hng (by simp[gset]);by_cases hii:id=i;simp[hyi,hii] at hc';subst hc';trivial;simp[hyi,hii] at hc';by_cases hal':c'.alive=true;refine(h.cts i c' hc').mono hk' hS hng ?_;intro u b hu hb';refine hk.2 b (h.mine b ⟨i,c',u,hc',hal',hu,hb'⟩).2.1 (λe=>hii ?_);exact h.apart id i c c' v u b hid hc hc' hal' hv hu e hb';cases c'<;>simp[Ct.alive] at hal';trivial;intro i i' c1 c2 u u' b h1 h2 h3 h4 h5 h6 h7 h8;rw[hup] at h1 h3;have key:∀ i c1 u,y≠i->(if y=i then some ct else if id=i then some Ct.gone else mm i)=some c1->c1.alive=true->gset γ y v' i=some u->blkOf u=some b->blkOf v'=some b->False:=by
  intro i c1 u hyi h1 h2 h5 h7 h8;simp only[hyi,if_false] at h1;by_cases hii:id=i;simp[hii] at h1;subst h1;simp[Ct.alive] at h2;simp[hii] at h1;simp[gset,hyi] at h5;have hm:=h.mine b ⟨i,c1,u,h1,h2,h5,h7⟩;rcases(hb b h8).1 with e | e;exact hii (h.apart id i c c1 v u b hid hc h1 h2 hv h5 e h7);omega
 by_cases e1:y=i<;>by_cases e2:y=i';exact e1.symm.trans e2;subst e1;simp[gset] at h5;subst h5;exact(key i' c2 u' e2 h3 h4 h6 h8 h7).elim;subst e2;simp[gset] at h6;subst h6;exact(key i c1 u e1 h1 h2 h5 h7 h8).elim;simp only[e1,if_false] at h1;simp only[e2,if_false] at h3;by_cases g1:id=i;simp[g1] at h1;subst h1;simp[Ct.alive] at h2;by_cases g2:id=i';simp[g2] at h3;subst h3;simp[Ct.alive] at h4;simp[g1] at h1;simp[g2] at h3;simp[gset,e1] at h5;simp[gset,e2] at h6;exact h.apart i i' c1 c2 u u' b h1 h2 h3 h4 h5 h6 h7 h8;intro b hb';rcases how b hb' with ⟨i,c',u,h1,h2,h3,h4,h5,h6⟩ | h1;obtain⟨g1,g2,g3⟩:=h.mine b ⟨i,c',u,h3,h4,h5,h6⟩;exact⟨g1,Nat.lt_of_lt_of_le g2 hk.1,g3⟩;obtain⟨g1,g2⟩:=hb b h1;rcases g1 with g1 | g1;obtain⟨k1,k2,k3⟩:=h.mine b ⟨id,c,v,hid,hc,hv,g1⟩;exact⟨k1,g2,k3⟩;exact⟨.inl (Nat.le_trans h.grow g1),g2,λhs=>by have:=h.s0 b hs;have:=h.grow;omega⟩;intro d ly hd;obtain⟨u,hu,hl⟩:=h.sts d ly hd;exact⟨u,hu,Ly.val_mono hk' hS hng ly u hl⟩
end Inv
section ops
variable {X:Cx}{st:Nat->Option Ly}{mm:Nat->Option Ct}
theorem Qhu(S:Nat->Prop)(w:World)(o:Obj):Kp S w (w.alloc o):=⟨by simp,λb hb _=>Below.heap_alloc w o b hb⟩
theorem Ql8(w:World)(o:Obj):(w.alloc o).heap[w.heap.size]?=some o:=by show(w.heap.push o)[w.heap.size]?=_;simp
theorem Qq8{d op ty pos af y ct}(hd:Nat.blt d X.N=true)(hy:mm y=none)(hal:ct.alive=true)
 (h:∀ a w γ,Inv X st mm a w γ->∃ v w',(execOp a.eval ⟨some d,op,ty,pos,af,none⟩).run X.P w=.ok (.value v) w'∧w'.os=w.os∧w'.tape=w.tape∧w'.output=w.output∧Kp (λ_=>False) w w'∧v.oneCell'=true ∧
  (∀ S γ',(∀ b,S b->X.S γ mm b∨w.heap.size≤b)->Ng γ γ'->γ' y=some v->Xu w' S γ' y ct)∧(∀ b,blkOf v=some b->w.heap.size≤b∧b<w'.heap.size)) :
 OpOk X st mm ⟨some d,op,ty,pos,af,none⟩ [(d,.own y)] [(y,ct)]:=by
 intro a w γ K Q hi hK;obtain⟨v,w',hr,h1,h2,h3,h4,h5,h6,h7⟩:=h a w γ hi;unfold Oper.wp;rw[hr];have hi':=hi.new h1 h2 h3 h4 hy hal (λS γ' _ h=>h6 S γ' h) h7;exact hK _ _ _ (hi'.put (d:=d) (v:=v) (ly:=.own y) (by simpa using hd) ⟨by simp[Inv.gset],h5⟩)
theorem al{d T ty pos af y k b z ly}(hT:TyI X.P T k b z)(hz:Zr ly z.cells.toList)(hy:mm y=none)(hd:Nat.blt d X.N=true):
 OpOk X st mm ⟨some d,.alloc T,ty,pos,af,none⟩ [(d,.own y)] [(y,.bx T ly)]:=
 Qq8 hd hy rfl λa w γ hi=>
  ⟨.pointer (some ⟨w.heap.size,0,none⟩),w.alloc (.cells z.cells T),by
    simp only[execOp];simp[Instr.alloc,Qct hT,newVar,newRow],rfl,rfl,rfl,Qhu _ _ _,rfl,
    λS γ' hS hg hy'=>⟨w.heap.size,z.cells,hy',Ql8 _ _,hz _ _ _⟩,λb hb=>by simp[blkOf] at hb;subst hb;simp⟩
theorem box{d T x ty pos af y ly}(hl:ly.lies=true)(hx:OpdF st x ly)(hy:mm y=none)(hd:Nat.blt d X.N=true):
 OpOk X st mm ⟨some d,.box T x,ty,pos,af,none⟩ [(d,.own y)] [(y,.bx T ly)]:=
 Qq8 hd hy rfl λa w γ hi=>by
  have hv:=Ly.hold_of_val hl (hx.val hi)
  refine⟨.pointer (some ⟨w.heap.size,0,none⟩),w.alloc (.cells (a.eval x).cells T),by
   simp only[execOp];simp[Instr.box,newVar,newRow],rfl,rfl,rfl,Qhu _ _ _,rfl,
   λS γ' hS hg hy'=>⟨w.heap.size,_,hy',Ql8 _ _,Ly.hold_mono (Qhu _ _ _) hS hg _ _ hv⟩,λb hb=>by simp[blkOf] at hb;subst hb;simp⟩
theorem asgN{d ty pos af y E k}(hd:Nat.blt d X.N=true)(hy:mm y=none):
 OpOk X st mm ⟨some d,.assign (.const (.slice none 0 0)),ty,pos,af,none⟩ [(d,.own y)] [(y,.sl E k [])]:=
 Qq8 hd hy rfl λa w γ hi=>⟨.slice none 0 0,w,rfl,rfl,rfl,rfl,Kp.refl _ _,rfl,λS γ' _ _ hy'=>⟨_,[],hy',⟨by simp,.inl ⟨rfl,rfl⟩⟩,rfl,λ_ h=>by cases h⟩,λb hb=>by simp[blkOf] at hb⟩
theorem slI{id E k ls}{a w γ}(hI:Inv X st mm a w γ)(hm:mm id=some (.sl E k ls)):∃ v cs,γ id=some v∧w.ownsRow 0 E k v ls.length cs∧Ly.holds w (X.S γ mm) γ ls cs∧∀ ly∈ls,ly.sz=k:=hI.cts id _ hm
theorem ixO{kk:IntKind}{d x i T ty pos af E E' k k' b z p id}{α:Type}{f:α->Ly}{xs:List α}{y:α}(hm:mm id=some (.sl E' k (xs.map f)))(hT:X.P.underlying T=some (.slice E))(hE:TyI X.P E k' b z)(hg:getI xs p=some y)
 (hd:Nat.blt d X.N=true) (hx:OpdF st x (.own id)) (hi:OpdF st i (.cell (cpI kk p))) :
 OpOk X st mm ⟨some d,.indexAddr T x i,ty,pos,af,none⟩ [(d,.ptr id (p.toNat*k'))] []:=
 Ws hd λa w γ hI=>by
  obtain⟨h0,hg⟩:=Qht hg;obtain⟨g1,_⟩:=hi.val hI;have hlt:p.toNat<xs.length:=by rcases Nat.lt_or_ge p.toNat xs.length with h | h;exact h;simp[List.getElem?_eq_none h] at hg
  obtain⟨v,cs,e1,e2,e3,e4⟩:=slI hI hm;obtain⟨hv,_⟩:=hx.val hI;rw[hv] at e1;simp at e1;subst e1;obtain⟨_,e5⟩:=e2;rcases e5 with ⟨h1,hn⟩ | ⟨g,cap,cur,h1,_,h2,h3,h4,h5,h6⟩;have:xs=[]:=by simpa using hn
  subst this;simp at hlt;have hpl:p<(xs.length:Int):=by omega
  refine⟨.pointer (some ⟨g,p.toNat*k',none⟩),?_,_,g,hv,by rw[h1];rfl,rfl⟩;simp only[execOp,h1,g1];simp[Instr.indexAt,asIntOf,underlying,hT,h0,hpl,Xc hE,add0]
theorem Qxk{w:World}{S γ}{E k:Nat}{v:Value}{α:Type}{f:α->Ly}{xs:List α}{cs:List Value}{i:Nat}{y:α}(ho:w.ownsRow 0 E k v xs.length cs)(hh:Ly.holds w S γ (xs.map f) cs)(hz:∀ ly∈xs.map f,ly.sz=k)(hy:xs[i]?=some y):
 ∃ g cap cur a u b,v=.slice (some ⟨g,0,none⟩) xs.length cap∧w.heap[g]?=some (.cells cur E (0,0))∧xs.length≤cap∧cap≤maxLen∧cur.size=cap*k∧cur.toList=(a++u++b)++cur.toList.drop (xs.length*k)∧cs=a++u++b∧a.length=i*k∧Ly.hold w S γ (f y) u ∧
   ∀(n:Ly) (u':List Value),Ly.hold w S γ n u'->Ly.holds w S γ ((xs.map f).set i n) (a++u'++b):=by
 obtain⟨hl,ho⟩:=ho;rcases ho with ⟨_,hn⟩ | ⟨g,cap,cur,rfl,_,h2,h3,h4,h5,h6⟩;have:xs=[]:=by simpa using hn
 subst this;simp at hy;have hmap:(xs.map f)[i]?=some (f y):=by simp[hy]
 have hlt:i<xs.length:=by rcases Nat.lt_or_ge i xs.length with h | h;exact h;simp[List.getElem?_eq_none h] at hy
 obtain⟨a1,u,b1,rfl,e1,e2,e3⟩:=Qmw hh hmap;rw[Qsb hz (by simp;omega)] at e1;refine⟨g,cap,cur,a1,u,b1,rfl,h2,h3,h4,h5,?_,rfl,e1,e2,e3⟩;rw[←h6,List.take_append_drop]
theorem off0{i k:Nat}:i*k=i*k+0:=rfl
theorem ldO{d x T ty pos af ag k kk id E lz off c i}{α:Type}{f:α->Ly}{xs:List α}{y:α}(p:List Nat)(hm:mm id=some (.sl E k (xs.map f)))(hy:xs[i]?=some y)(hg:Ly.go p (f y)=some (lz,c))(hoff:off=i*k+c)
 (hT:Shp X.P T ag kk) (hn:lz.isN=ag) (hz:lz.sz=kk) (hd:Nat.blt d X.N=true) (hx:OpdF st x (.ptr id off)) :
 OpOk X st mm ⟨some d,.load T x,ty,pos,af,none⟩ [(d,lz)] []:=
 Ws hd λa w γ hI=>by
  subst hoff;obtain⟨v,cs,e1,e2,e3,e4⟩:=slI hI hm;rw[List.length_map] at e2;obtain⟨g,cap,cur,a1,u,b1,rfl,h2,h3,h4,h5,h6,rfl,h7,h8,_⟩:=Qxk e2 e3 e4 hy;obtain⟨v0,g',k1,k2,k3⟩:=hx.val hI;rw[e1] at k1;simp at k1;subst k1;simp[blkOf] at k2;subst k2;obtain⟨a2,u2,b2,hc,hl,hh,_⟩:=Qkf p hg h8
  obtain⟨v,hr,hv⟩:=Qmv (P:=X.P) (b:=g) (o:=i*k+c) hT hn hz (us:=u2) (w:=w) (λj v hj=>by
   have hj':j<u2.length:=by rcases Nat.lt_or_ge j u2.length with h | h;exact h;simp[List.getElem?_eq_none h] at hj
   rw[Wg h2,←Array.getElem?_toList,h6,hc];have:a1++(a2++u2++b2)++b1++cur.toList.drop (xs.length*k)=(a1++a2)++(u2++(b2++b1++cur.toList.drop (xs.length*k))):=by simp
   rw[this,List.getElem?_append_right (by simp;omega),List.getElem?_append_left (by simp;omega)]
   rw[←hj];congr 1;simp;omega) hh
  exact⟨v,by simp only[execOp,k3];simp[Instr.loadAt,Instr.sureAddr,hr],hv⟩
theorem stO{x y T ty pos af ag k kk id E lz ln off c i}{α:Type}{f:α->Ly}{xs:List α}{e:α}(e':α)(p:List Nat)(hm:mm id=some (.sl E k (xs.map f)))(he:xs[i]?=some e)(hg:Ly.go p (f e)=some (lz,c))(hoff:off=i*k+c)
 (hpu:Ly.pu ln p (f e)=f e') (hsz:(f e').sz=k) (hT:Shp X.P T ag kk) (hz:lz.sz=kk) (hnz:ln.sz=kk) (hnl:ln.lies=true) (hx:OpdF st x (.ptr id off)) (hy:OpdF st y ln) :
 OpOk X st mm ⟨none,.store T x y,ty,pos,af,none⟩ [] [(id,.sl E k ((xs.set i e').map f))]:=by
 intro a w γ K Q hI hK;subst hoff;obtain⟨v,cs,e1,e2,e3,e4⟩:=slI hI hm;rw[List.length_map] at e2;obtain⟨g,cap,cur,a1,u,b1,rfl,h2,h3,h4,h5,h6,rfl,h7,h8,h9⟩:=Qxk e2 e3 e4 he;obtain⟨v0,g',k1,k2,k3⟩:=hx.val hI;rw[e1] at k1;simp at k1;subst k1;simp[blkOf] at k2;subst k2;obtain⟨a2,u2,b2,rfl,hl,hh,hp⟩:=Qkf p hg h8;have hv:=Ly.hold_of_val hnl (hy.val hI);have hvl:=Ly.hold_sz _ _ hv;have hul:=Ly.hold_sz _ _ hh;have hvl':(a.eval y).cells.size=ln.sz:=by simpa using hvl
 have hlen:=congrArg List.length h6;have hcl:=e2.1;simp only[List.length_append,Array.length_toList,List.length_drop] at hlen hcl;obtain⟨w',cur',r1,r2,r3,r4,r5,r6,r7⟩:=Q0v (P:=X.P) (o:=i*k+c) (v:=a.eval y) hT h2 rfl (by rw[hvl,hnz]) (by omega) (Ly.oneCell_of_hold _ _ hv);have hrun:(execOp a.eval ⟨none,.store T x y,ty,pos,af,none⟩).run X.P w=.ok .skip w':=by simp only[execOp,k3];simp[r1]
 unfold Oper.wp;rw[hrun];have hkS:Kp (X.S γ mm) w w':=⟨r4.1,λb hb hn=>r4.2 b hb (λee=>hn (.inr ⟨id,_,_,hm,rfl,e1,by rw[ee];rfl⟩))⟩
 have hhold:=h9 _ _ (hp _ _ hv);rw[hpu] at hhold;have hmapset:(xs.map f).set i (f e')=(xs.set i e').map f:=by rw[List.map_set]
 rw[hmapset] at hhold;have hcur':cur'.toList=(a1++(a2++(a.eval y).cells.toList++b2)++b1)++cur.toList.drop (xs.length*k):=by
  rw[r3];have:cur.toList=(a1++a2)++u2++(b2++b1++cur.toList.drop (xs.length*k)):=by
   have:=h6
   simpa using this
  rw[this,show i*k+c=(a1++a2).length by simp;omega,Q0u (by rw[hvl,hul,hnz,hz])];have hd:(a1++a2++u2++(b2++b1++cur.toList.drop (xs.length*k))).drop (xs.length*k)=cur.toList.drop (xs.length*k):=by rw[←this]
  rw[hd];simp
 have hct:Xu w' (X.S γ mm) γ id (.sl E k ((xs.set i e').map f)):=by refine⟨_,a1++(a2++(a.eval y).cells.toList++b2)++b1,e1,⟨?_,.inr ⟨g,cap,cur',by simp,Nat.zero_le _,r2,by simpa using h3,h4,?_,?_⟩⟩,Ly.holds_mono hkS (λb hb=>.inl hb) (Ng.refl _) _ _ hhold,?_⟩;simp only[List.length_append,List.length_map,List.length_set];omega;have:=congrArg List.length hcur';simp only[List.length_append,Array.length_toList,List.length_drop] at this;omega;rw[hcur',List.length_map,List.length_set,List.take_append_of_le_length (by simp only[List.length_append];omega),List.take_of_length_le (by simp only[List.length_append];omega)];intro ly hly;simp only[List.mem_map] at hly;obtain⟨q,hq,rfl⟩:=hly;rcases List.mem_or_eq_of_mem_set hq with hq | rfl;exact e4 _ (List.mem_map.2 ⟨q,hq,rfl⟩);exact hsz
 exact hK _ _ γ (hI.setc r5 r6 r7 hm rfl e1 rfl r4 rfl hct)
end ops
def Sx(S0:Nat->Prop)(γ:Nm)(m:List (Nat×Ct))(b:Nat):Prop:=S0 b∨Ow γ (lk m) b
def Apart(γ:Nm)(mm:Nat->Option Ct):Prop:=∀ id id' c c' v v' b,mm id=some c->c.alive=true->mm id'=some c'->c'.alive=true->γ id=some v->γ id'=some v'->blkOf v=some b->blkOf v'=some b->id=id'
structure Back(w:World)(S0:Nat->Prop)(γ:Nm)(mi:List (Nat×Ct))(res:Ly)(mo:List (Nat×Ct))(v:Value)(γ':Nm)(w':World):Prop where
 os:w'.os=w.os
 tape:w'.tape=w.tape
 output:w'.output=w.output
 grow:w.heap.size≤w'.heap.size
 old:∀ b,b<w.heap.size->¬ Ow γ (lk mi) b->w'.heap[b]?=w.heap[b]?
 keep:Ng γ γ'
 fresh:∀ id,lk mo id=none->γ' id=none
 cts:∀ id c,lk mo id=some c->Xu w' (Sx S0 γ' mo) γ' id c
 apart:Apart γ' (lk mo)
 mine:∀ b,Ow γ' (lk mo) b->(w.heap.size≤b∨Ow γ (lk mi) b)∧b<w'.heap.size∧¬ S0 b
 res:res.val w' (Sx S0 γ' mo) γ' v
def RetP(w:World)(S0:Nat->Prop)(γ:Nm)(mi:List (Nat×Ct))(res:Ly)(mo:List (Nat×Ct)):Ending->World->Prop:=
 λe w'=>∃ v γ',e=.returned v∧Back w S0 γ mi res mo v γ' w'
def FnOk(P:Program)(f:Nat)(args:List Ly)(mi:List (Nat×Ct))(res:Ly)(mo:List (Nat×Ct)):Prop:=
 (∃ fn,P.funcs[f]?=some fn∧(fn.name == "runtime.NumGoroutine")=false∧fn.body.isSome=true) ∧
 ∀(w:World) (S0:Nat->Prop) (γ:Nm) (vs:Array Value),(∀ b,S0 b->b<w.heap.size)->(∀ id,lk mi id=none->γ id=none) →
  (∀ id c,lk mi id=some c->Xu w (Sx S0 γ mi) γ id c)->Apart γ (lk mi)->(∀ b,Ow γ (lk mi) b->b<w.heap.size∧¬ S0 b)->Ly.vals w (Sx S0 γ mi) γ args vs.toList->GwOk w (Sx S0 γ mi) →
  Calls P f vs w (RetP w S0 γ mi res mo)
def argl:Nat->List Ly->List (Nat×Ly)
 | _,[]=>[]
 | i,ly::l=>(i,ly)::argl (i+1) l
theorem Q2g{w S γ}:∀ {l:List Ly}{vs:List Value}(i:Nat),Ly.vals w S γ l vs->∀ d ly,lk (argl i l) d=some ly->i≤d∧∃ v,vs[d - i]?=some v∧ly.val w S γ v
 | [],_,_,_,d,ly,h=>by cases h
 | x::l,vs,i,hv,d,ly,h=>by simp only[Ly.vals] at hv;obtain⟨v,r,rfl,h1,h2⟩:=hv;simp only[argl,lk] at h;cases hb:Nat.beq i d;rw[hb] at h;obtain⟨g1,u,g2,g3⟩:=Q2g (i+1) h2 d ly h;exact⟨by omega,u,by rw[show d - i=(d - (i+1))+1 by omega];simpa using g2,g3⟩;rw[hb] at h;simp at h;subst h;have:i=d:=Nat.eq_of_beq_eq_true hb;subst this;exact⟨Nat.le_refl _,v,by simp,h1⟩
theorem Q2h{P:Program}{f N:Nat}{fn:Func}{c:Code}{args:List Ly}{mi:List (Nat×Ct)}{R:Type}{res:R->Ly}{mo:R->List (Nat×Ct)}{md:Option R}
 (hf:P.funcs[f]?=some fn) (hb:fn.body=some c) (hN:fn.ntmps=N) (hname:(fn.name == "runtime.NumGoroutine")=false) (hl:Nat.ble args.length N=true)
 (h:∀ w S0 γ,(∀ id,lk mi id=none->γ id=none)->Sq ⟨P,N,w,S0,Ow γ (lk mi),γ,[]⟩ (argl 0 args) mi md (λr=>c.wp P (bodyPost P fn (RetP w S0 γ mi (res r) (mo r))))) :
 ∀ r,md=some r->FnOk P f args mi (res r) (mo r):=by
 intro r hr;refine⟨⟨fn,hf,hname,by rw[hb];rfl⟩,λw S0 γ vs h1 h2 h3 h4 h5 h6 h7=>?_⟩;refine calls_of_wp hf hb (h w S0 γ h2 r _ w γ hr ?_);have hvl:vs.size=args.length:=by
  have:∀(l:List Ly) (vs:List Value),Ly.vals w (Sx S0 γ mi) γ l vs->vs.length=l.length:=by
   intro l
   induction l with
   | nil=>intro vs h;simp only[Ly.vals] at h;simp[h]
   | cons x l ih=>intro vs h;simp only[Ly.vals] at h;obtain⟨v,r,rfl,_,h⟩:=h;simp[ih r h]
  simpa using this args vs.toList h6
 have hle:=Nat.le_of_ble_eq_true hl
 exact { size:=by simp[hN,hvl];omega,defs:=rfl,s0:=h1,gx:=h7,keep:=Ng.refl _,os:=rfl,tape:=rfl,output:=rfl,grow:=Nat.le_refl _,old:=λ_ _ _=>rfl,fresh:=h2,cts:=h3,apart:=h4,
         mine:=λb hb=>⟨.inr hb,(h5 b hb).1,(h5 b hb).2⟩,
         sts:=λd ly hd=>by
          obtain⟨_,v,g1,g2⟩:=Q2g 0 h6 d ly hd;refine⟨v,?_,g2⟩;simp only[Nat.sub_zero,Array.getElem?_toList] at g1;show(vs++_)[d]?=_
          rw[Array.getElem?_append_left (by
           rcases Nat.lt_or_ge d vs.size with h | h;exact h
           simp[Array.getElem?_eq_none h] at g1)]
          exact g1 }
def KpL(σ:List (Nat×Nat)):List (Nat×Ct)->Prop
 | []=>True
 | (id,_)::r=>lk σ id=some id∧KpL σ r
theorem keepS{σ mi}{γ:Nm}(hγ:∀ id,lk mi id=none->γ id=none)(h:KpL σ mi):KeepS σ γ:=by
 intro id v hv;have hne:lk mi id≠none:=λe=>by rw[hγ id e] at hv;cases hv
 clear hγ hv
 induction mi with
 | nil=>exact absurd rfl hne
 | cons e r ih=>
   obtain⟨i,c⟩:=e;simp only[lk] at hne;cases hb:Nat.beq i id;rw[hb] at hne;exact ih h.2 hne;rw[←Nat.eq_of_beq_eq_true hb];exact h.1
def ResF(P:Program)(l:List (Nat×Ly))(m:List (Nat×Ct)):List ResultVar->List Ly->Prop
 | [],[]=>True
 | .tmp t::rs,ly::lys=>lk l t=some ly∧ResF P l m rs lys
 | .cell t T::rs,ly::lys=>(∃ id E,lk l t=some (.own id)∧lk m id=some (.bx E ly)∧Shp P T ly.isN ly.sz)∧ResF P l m rs lys
 | _,_=>False
def resItem(tmps:Array Value):ResultVar->Sem Value
 | .tmp t=>pure (tmps.getD t undef)
 | .cell t T=>do loadVar T (←asAddr (tmps.getD t undef))
theorem Qwt{X:Cx}{l m a w γ}(hi:Inv X (lk l) (lk m) a w γ):∀(rs:List ResultVar) (lys:List Ly),ResF X.P l m rs lys →
 ∃ vs:List Value,(rs.mapM (resItem a.tmps)).run X.P w=.ok vs w∧Ly.vals w (X.S γ (lk m)) γ lys vs
 | [],[],_=>⟨[],by simp,by simp[Ly.vals]⟩
 | .tmp t::rs,ly::lys,h=>by obtain⟨vs,h1,h2⟩:=Qwt hi rs lys h.2;obtain⟨v,g1,g2⟩:=hi.sts t ly h.1;refine⟨v::vs,?_,?_⟩;simp[List.mapM_cons,resItem,g1,h1];simp only[Ly.vals];exact⟨v,vs,rfl,g2,h2⟩
 | .cell t T::rs,ly::lys,h=>by obtain⟨⟨id,E,k1,k2,k3⟩,k4⟩:=h;obtain⟨vs,h1,h2⟩:=Qwt hi rs lys k4;obtain⟨u,g1,g2,_⟩:=hi.sts t _ k1;obtain⟨g,cur,e1,e2,e3⟩:=bxI hi k2;rw[e1] at g2;simp at g2;subst g2;obtain⟨v,r1,r2⟩:=Qmv (P:=X.P) (b:=g) (o:=0) (w:=w) k3 rfl rfl (us:=cur.toList) (λj u hj=>by rw[Wg e2];simpa using hj) e3;refine⟨v::vs,?_,?_⟩;simp[List.mapM_cons,resItem,g1,asAddr,r1,h1];simp only[Ly.vals];exact⟨v,vs,rfl,r2,h2⟩
 | .tmp _::_,[],h=>h.elim
 | .cell _ _::_,[],h=>h.elim
 | [],_::_,h=>h.elim
def tupV:List Value->Value
 | [v]=>v
 | vs=>.tuple ⟨vs⟩
def resL:List Ly->Ly
 | [ly]=>ly
 | l=>.tup l
theorem Q4z{P:Program}{w:World}{fn:Func}{tmps:Array Value}{rs:List ResultVar}{vs:List Value}(hr:fn.results=⟨rs⟩)
 (h:(rs.mapM (resItem tmps)).run P w=.ok vs w) :
 (results fn tmps).run P w=.ok (tupV vs) w:=by
 have e0:results fn tmps=(do
  let vs ←fn.results.mapM (resItem tmps)
  pure (if h:vs.size=1 then vs[0] else .tuple vs)):=by
  unfold results;congr 1
 have e1:Array.mapM (resItem tmps) (⟨rs⟩:Array ResultVar)=List.toArray <$> (rs.mapM (resItem tmps)):=by rw[show(⟨rs⟩:Array ResultVar)=rs.toArray from rfl,List.mapM_toArray]
 rw[e0,hr,e1];simp only[Sem.run_bind,Sem.run_map,h,Result.andThen_ok];rcases vs with _ | ⟨v,_ | ⟨v',vs⟩⟩<;>simp[tupV]
theorem ret{P:Program}{N:Nat}{w0:World}{S0 γ0}{mi:List (Nat×Ct)}{R:Type}{res:R->Ly}{mo:R->List (Nat×Ct)}{fn:Func}{l:List (Nat×Ly)}{m:List (Nat×Ct)}{r:R}(σ:List (Nat×Nat))(rs:List ResultVar)(lys lys':List Ly)(e:Exit)
 (hγ:∀ id,lk mi id=none->γ0 id=none)
 (he:e=.ret∨e=.normal) (hr:fn.results=⟨rs⟩) (hF:ResF P l m rs lys) (hn:nodupB ((alv σ (mo r)).map (·.2))=true) (hk:KpL σ mi) (hs:NmM (mo r) σ) (hm:RnM σ m (mo r)) (hl:Rns σ lys lys') (hres:resL lys'=res r) :
 Sq ⟨P,N,w0,S0,Ow γ0 (lk mi),γ0,[]⟩ l m (some r) (λr=>bodyPost P fn (RetP w0 S0 γ0 mi (res r) (mo r)) e):=by
 intro r' a w γ hr' hi;cases hr';obtain⟨vs,h1,h2⟩:=Qwt hi rs lys hF;have hrun:=Q4z hr h1;let γ':Nm:=λy=>match lk σ y with | some x=>γ x | none=>none
 have hg:∀ y x,lk σ y=some x->γ' y=γ x:=λy x h=>by simp only[γ',h]
 obtain⟨γ'',hi'⟩:=entR (l':=[]) (m':=mo r) σ hn (keepS hγ hk) hs hm trivial a w γ hi;have key:∀ b,Ow γ' (lk (mo r)) b->Ow γ (lk m) b:=by rintro b ⟨y,c',v,k1,k2,k3,k4⟩;obtain⟨x,c,g1,g2,g3⟩:=hm.get y c' k1;exact⟨x,c,v,g2,g3.al k2,by rw[←hg y x g1];exact k3,k4⟩
 have hS:∀ b,Sx S0 γ' (mo r) b->Cx.S ⟨P,N,w0,S0,Ow γ0 (lk mi),γ0,[]⟩ γ (lk m) b:=λb h=>orM h (λx=>x) (key b);have hvals:Ly.vals w (Sx S0 γ' (mo r)) γ' lys' vs:=(hl w _ γ γ' hg).2 vs (Ly.vals_mono (Kp.refl _ _) (λb hb=>.inl (hS b hb)) (Ng.refl _) _ _ h2);have hv:(res r).val w (Sx S0 γ' (mo r)) γ' (tupV vs):=by rw[←hres];rcases lys' with _ | ⟨ly,_ | ⟨ly2,lys'⟩⟩;simp only[Ly.vals] at hvals;subst hvals;exact⟨#[],rfl,by simp[Ly.vals]⟩;simp only[Ly.vals] at hvals;obtain⟨v,rr,rfl,k1,rfl⟩:=hvals;exact k1;have hvals':=hvals;simp only[Ly.vals] at hvals;obtain⟨v,rr,rfl,k1,v2,rr2,rfl,k2,k3⟩:=hvals;show Ly.val w _ γ' (.tup _) _;simp only[Ly.val];exact⟨_,rfl,hvals'⟩
 have hback:RetP w0 S0 γ0 mi (res r) (mo r) (.returned (tupV vs)) w:=by
  refine⟨_,γ',rfl,⟨hi.os,hi.tape,hi.output,hi.grow,hi.old,?_,?_,?_,?_,?_,hv⟩⟩;intro id v hv;have h3:=keepS hγ hk id v hv;rw[hg id id h3];exact hi.keep id v hv;intro y hy;cases h:lk σ y with
  | none=>simp only[γ',h]
  | some x=>obtain⟨c,hc⟩:=hs.get y x h;rw[hy] at hc;cases hc
  intro y c' hc';obtain⟨x,c,g1,g2,g3⟩:=hm.get y c' hc';have h0:=hi.cts x c g2;have h1:Xu w (Sx S0 γ' (mo r)) γ x c:=h0.mono (Kp.refl _ _) (λb hb=>.inl (hS b hb)) (Ng.refl _) (λ_ _ _ _=>rfl);exact h1.rn1 hg g1 g3;intro y y' c c' v v' b h1 h2 h3 h4 h5 h6 h7 h8;obtain⟨x,d,g1,g2,g3⟩:=hm.get y c h1;obtain⟨x',d',g1',g2',g3'⟩:=hm.get y' c' h3;rw[hg y x g1] at h5;rw[hg y' x' g1'] at h6;have:=hi.apart x x' d d' v v' b g2 (g3.al h2) g2' (g3'.al h4) h5 h6 h7 h8;subst this;exact Qsa hn (Qvb (Qax g1) h1 h2) (Qvb (Qax g1') h3 h4);intro b hb;exact hi.mine b (key b hb)
 rcases he with rfl | rfl<;>exact⟨hi.defs,_,hrun,hback⟩
section call
variable {X:Cx}{st:Nat->Option Ly}{mm:Nat->Option Ct}
def ArgF(st:Nat->Option Ly)(ρ:List (Nat×Nat)):List Operand->List Ly->Prop
 | [],[]=>True
 | x::xs,ly'::lys=>(∃ ly,OpdF st x ly∧Rn ρ ly ly')∧ArgF st ρ xs lys
 | _,_=>False
theorem Qp3{a w γ γc ρ S}(hi:Inv X st mm a w γ)(hg:∀ y x,lk ρ y=some x->γc y=γ x)(hS:∀ b,S b->X.S γ mm b):
 ∀ {xs:List Operand}{lys:List Ly},ArgF st ρ xs lys->Ly.vals w S γc lys (xs.map a.eval)
 | [],[],_=>by simp[Ly.vals]
 | x::xs,ly::lys,h=>by obtain⟨⟨ly0,h1,h2⟩,h3⟩:=h;simp only[List.map_cons,Ly.vals];exact⟨_,_,rfl,Ly.val_mono (Kp.refl _ _) (λb hb=>.inl (hS b hb)) (Ng.refl _) _ _ ((h2 w _ γ γc hg).2 _ (h1.val hi)),Qp3 hi hg hS h3⟩
 | [],_::_,h=>h.elim
 | _::_,[],h=>h.elim
def BackM(σ ρ:List (Nat×Nat))(mo:List (Nat×Ct)):List (Nat×Ct)->Prop
 | []=>True
 | (y,c)::r=>((∃ x c0,lk σ y=some x∧lk mo x=some c0∧RnC σ c0 c)∨(c=.gone∧∃ x,(x,y)∈ρ))∧BackM σ ρ mo r
theorem BackM.get{σ ρ mo}:∀ {em},BackM σ ρ mo em->∀ y c,lk em y=some c->(∃ x c0,lk σ y=some x∧lk mo x=some c0∧RnC σ c0 c)∨(c=.gone∧∃ x,(x,y)∈ρ)
 | [],_,y,c,h=>by cases h
 | (i,x)::r,hh,y,c,h=>by simp only[lk] at h;cases hb:Nat.beq i y;rw[hb] at h;exact BackM.get hh.2 y c h;rw[hb] at h;have:i=y:=Nat.eq_of_beq_eq_true hb;subst this;simp at h;subst h;exact hh.1
def AllIn(em:List (Nat×Ct)):List Nat->Prop
 | []=>True
 | y::r=>(∃ c,lk em y=some c)∧AllIn em r
theorem AllIn.get{em}:∀ {l},AllIn em l->∀ y∈l,∃ c,lk em y=some c
 | [],_,y,h=>by cases h
 | x::l,hh,y,h=>by rcases List.mem_cons.1 h with rfl | h;exact hh.1;exact AllIn.get hh.2 y h
def Fresh(mm:Nat->Option Ct):List (Nat×Nat)->Prop
 | []=>True
 | (y,_)::r=>mm y=none∧Fresh mm r
theorem Fresh.get{mm}:∀ {τ},Fresh mm τ->∀ y x,lk τ y=some x->mm y=none
 | [],_,y,x,h=>by cases h
 | (i,x0)::r,hh,y,x,h=>by simp only[lk] at h;cases hb:Nat.beq i y;rw[hb] at h;exact Fresh.get hh.2 y x h;rw[←Nat.eq_of_beq_eq_true hb];exact hh.1
def SigT(τ ρ:List (Nat×Nat)):List (Nat×Nat)->Prop
 | []=>True
 | (y,x)::r=>(lk τ y=some x∨lk ρ x=some y)∧SigT τ ρ r
theorem SigT.get{τ ρ}:∀ {σ},SigT τ ρ σ->∀ y x,lk σ y=some x->lk τ y=some x∨lk ρ x=some y
 | [],_,y,x,h=>by cases h
 | (i,x0)::r,hh,y,x,h=>by simp only[lk] at h;cases hb:Nat.beq i y;rw[hb] at h;exact SigT.get hh.2 y x h;rw[hb] at h;have:i=y:=Nat.eq_of_beq_eq_true hb;subst this;simp at h;subst h;exact hh.1
def calG(ρ:List (Nat×Nat))(γ:Nm):Nm:=λx=>match lk ρ x with | some y=>γ y | none=>none
def calS(X:Cx)(mm:Nat->Option Ct)(ρ:List (Nat×Nat))(γ:Nm)(b:Nat):Prop:=X.S0 b∨∃ id c v,mm id=some c∧c.alive=true∧¬(∃ x,(x,id)∈ρ)∧γ id=some v∧blkOf v=some b
theorem Jcq{mi res mo res' em}(ρ τ σ:List (Nat×Nat))
 (hmi:∀ x c',lk mi x=some c'->∃ y c,lk ρ x=some y∧mm y=some c∧RnC ρ c c') (hρm:NmM mi ρ) (hρn:nodupB (ρ.map (·.2))=true)
 (hτ:Fresh mm τ) (hσ:SigT τ ρ σ) (hσn:nodupB (σ.map (·.2))=true) (hem:BackM σ ρ mo em) (hall:AllIn em (ρ.map (·.2))) (hall2:AllIn em (τ.map (·.1)))
 (hres:Rn σ res res') {a:Act}{w:World}{γ:Nm}(hi:Inv X st mm a w γ) :
 ∃(γc:Nm) (S0c:Nat->Prop),γc=calG ρ γ∧S0c=calS X mm ρ γ∧(∀ y x,lk ρ y=some x->γc y=γ x)∧(∀ b,Sx S0c γc mi b->X.S γ mm b)∧(∀ b,S0c b->b<w.heap.size)∧(∀ x,lk mi x=none->γc x=none) ∧
  (∀ x c',lk mi x=some c'->Xu w (Sx S0c γc mi) γc x c')∧Apart γc (lk mi)∧(∀ b,Ow γc (lk mi) b->b<w.heap.size∧¬ S0c b) ∧
  ∀(v:Value) (γ':Nm) (w':World),Back w S0c γc mi res mo v γ' w'->∃ γ'',Inv X st (up mm em) a w' γ''∧Ng γ γ''∧res'.val w' (X.S γ'' (up mm em)) γ'' v:=by
 let γc:Nm:=calG ρ γ;have hgc:∀ x y,lk ρ x=some y->γc x=γ y:=λx y h=>by simp only[γc,calG,h]
 let img:Nat->Prop:=λy=>∃ x,(x,y)∈ρ;let S0c:Nat->Prop:=calS X mm ρ γ;have hS0c:∀ b,S0c b->X.S γ mm b:=by rintro b (h | ⟨id,c,v,h1,h2,h3,h4,h5⟩);exact .inl h;exact .inr ⟨id,c,v,h1,h2,h4,h5⟩
 have hOwc:∀ b,Ow γc (lk mi) b->∃ y c v,img y∧mm y=some c∧c.alive=true∧γ y=some v∧blkOf v=some b:=by rintro b ⟨x,c',v,h1,h2,h3,h4⟩;obtain⟨y,c,g1,g2,g3⟩:=hmi x c' h1;exact⟨y,c,v,⟨x,Qax g1⟩,g2,g3.alive.1,by rw[←hgc x y g1];exact h3,h4⟩
 have hOwS:∀ b,Ow γc (lk mi) b->X.S γ mm b:=λb h=>by obtain⟨y,c,v,h1,h2,h3,h4,h5⟩:=hOwc b h;exact .inr ⟨y,c,v,h2,h3,h4,h5⟩
 have hSc:∀ b,Sx S0c γc mi b->X.S γ mm b:=λb h=>h.elim (hS0c b) (hOwS b);have hS0lt:∀ b,S0c b->b<w.heap.size:=by rintro b (h | ⟨id,c,v,h1,h2,h3,h4,h5⟩);exact Nat.lt_of_lt_of_le (hi.s0 b h) hi.grow;exact(hi.mine b ⟨id,c,v,h1,h2,h4,h5⟩).2.1
 have hdis:∀ b,Ow γc (lk mi) b->¬ S0c b:=by intro b h hs;obtain⟨y,c,v,h1,h2,h3,h4,h5⟩:=hOwc b h;rcases hs with hs | ⟨id,c2,v2,g1,g2,g3,g4,g5⟩;exact(hi.mine b ⟨y,c,v,h2,h3,h4,h5⟩).2.2 hs;have:=hi.apart y id c c2 v v2 b h2 h3 g1 g2 h4 g4 h5 g5;subst this;exact g3 h1
 refine⟨γc,S0c,rfl,rfl,hgc,hSc,hS0lt,
  (λx hx=>by
   cases h:lk ρ x with
   | none=>simp only[γc,calG,h]
   | some y=>obtain⟨c,hc⟩:=hρm.get x y h;rw[hx] at hc;cases hc),
  (λx c' hx=>by
   obtain⟨y,c,g1,g2,g3⟩:=hmi x c' hx;have h0:=hi.cts y c g2;have h1:Xu w (Sx S0c γc mi) γ y c:=h0.mono (Kp.refl _ _) (λb hb=>.inl (hSc b hb)) (Ng.refl _) (λ_ _ _ _=>rfl)
   exact h1.rn hgc g1 g3),
  (λx x' c c' v v' b h1 h2 h3 h4 h5 h6 h7 h8=>by
   obtain⟨y,d,g1,g2,g3⟩:=hmi x c h1;obtain⟨y',d',g1',g2',g3'⟩:=hmi x' c' h3;rw[hgc x y g1] at h5;rw[hgc x' y' g1'] at h6;have:=hi.apart y y' d d' v v' b g2 g3.alive.1 g2' g3'.alive.1 h5 h6 h7 h8;subst this
   exact Qm4 hρn (Qax g1) (Qax g1') g1 g1'),
  (λb hb=>by
   obtain⟨y,c,v,h1,h2,h3,h4,h5⟩:=hOwc b hb
   exact⟨(hi.mine b ⟨y,c,v,h2,h3,h4,h5⟩).2.1,hdis b hb⟩),?_⟩
 rintro v γ' w' hb;let γ'':Nm:=λy=>match lk τ y with | some x=>γ' x | none=>γ y
 have hnτ:∀ y c,mm y=some c->lk τ y=none:=λy c hy=>by
  cases h:lk τ y with
  | none=>rfl
  | some x=>rw[hτ.get y x h] at hy;cases hy
 have hng:Ng γ γ'':=by
  intro y u hu;cases h:lk τ y with
  | none=>simp only[γ'',h];exact hu
  | some x=>have:=hi.fresh y (hτ.get y x h);rw[this] at hu;cases hu
 have hg2:∀ y x,lk σ y=some x->γ'' y=γ' x:=by
  intro y x h;rcases hσ.get y x h with h1 | h1;simp only[γ'',h1];obtain⟨c',hc'⟩:=hρm.get x y h1;obtain⟨y2,c,g1,g2,g3⟩:=hmi x c' hc';rw[h1] at g1;simp at g1;subst g1;have hal:=g3.alive.1;have h0:=hi.cts y c g2;obtain⟨u,hu⟩:∃ u,γ y=some u:=by
   cases c with
   | gone=>simp[Ct.alive] at hal
   | sl E k ls=>obtain⟨u,_,hu,_⟩:=h0;exact⟨u,hu⟩
   | bx E ly=>obtain⟨g,_,hu,_⟩:=h0;exact⟨_,hu⟩
   | ob o=>obtain⟨g,hu,_⟩:=h0;exact⟨_,hu⟩
  have e1:γ'' y=γ y:=by simp only[γ'',hnτ y c g2]
  rw[e1,hu];exact(hb.keep x u (by rw[hgc x y h1];exact hu)).symm
 let mm2:=up mm em;have hmm2:∀ y c,mm2 y=some c->lk em y=some c∨(lk em y=none∧mm y=some c):=by
  intro y c h;simp only[mm2,up] at h;cases he:lk em y with
  | none=>rw[he] at h;exact .inr ⟨rfl,h⟩
  | some c'=>rw[he] at h;exact .inl h
 have hnimg:∀ y,lk em y=none->¬ img y:=by rintro y h ⟨x,hx⟩;obtain⟨c,hc⟩:=hall.get y (List.mem_map.2 ⟨_,hx,rfl⟩);rw[h] at hc;cases hc
 have how:∀ b,Ow γ'' mm2 b->Ow γ' (lk mo) b∨S0c b:=by
  rintro b ⟨y,c,u,h1,h2,h3,h4⟩;rcases hmm2 y c h1 with h | ⟨h,h'⟩;rcases hem.get y c h with ⟨x,c0,g1,g2,g3⟩ | ⟨rfl,_⟩;exact .inl ⟨x,c0,u,g2,g3.alive.1,by rw[←hg2 y x g1];exact h3,h4⟩;simp[Ct.alive] at h2;refine .inr (.inr ⟨y,c,u,h',h2,hnimg y h,?_,h4⟩);have e1:γ'' y=γ y:=by simp only[γ'',hnτ y c h']
  rw[←e1];exact h3
 have hS2:∀ b,X.S γ'' mm2 b->Sx S0c γ' mo b:=by rintro b (h | h);exact .inl (.inl h);rcases how b h with h | h;exact .inr h;exact .inl h
 have hS2':∀ b,X.S γ'' mm2 b->X.S γ mm b∨w.heap.size≤b:=by intro b h;rcases hS2 b h with h | h;exact .inl (hS0c b h);rcases(hb.mine b h).1 with h | h;exact .inr h;exact .inl (hOwS b h)
 have hk:Kp (X.S γ mm) w w':=⟨hb.grow,λb hb' hn=>hb.old b hb' (λh=>hn (hOwS b h))⟩
 have hinv:Inv X st mm2 a w' γ'':={
  size:=hi.size,defs:=hi.defs,s0:=hi.s0,gx:=hi.gx,keep:=λid u hu=>hng id u (hi.keep id u hu)
  os:=hb.os.trans hi.os,tape:=hb.tape.trans hi.tape,output:=hb.output.trans hi.output,grow:=Nat.le_trans hi.grow hb.grow
  old:=by
   intro b hb' hM
   rw[hb.old b (Nat.lt_of_lt_of_le hb' hi.grow) (λh=>by
    obtain⟨y,c,u,h1,h2,h3,h4,h5⟩:=hOwc b h;rcases(hi.mine b ⟨y,c,u,h2,h3,h4,h5⟩).1 with h | h;omega
    exact hM h)]
   exact hi.old b hb' hM
  fresh:=by
   intro y hy;have h1:lk em y=none:=by
    cases he:lk em y with
    | none=>rfl
    | some c=>simp only[mm2,up,he] at hy;cases hy
   have h2:mm y=none:=by simpa only[mm2,up,h1] using hy
   have h3:lk τ y=none:=by
    cases h:lk τ y with
    | none=>rfl
    | some x=>
      obtain⟨c,hc⟩:=hall2.get y (List.mem_map.2 ⟨_,Qax h,rfl⟩);rw[h1] at hc;cases hc
   simp only[γ'',h3];exact hi.fresh y h2
  cts:=by intro y c hy;rcases hmm2 y c hy with h | ⟨h,h'⟩;rcases hem.get y c h with ⟨x,c0,g1,g2,g3⟩ | ⟨rfl,_⟩;have h0:=hb.cts x c0 g2;have h1:Xu w' (X.S γ'' mm2) γ' x c0:=h0.mono (Kp.refl _ _) (λb hb=>.inl (hS2 b hb)) (Ng.refl _) (λ_ _ _ _=>rfl);exact h1.rn hg2 g1 g3;trivial;by_cases hal:c.alive=true;refine(hi.cts y c h').mono hk hS2' hng ?_;intro u b hu hb';refine hb.old b (hi.mine b ⟨y,c,u,h',hal,hu,hb'⟩).2.1 (λho=>?_);obtain⟨y2,c2,u2,k1,k2,k3,k4,k5⟩:=hOwc b ho;have:=hi.apart y y2 c c2 u u2 b h' hal k2 k3 hu k4 hb' k5;subst this;exact hnimg y h k1;cases c<;>simp[Ct.alive] at hal;trivial
  apart:=by
   have cross:∀ y y' c c' u u' b,lk em y=some c->c.alive=true->lk em y'=none->mm y'=some c'->c'.alive=true->γ'' y=some u->γ'' y'=some u'->blkOf u=some b->blkOf u'=some b->False:=by
    intro y y' c c' u u' b h1 h2 h3 h4 h5 h6 h7 h8 h9;rcases hem.get y c h1 with ⟨x,c0,g1,g2,g3⟩ | ⟨rfl,_⟩;have:=(hb.mine b ⟨x,c0,u,g2,g3.alive.1,by rw[←hg2 y x g1];exact h6,h8⟩).2.2;refine this (.inr ⟨y',c',u',h4,h5,hnimg y' h3,?_,h9⟩);have e1:γ'' y'=γ y':=by simp only[γ'',hnτ y' c' h4]
    rw[←e1];exact h7;simp[Ct.alive] at h2
   intro y y' c c' u u' b h1 h2 h3 h4 h5 h6 h7 h8;rcases hmm2 y c h1 with e1 | ⟨e1,e1'⟩<;>rcases hmm2 y' c' h3 with e2 | ⟨e2,e2'⟩;rcases hem.get y c e1 with ⟨x,c0,g1,g2,g3⟩ | ⟨rfl,_⟩;rcases hem.get y' c' e2 with ⟨x',c0',g1',g2',g3'⟩ | ⟨rfl,_⟩;rw[hg2 y x g1] at h5;rw[hg2 y' x' g1'] at h6;have:=hb.apart x x' c0 c0' u u' b g2 g3.alive.1 g2' g3'.alive.1 h5 h6 h7 h8;subst this;exact Qm4 hσn (Qax g1) (Qax g1') g1 g1';simp[Ct.alive] at h4;simp[Ct.alive] at h2;exact(cross y y' c c' u u' b e1 h2 e2 e2' h4 h5 h6 h7 h8).elim;exact(cross y' y c' c u' u b e2 h4 e1 e1' h2 h6 h5 h8 h7).elim;have k1:γ'' y=γ y:=by simp only[γ'',hnτ y c e1']
   have k2:γ'' y'=γ y':=by simp only[γ'',hnτ y' c' e2']
   rw[k1] at h5;rw[k2] at h6;exact hi.apart y y' c c' u u' b e1' h2 e2' h4 h5 h6 h7 h8
  mine:=by
   intro b h;rcases how b h with h | h;obtain⟨g1,g2,g3⟩:=hb.mine b h;refine⟨?_,g2,λh'=>g3 (.inl h')⟩;rcases g1 with g1 | g1;exact .inl (Nat.le_trans hi.grow g1);obtain⟨y,c,u,k1,k2,k3,k4,k5⟩:=hOwc b g1;exact(hi.mine b ⟨y,c,u,k2,k3,k4,k5⟩).1;obtain⟨y,c,u,h1,h2,h3,h4⟩:=‹Ow γ'' mm2 b›;rcases h with h | ⟨id,c2,u2,k1,k2,k3,k4,k5⟩;rcases hmm2 y c h1 with e1 | ⟨e1,e1'⟩;rcases hem.get y c e1 with ⟨x,c0,g1,g2,g3⟩ | ⟨rfl,_⟩;exact((hb.mine b ⟨x,c0,u,g2,g3.alive.1,by rw[←hg2 y x g1];exact h3,h4⟩).2.2 (.inl h)).elim;simp[Ct.alive] at h2;have k1:γ'' y=γ y:=by simp only[γ'',hnτ y c e1']
   rw[k1] at h3;obtain⟨g1,g2,g3⟩:=hi.mine b ⟨y,c,u,e1',h2,h3,h4⟩;exact(g3 h).elim;obtain⟨g1,g2,g3⟩:=hi.mine b ⟨id,c2,u2,k1,k2,k4,k5⟩;exact⟨g1,Nat.lt_of_lt_of_le g2 hb.grow,g3⟩
  sts:=by
   intro i ly hly;obtain⟨u,hu,hl⟩:=hi.sts i ly hly
   exact⟨u,hu,Ly.val_mono hk hS2' hng ly u hl⟩ }
 have hv:res'.val w' (X.S γ'' mm2) γ'' v:=Ly.val_mono (Kp.refl _ _) (λb hb=>.inl (hS2 b hb)) (Ng.refl _) _ _ ((hres w' _ γ' γ'' hg2).2 v hb.res);exact⟨γ'',hinv,hng,hv⟩
theorem callX{mi res mo res' em}(ρ τ σ:List (Nat×Nat))
 (hmi:∀ x c',lk mi x=some c'->∃ y c,lk ρ x=some y∧mm y=some c∧RnC ρ c c') (hρm:NmM mi ρ) (hρn:nodupB (ρ.map (·.2))=true)
 (hτ:Fresh mm τ) (hσ:SigT τ ρ σ) (hσn:nodupB (σ.map (·.2))=true) (hem:BackM σ ρ mo em) (hall:AllIn em (ρ.map (·.2))) (hall2:AllIn em (τ.map (·.1)))
 (hres:Rn σ res res') {a:Act}{w:World}{γ:Nm}(hi:Inv X st mm a w γ) :
 (∀ y x,lk ρ y=some x->calG ρ γ y=γ x)∧(∀ b,Sx (calS X mm ρ γ) (calG ρ γ) mi b->X.S γ mm b)∧(∀ b,calS X mm ρ γ b->b<w.heap.size)∧(∀ x,lk mi x=none->calG ρ γ x=none) ∧
  (∀ x c',lk mi x=some c'->Xu w (Sx (calS X mm ρ γ) (calG ρ γ) mi) (calG ρ γ) x c')∧Apart (calG ρ γ) (lk mi)∧(∀ b,Ow (calG ρ γ) (lk mi) b->b<w.heap.size∧¬ calS X mm ρ γ b) ∧
  ∀(v:Value) (γ':Nm) (w':World),Back w (calS X mm ρ γ) (calG ρ γ) mi res mo v γ' w'->∃ γ'',Inv X st (up mm em) a w' γ''∧Ng γ γ''∧res'.val w' (X.S γ'' (up mm em)) γ'' v:=by
 obtain⟨_,_,rfl,rfl,h⟩:=Jcq (res':=res') ρ τ σ hmi hρm hρn hτ hσ hσn hem hall hall2 hres hi;exact h
theorem callR{d f o largs mi res mo res' em}(ρ τ σ:List (Nat×Nat))(hf:FnOk X.P f largs mi res mo)(hdst:o.dst=some d)
 (hrun:∀ fn,X.P.funcs[f]?=some fn->(fn.name == "runtime.NumGoroutine")=false->fn.body.isSome=true->∀ a w γ,Inv X st mm a w γ->∃ vs:Array Value,(execOp a.eval o).run X.P w=.ok (.enter f vs) w ∧
  ∀(γc:Nm) (S:Nat->Prop),(∀ y x,lk ρ y=some x->γc y=γ x)->(∀ b,S b->X.S γ mm b)->Ly.vals w S γc largs vs.toList)
 (hmi:∀ x c',lk mi x=some c'->∃ y c,lk ρ x=some y∧mm y=some c∧RnC ρ c c') (hρm:NmM mi ρ) (hρn:nodupB (ρ.map (·.2))=true)
 (hτ:Fresh mm τ) (hσ:SigT τ ρ σ) (hσn:nodupB (σ.map (·.2))=true) (hem:BackM σ ρ mo em) (hall:AllIn em (ρ.map (·.2))) (hall2:AllIn em (τ.map (·.1)))
 (hres:Rn σ res res') (hd:Nat.blt d X.N=true) :
 OpOk X st mm o [(d,res')] em:=by
 obtain⟨⟨fn,hfn,hname,hbody⟩,hc⟩:=hf;intro a w γ K Q hi hK;obtain⟨vs,hrun,hvals⟩:=hrun fn hfn hname hbody a w γ hi;obtain⟨g1,g2,g3,g4,g5,g6,g7,g8⟩:=callX (res':=res') ρ τ σ hmi hρm hρn hτ hσ hσn hem hall hall2 hres hi;unfold Oper.wp;rw[hrun,Oper.upon_enter];refine(hc w _ _ vs g3 g4 g5 g6 g7 (hvals _ _ g1 g2) (hi.gw g2)).mono ?_;rintro e w' ⟨v,γ',rfl,hb⟩;show K (a.put o.dst v) w';rw[hdst];obtain⟨γ'',hinv,_,hv⟩:=g8 v γ' w' hb;exact hK _ _ _ (hinv.put (by simpa using hd) hv)
theorem callG{d f args argTypes ty pos af largs mi res mo res' em}(ρ τ σ:List (Nat×Nat))(hf:FnOk X.P f largs mi res mo)
 (ha:ArgF st ρ args largs) (hmi:∀ x c',lk mi x=some c'->∃ y c,lk ρ x=some y∧mm y=some c∧RnC ρ c c') (hρm:NmM mi ρ) (hρn:nodupB (ρ.map (·.2))=true)
 (hτ:Fresh mm τ) (hσ:SigT τ ρ σ) (hσn:nodupB (σ.map (·.2))=true) (hem:BackM σ ρ mo em) (hall:AllIn em (ρ.map (·.2))) (hall2:AllIn em (τ.map (·.1)))
 (hres:Rn σ res res') (hd:Nat.blt d X.N=true) :
 OpOk X st mm ⟨some d,.call { callee:=.value (.func f),args:=⟨args⟩,argTypes:=argTypes },ty,pos,af,none⟩ [(d,res')] em:=by
 refine callR ρ τ σ hf rfl (λfn hfn hname hbody a w γ hi=>⟨(args.map a.eval).toArray,?_,fun γc S hgc hSc=>by simpa using Qp3 hi hgc hSc ha⟩) hmi hρm hρn hτ hσ hσn hem hall hall2 hres hd;have hrun:(execOp a.eval ⟨some d,.call { callee:=.value (.func f),args:=⟨args⟩,argTypes:=argTypes },ty,pos,af,none⟩).run X.P w=.ok (.enter f (args.map a.eval).toArray) w:=by
  have e1:fn.body.isNone=false:=by cases h:fn.body<;>simp[h] at hbody ⊢
  have e2:¬ fn.name= "runtime.NumGoroutine":=by simpa using hname
  simp only[execOp,resolve,Act.eval];simp[Deferred.ofValue,invoke,callFunc,hfn,e2];intro e3;rw[e3] at e1;cases e1
 exact hrun
theorem call0{d f args argTypes ty pos af largs res}(hf:FnOk X.P f largs [] res [])(ha:ArgF st [] args largs)(hres:IF res)(hd:Nat.blt d X.N=true):
 OpOk X st mm ⟨some d,.call { callee:=.value (.func f),args:=⟨args⟩,argTypes:=argTypes },ty,pos,af,none⟩ [(d,res)] []:=
 callG [] [] [] hf ha (λ_ _ h=>by cases h) trivial rfl trivial trivial rfl trivial trivial trivial (rn_id hres) hd
end call
section ops
variable {X:Cx}{st:Nat->Option Ly}{mm:Nat->Option Ct}
theorem ext{d x i ty pos af l ly}(hl:l[i]?=some ly)(hd:Nat.blt d X.N=true)(hx:OpdF st x (.tup l)):OpOk X st mm ⟨some d,.extract x i,ty,pos,af,none⟩ [(d,ly)] []:=
 Ws hd λa w γ hi=>by
  obtain⟨vs,h1,h2⟩:=hx.val hi;have key:∀ {l:List Ly}{vs:List Value}{i:Nat}{ly},Ly.vals w (X.S γ mm) γ l vs->l[i]?=some ly->∃ v,vs[i]?=some v∧ly.val w (X.S γ mm) γ v:=by
   intro l
   induction l with
   | nil=>intro vs i ly _ h;simp at h
   | cons x l ih=>
     intro vs i ly hv h;simp only[Ly.vals] at hv;obtain⟨v,r,rfl,k1,k2⟩:=hv;cases i with
     | zero=>simp at h;subst h;exact⟨v,by simp,k1⟩
     | succ i=>
       obtain⟨u,g1,g2⟩:=ih (vs:=r) (i:=i) (ly:=ly) k2 (by simpa using h);exact⟨u,by simpa using g1,g2⟩
  obtain⟨v,g1,g2⟩:=key h2 hl;exact⟨v,by simp only[execOp,h1];simp only[Array.getElem?_toList] at g1;simp[Instr.extract,g1],g2⟩
def Q7j(mm:Nat->Option Ct):Ly->Prop
 | .ptr _ _=>True
 | .ref _=>True
 | .own id=>∃ E ly,mm id=some (.bx E ly)
 | _=>False
theorem nck{d x ty pos af ly}(hn:Q7j mm ly)(hd:Nat.blt d X.N=true)(hx:OpdF st x ly):OpOk X st mm ⟨some d,.nilCheck x,ty,pos,af,none⟩ [(d,ly)] []:=
 Ws hd λa w γ hi=>by
  have hv:=hx.val hi;have:∃ ad,a.eval x=.pointer (some ad):=by
   cases ly with
   | ptr id off=>obtain⟨_,g,_,_,h⟩:=hv;exact⟨_,h⟩
   | ref l=>obtain⟨b,o,us,h,_⟩:=hv;simp at h;exact⟨_,h⟩
   | own id=>
     obtain⟨E,ly,hm⟩:=hn;obtain⟨g,cur,h1,_⟩:=bxI hi hm;obtain⟨h2,_⟩:=hv;rw[h1] at h2;simp at h2;exact⟨_,h2.symm⟩
   | _=>exact hn.elim
  obtain⟨ad,h⟩:=this;exact⟨_,by simp only[execOp,h];rfl,h ▸ hv⟩
theorem Q2i{z:Array Value}{n k:Nat}(hz:z.size=k)(_:0<k):(madeCells z (n*k)).toList=(List.replicate n z.toList).flatten:=by
 induction n with
 | zero=>simp[madeCells]
 | succ n ih=>
   have:(madeCells z ((n+1)*k)).toList=(madeCells z (n*k)).toList++z.toList:=by
    unfold madeCells;simp only[Array.toList_map,Array.toList_range];rw[show(n+1)*k=n*k+k by rw[Nat.succ_mul],List.range_add,List.map_append,List.map_map];congr 1;apply List.ext_getElem;simp[hz];intro i h1 h2;simp only[List.length_map,List.length_range] at h1;simp only[List.getElem_map,List.getElem_range,Function.comp_def,hz];have e:(n*k+i)%k=i:=by rw[Nat.mul_comm,Nat.mul_add_mod];exact Nat.mod_eq_of_lt h1
    rw[e];simp[getElem!_pos z i (by omega)]
   rw[this,ih,List.replicate_succ',List.flatten_append];simp
theorem mks{d x1 x2 T ty pos af y E k b z n}{α:Type}{f:α->Ly}{zx:α}{xs:List α}(hm:mkM b zx n=some xs)(hT:X.P.underlying T=some (.slice E))(hE:TyI X.P E k b z)(hz:Zr (f zx) z.cells.toList)(hk:(f zx).sz=k)(hk0:Nat.blt 0 k=true)(hy:mm y=none)
 (hd:Nat.blt d X.N=true) (hx1:OpdF st x1 (i64 n)) (hx2:OpdF st x2 (i64 n)) :
 OpOk X st mm ⟨some d,.makeSlice T x1 x2,ty,pos,af,none⟩ [(d,.own y)] [(y,.sl E k (xs.map f))]:=by
 have hk0':0<k:=by simpa using hk0
 unfold mkM at hm;split at hm;rename_i hn;obtain⟨hn0,hnb,hn63⟩:=hn;cases hm;obtain⟨i,hi,hz0,hsz,hby⟩:=hE;have hzl:z.cells.size=k:=by have:=Ly.hold_sz _ _ (hz default (λ_=>False) (λ_=>none));rw[hk] at this;simpa using this
 refine Qq8 hd hy rfl λa w γ hI=>?_;obtain⟨h1,_⟩:=hx1.val hI;obtain⟨h2,_⟩:=hx2.val hI;have hr:=run_make (P:=X.P) w T E i z hT hi hz0 .i64 .i64 n n hn0 (Int.le_refl _) (by rw[hby,Int.mul_comm];omega) hn63;refine⟨.slice (some ⟨w.heap.size,0,none⟩) n.toNat n.toNat,w.alloc (.cells (madeCells z.cells (n.toNat*i.size)) E),by simp only[execOp,h1,h2];simp[hr],rfl,rfl,rfl,Qhu _ _ _,rfl,λS γ' hS hg hy'=>?_,λbb hb=>by simp[blkOf] at hb;subst hb;simp⟩;have hcells:(madeCells z.cells (n.toNat*i.size)).toList=(List.replicate n.toNat z.cells.toList).flatten:=by rw[hsz];exact Q2i hzl hk0'
 have hmap:(List.replicate n.toNat zx).map f=List.replicate n.toNat (f zx):=by simp
 refine⟨_,(List.replicate n.toNat z.cells.toList).flatten,hy',⟨?_,.inr ⟨w.heap.size,n.toNat,_,by simp,Nat.zero_le _,Ql8 _ _,by simp,by unfold maxLen;omega,by rw[size_madeCells,hsz],?_⟩⟩,?_,?_⟩;simp[hzl];rw[hcells,List.take_of_length_le];simp[hzl];rw[hmap];exact Qs3 hz _ _ _ _;intro ly hly;rw[hmap] at hly;rw[List.eq_of_mem_replicate hly];exact hk;cases hm
def Parts(st:Nat->Option Ly)(k:Nat):Nat->List (Nat×Operand)->List Ly->Prop
 | _,[],[]=>True
 | j,(i,x)::ps,ly::ls=>i=j∧OpdF st x ly∧ly.sz=k∧ly.lies=true∧Parts st k (j+1) ps ls
 | _,_,_=>False
theorem Q0w(vs:List Value):∀(cells:Array Value) (off n:Nat),off+n+vs.length≤cells.size →
 ((vs.zipIdx n).foldl (λcs (c,j)=>cs.setIfInBounds (off+j) c) cells).toList=cells.toList.take (off+n)++vs++cells.toList.drop (off+n+vs.length):=by
 induction vs with
 | nil=>intro cells off n _;simp
 | cons v vs ih=>
   intro cells off n h;simp only[List.length_cons] at h;rw[List.zipIdx_cons,List.foldl_cons,ih _ off (n+1) (by simp;omega)];simp only[Array.toList_setIfInBounds,List.length_cons];rw[show off+(n+1)=off+n+1 by omega,List.take_succ_eq_append_getElem (by simp;omega)];simp only[List.getElem_set_self,List.append_assoc,List.cons_append,List.nil_append];rw[List.take_set_of_le (by omega)];congr 2;rw[List.drop_set_of_lt (by omega)];congr 2;omega
theorem Qxl{a w γ k}(hi:Inv X st mm a w γ):∀(ps:List (Nat×Operand)) (ls:List Ly) (j:Nat) (cells:Array Value) ,Parts st k j ps ls->(j+ps.length)*k≤cells.size →
 ∃ cells' cs,Instr.fill (λi=>some (i*k,k)) cells (ps.map λ(i,x)=>(i,a.eval x))=some cells'∧cells'.size=cells.size∧Ly.holds w (X.S γ mm) γ ls cs∧cs.length=ps.length*k∧cells'.toList=cells.toList.take (j*k)++cs++cells.toList.drop ((j+ps.length)*k)
 | [],[],j,cells,_,_=>⟨cells,[],by simp[Instr.fill],rfl,rfl,by simp,by simp⟩
 | (i,x)::ps,ly::ls,j,cells,h,hsz=>by
   obtain⟨rfl,hx,hz,hl,h⟩:=h;have hv:=Ly.hold_of_val hl (hx.val hi);have hvl:(a.eval x).cells.size=k:=by have:=Ly.hold_sz _ _ hv;rw[hz] at this;simpa using this
   simp only[List.length_cons] at hsz;have h1:i*k+k≤cells.size:=by
    have:(i+(ps.length+1))*k=i*k+(ps.length*k+k):=by rw[Nat.add_mul,Nat.succ_mul]
    omega
   have hfold:=Q0w (a.eval x).cells.toList cells (i*k) 0 (by simp[hvl];omega);simp only[Nat.add_zero,Array.length_toList,hvl] at hfold;let cells1:=((a.eval x).cells.toList.zipIdx 0).foldl (λcs (c,j)=>cs.setIfInBounds (i*k+j) c) cells;have hc1:cells1.toList=cells.toList.take (i*k)++(a.eval x).cells.toList++cells.toList.drop (i*k+k):=hfold;have hsz1:cells1.size=cells.size:=by have:=congrArg List.length hc1;simp only[Array.length_toList,List.length_append,List.length_take,List.length_drop] at this;omega
   obtain⟨cells',cs,g1,g2,g3,g4,g5⟩:=Qxl hi ps ls (i+1) cells1 h (by rw[hsz1,show i+1+ps.length=i+(ps.length+1) by omega];exact hsz);refine⟨cells',(a.eval x).cells.toList++cs,?_,by rw[g2,hsz1],⟨_,_,rfl,hv,g3⟩,by simp[hvl,g4,Nat.succ_mul];omega,?_⟩;simp only[List.map_cons,Instr.fill];rw[if_neg (by simp[hvl];omega)]
   rw[show(a.eval x).cells.zipIdx.foldl (λcs (c,j)=>cs.setIfInBounds (i*k+j) c) cells=cells1 by rw[←Array.foldl_toList,Array.toList_zipIdx]]
   exact g1;rw[g5,hc1];have e1:(i+1)*k=i*k+k:=by rw[Nat.succ_mul]
   have e2:(i+1+ps.length)*k=i*k+k+ps.length*k:=by rw[Nat.add_mul,e1]
   have e3:(i+(ps.length+1))*k=i*k+k+ps.length*k:=by rw[←e2];congr 1;omega
   have l1:(cells.toList.take (i*k)++(a.eval x).cells.toList).length=i*k+k:=by simp[hvl];omega
   rw[e1,e2,List.length_cons,e3,List.take_left' l1];have e4:(cells.toList.take (i*k)++(a.eval x).cells.toList++cells.toList.drop (i*k+k)).drop (i*k+k+ps.length*k)=cells.toList.drop (i*k+k+ps.length*k):=by rw[List.drop_append,l1,show i*k+k+ps.length*k - (i*k+k)=ps.length*k by omega,List.drop_of_length_le (by rw[l1];omega),List.drop_drop,List.nil_append]
   rw[e4];simp
 | [],_::_,_,_,h,_=>h.elim
 | (_,_)::_,[],_,_,h,_=>h.elim
end ops
def cpyL{α:Type}(xs ys:List α):List α:=ys.take xs.length++xs.drop ys.length
section ops
variable {X:Cx}{st:Nat->Option Ly}{mm:Nat->Option Ct}
def SlF(mm:Nat->Option Ct)(lx:Ly)(k:Nat)(ls:List Ly):Prop:=lx=sli k ls∨∃ id E,lx=.own id∧mm id=some (.sl E k ls)
theorem Q2j{lx k ls x a w γ}(hI:Inv X st mm a w γ)(h:SlF mm lx k ls)(hx:OpdF st x lx):
 (a.eval x=.slice none 0 0∧ls=[])∨(∃ b o cap cs,a.eval x=.slice (some ⟨b,o,none⟩) ls.length cap∧ls.length≤cap∧cap≤maxLen∧b<w.heap.size ∧
   (∀ j u,cs[j]?=some u->w.cell? ⟨b,o+j,none⟩=some u)∧Ly.holds w (X.S γ mm) γ ls cs∧∀ ly∈ls,ly.sz=k)∨(ls=[]∧∃ ad,a.eval x=.slice (some ad) 0 0):=by
 rcases h with rfl | ⟨id,E,rfl,hm⟩;rcases hx.val hI with ⟨h1,h2⟩ | ⟨b,o,cap,cs,h1,h2,h3,h4,h5,h6,h7,h8⟩ | h;exact .inl ⟨h1,h2⟩;exact .inr (.inl ⟨b,o,cap,cs,h1,h2,h3,h4,h6,Ly.holds_mono (Kp.refl _ _) (λb hb=>.inl hb) (λ_ _ h=>by cases h) _ _ h7,h8⟩);exact .inr (.inr h);obtain⟨v,cs,e1,⟨e2,e3⟩,e4,e5⟩:=slI hI hm;obtain⟨hv,_⟩:=hx.val hI;rw[hv] at e1;simp at e1;rcases e3 with ⟨h1,hn⟩ | ⟨g,cap,cur,h1,_,h2,h3,h4,h5,h6⟩;exact .inl ⟨by rw[e1,h1],by simpa using hn⟩;refine .inr (.inl ⟨g,0,cap,cs,by rw[e1,h1],h3,h4,?_,λj u hj=>?_,e4,e5⟩);rcases Nat.lt_or_ge g w.heap.size with h | h;exact h;simp[Array.getElem?_eq_none h] at h2;rw[Wg h2,←Array.getElem?_toList,Nat.zero_add];rw[←h6] at hj;rw[List.getElem?_take] at hj;split at hj;exact hj;cases hj
theorem Qqs{P:Program}(w:World)(base:Nat)(T ty E:TypeId)(i:TypeInfo)(k:Nat)(hT:P.underlying T=some (.slice E))(hi:P.info? E=some i)(v:Value)(n:Nat)(cs:List Value)(h:w.ownsRow base E k v n cs)(ad:Addr):
 (Builtin.append_ #[T,T] ty #[v,.slice (some ad) 0 0]).run P w=.ok v w:=by
 rcases h.2 with ⟨rfl,rfl⟩ | ⟨g,cap,cur,rfl,_,_,h3,_⟩;simp[Builtin.append_,underlying,hT,sizeOf,typeInfo,hi,Builtin.lenOf,Builtin.firstCells,loadCells,loadCellsFrom];simp[Builtin.append_,underlying,hT,sizeOf,typeInfo,hi,Builtin.lenOf,Builtin.firstCells,loadCells,loadCellsFrom,storeCells,h3]
theorem Qhv{w S γ}:∀ {l1 l2:List Ly}{c1 c2:List Value},Ly.holds w S γ l1 c1->Ly.holds w S γ l2 c2->Ly.holds w S γ (l1++l2) (c1++c2)
 | [],l2,c1,c2,h1,h2=>by simp only[Ly.holds] at h1;subst h1;simpa using h2
 | ly::l1,l2,c1,c2,h1,h2=>by obtain⟨d1,d2,rfl,g1,g2⟩:=h1;exact⟨d1,d2++c2,by simp,g1,Qhv g2 h2⟩
theorem Qvd{k:Nat}:∀ {l:List Ly},(∀ ly∈l,ly.sz=k)->Ly.szs l=l.length*k
 | [],_=>by simp[Ly.szs]
 | ly::l,h=>by simp[Ly.szs,h ly List.mem_cons_self,Qvd (λx hx=>h x (List.mem_cons_of_mem _ hx)),Nat.succ_mul];omega
theorem app{d s x T ty pos af y id E k b z lx}{α:Type}{f:α->Ly}{xs ys zs:List α}(hz:appM b xs ys=some zs)(hm:mm id=some (.sl E k (xs.map f)))(hT:X.P.underlying T=some (.slice E))(hE:TyI X.P E k b z)(hzk:z.cells.size=k)(hk0:Nat.blt 0 k=true)
 (hs:OpdF st s (.own id)) (hx:OpdF st x lx) (hF:SlF mm lx k (ys.map f)) (hy:mm y=none) (hd:Nat.blt d X.N=true) :
 OpOk X st mm ⟨some d,.call { callee:=.builtin .append,args:=#[s,x],argTypes:=#[T,T] },ty,pos,af,none⟩ [(d,.own y)] [(y,.sl E k (zs.map f)),(id,.gone)]:=by
 intro a w γ K Q hI hK;unfold appM at hz;split at hz
 case isFalse=>cases hz
 rename_i hle;obtain⟨hbytes,h63⟩:=hle;cases hz;obtain⟨i,hi,hz0,hsz,hby⟩:=hE;have hk0':0<k:=by simpa using hk0
 obtain⟨v,cs,e1,e2,e3,e4⟩:=slI hI hm;obtain⟨hv,hv1⟩:=hs.val hI;have hvs:a.eval s=v:=by rw[hv] at e1;simpa using e1
 rw[List.length_map] at e2
 have fin:∀ v' w' news,(Builtin.append_ #[T,T] ty #[v,a.eval x]).run X.P w=.ok v' w'->w'.ownsRow 0 E k v' (xs.length+ys.length) (cs++news)->w.grownBy w' v.ownBlock->Ly.holds w (X.S γ mm) γ (ys.map f) news →
  (∀ b,blkOf v'=some b->(blkOf v=some b∨w.heap.size≤b))->(∀ ly∈ys.map f,ly.sz=k) →
  Oper.wp X.P ⟨some d,.call { callee:=.builtin .append,args:=#[s,x],argTypes:=#[T,T] },ty,pos,af,none⟩ a w K Q:=by
  intro v' w' news hr hown hg hh hb hz2;have hrun:(execOp a.eval ⟨some d,.call { callee:=.builtin .append,args:=#[s,x],argTypes:=#[T,T] },ty,pos,af,none⟩).run X.P w=.ok (.value v') w':=by simp only[execOp,resolve];simp[invoke,builtin,hvs,hr]
  unfold Oper.wp;rw[hrun];have hob:v.ownBlock=blkOf v:=by rcases e2.2 with ⟨rfl,_⟩ | ⟨g,cap,cur,rfl,_⟩<;>rfl
  have hk:Kp (λb=>blkOf v=some b) w w':=⟨hg.size,λb hb' hn=>hg.block b hb' (by rw[hob];exact λh=>hn h.symm)⟩
  have hkS:Kp (X.S γ mm) w w':=⟨hg.size,λb hb' hn=>hk.2 b hb' (λh=>hn (.inr ⟨id,_,v,hm,rfl,e1,h⟩))⟩
  have hone:v'.oneCell'=true:=by rcases hown.2 with ⟨rfl,_⟩ | ⟨g,cap,cur,rfl,_⟩<;>rfl
  have hinv:=hI.replace hg.os hg.tape hg.output hm rfl e1 hk (y:=y) (ct:=.sl E k ((xs++ys).map f)) (v':=v') hy rfl
   (λS γ' hS hng hy'=>by
    refine⟨v',cs++news,hy',by simpa using hown,?_,?_⟩
    . rw[List.map_append]
      exact Ly.holds_mono hkS hS hng _ _ (Qhv e3 hh)
    . intro ly hly
      rw[List.map_append] at hly;rcases List.mem_append.1 hly with h | h
      . exact e4 ly h
      . exact hz2 ly h)
   (λb hb'=>⟨hb b hb',by
    rcases hown.2 with ⟨rfl,_⟩ | ⟨g,cap,cur,rfl,_,h2,_⟩
    . simp[blkOf] at hb'
    . simp[blkOf] at hb';subst hb'
      rcases Nat.lt_or_ge g w'.heap.size with h | h
      . exact h
      . simp[Array.getElem?_eq_none h] at h2⟩)
  exact hK _ _ _ (hinv.put (d:=d) (v:=v') (ly:=.own y) (by simpa using hd) ⟨by simp[Inv.gset],hone⟩)
 rcases Q2j hI hF hx with ⟨h1,h2⟩ | ⟨bb,o,cap,news,h1,h2,h3,h4,h5,h6,h7⟩ | ⟨h2,ad,h1⟩
 rotate_left 2
 . have:ys=[]:=by simpa using h2
   subst this;have hr:=Qqs (P:=X.P) w 0 T ty E i k hT hi v xs.length cs e2 ad;exact fin v w [] (by rw[h1];exact hr) (by simpa using e2) ⟨rfl,rfl,rfl,Nat.le_refl _,λ_ _ _=>rfl⟩ (by simp[Ly.holds]) (λb h=>.inl h) (λly h=>by cases h)
 . have:ys=[]:=by simpa using h2
   subst this;have hr:=run_append_owned_none (P:=X.P) w 0 T ty E i k hT hi v xs.length cs e2;exact fin v w [] (by rw[h1];exact hr) (by simpa using e2) ⟨rfl,rfl,rfl,Nat.le_refl _,λ_ _ _=>rfl⟩ (by simp[Ly.holds]) (λb h=>.inl h) (λly h=>by cases h)
 . have hnl:news.length=ys.length*k:=by
    have:=Ly.holds_sz _ _ h6;rw[Qvd h7] at this;simpa using this
   rw[List.length_map] at h1
   obtain⟨v',w',r1,r2,r3,r4⟩:=run_append_own (P:=X.P) w 0 T ty E i z k b hT hi hz0 hsz hby hzk hk0' v xs.length cs e2 ⟨bb,o,none⟩ ys.length cap news hnl
    (λj u hj=>by rw[add0];exact h5 j u hj) (Ly.oneCell_of_holds _ _ h6) (by unfold maxLen;omega) hbytes (Nat.zero_le _)
   refine fin v' w' news (by rw[h1];exact r1) r2 r3 h6 (λbk hb=>?_) h7;have hsrc:Src X.P i.size T (.slice (some ⟨bb,o,none⟩) ys.length cap) ys.length news w:=Src.ofSlice w hT _ _ _ _ (by rw[hsz];exact hnl) (λj u hj=>by rw[add0];exact h5 j u hj) (Ly.oneCell_of_holds _ _ h6);rcases e2 with ⟨hcl,⟨rfl,hn0⟩ | ⟨g,cap0,cur,rfl,_,g2,g3,g4,g5,g6⟩⟩
   . 
    obtain⟨v2,w2,q1,q2,_,_⟩:=run_append_own (P:=X.P) w w.heap.size T ty E i z k b hT hi hz0 hsz hby hzk hk0' (.slice none 0 0) xs.length cs ⟨hcl,.inl ⟨rfl,hn0⟩⟩ ⟨bb,o,none⟩ ys.length cap news hnl
     (λj u hj=>by rw[add0];exact h5 j u hj) (Ly.oneCell_of_holds _ _ h6) (by unfold maxLen;omega) hbytes (Nat.le_refl _)
    rw[r1] at q1;obtain⟨rfl,rfl⟩:v'=v2∧w'=w2:=by simpa using q1
    rcases q2.2 with ⟨rfl,_⟩ | ⟨g,cap1,cur1,rfl,hge,_⟩
    . simp[blkOf] at hb
    . simp[blkOf] at hb;subst hb;exact .inr hge
   . by_cases hroom:xs.length+ys.length≤cap0
     . have hr2:=run_append_room_src (P:=X.P) w T T ty E i hT hi g 0 xs.length cap0 _ ys.length news hsrc hroom
        (λj hj=>by
         rw[Wg g2,hsz];have:0+xs.length*k+j<cur.size:=by rw[g5];have:=Nat.mul_le_mul_right k hroom;rw[Nat.add_mul] at this;omega
         rw[Array.getElem?_eq_getElem this];rfl)
        (λj hj=>by simp[World.frozen?,g2])
       rw[r1] at hr2;simp at hr2;rw[hr2.1] at hb;exact .inl hb
     . have hold:(Builtin.firstCells i.size xs.length (.slice (some ⟨g,0,none⟩) xs.length cap0)).run X.P w.drew=.ok cs.toArray w.drew:=
        run_firstCells_some w.drew i.size xs.length ⟨g,0,none⟩ xs.length cap0 cs (by rw[hsz];exact hcl) (λj u hj=>by
         rw[add0,Nat.zero_add];have:w.drew.cell? ⟨g,j,none⟩=w.cell? ⟨g,j,none⟩:=rfl;rw[this,Wg g2,←Array.getElem?_toList];rw[←g6,List.getElem?_take] at hj;split at hj
         . exact hj
         . cases hj)
       have hr2:=run_append_grow_src (P:=X.P) w T T ty E i z hT hi hz0 (some ⟨g,0,none⟩) xs.length cap0 cs hold _ ys.length news hsrc (by omega) (by omega) (growslice_fits (by omega) (by rw[hby];exact hbytes));rw[r1] at hr2;simp at hr2;rw[hr2.1] at hb;simp[blkOf] at hb;subst hb;exact .inr (Nat.le_refl _)
end ops
section ops
variable {X:Cx}{st:Nat->Option Ly}{mm:Nat->Option Ct}
theorem bsl{d T len parts ty pos af y E k b z ls}(hT:X.P.underlying T=some (.slice E))(hE:TyI X.P E k b z)(_:z.cells.size=k)(hlen:parts.length=len)(hll:ls.length=len)(hle:Nat.ble (len*k) 16777216=true)(hk0:Nat.blt 0 k=true)
 (hp:Parts st k 0 parts ls) (hy:mm y=none) (hd:Nat.blt d X.N=true) :
 OpOk X st mm ⟨some d,.buildSlice T len ⟨parts⟩,ty,pos,af,none⟩ [(d,.own y)] [(y,.sl E k ls)]:=by
 have hle':=Nat.le_of_ble_eq_true hle;have hk0':0<k:=by simpa using hk0
 refine Qq8 hd hy rfl λa w γ hI=>?_;have hEw:=hE;obtain⟨i,hi,hz0,hsz,hby⟩:=hE;let zc:Array Value:=if len*k=0 then #[] else z.cells
 let cells0:Array Value:=(Array.range (len*k)).map (λx=>zc[x%zc.size]!);obtain⟨cells',cs,g1,g2,g3,g4,g5⟩:=Qxl hI parts ls 0 cells0 hp (by simp[cells0,hlen]);have hcs:cells'.toList=cs:=by rw[g5];simp only[Nat.zero_mul,List.take_zero,List.nil_append,Nat.zero_add];rw[List.drop_of_length_le (by simp[cells0,hlen])];simp
 refine⟨.slice (some ⟨w.heap.size,0,none⟩) len len,w.alloc (.cells cells' E),?_,rfl,rfl,rfl,Qhu _ _ _,rfl,λS γ' hS hg hy'=>?_,λbb hb=>by simp[blkOf] at hb;subst hb;simp⟩;have hn:¬ 16777216<len*k:=by omega
 simp only[execOp];have hzero:∀ w:World,(if len*k=0 then (pure #[]:Sem (Array Value)) else do pure (←zeroValue E).cells).run X.P w=.ok zc w:=by intro w;by_cases h0:len*k=0;simp[h0,zc];simp[h0,zc,Qct hEw]
 have hfill:Instr.fill (λi=>some (i*k,k)) cells0 (parts.map λ(i,x)=>(i,a.eval x))=some cells':=g1;by_cases h0:len*k=0;have hz0:zc=#[]:=by simp[zc,h0]
 simp[Instr.buildSlice,underlying,hT,Xc hEw,h0];have e0:cells0=#[]:=by simp[cells0,h0]
 have g1':Instr.fill (λi=>some (i*k,k)) (Array.map (λ_=>(default:Value)) (Array.range 0)) (List.map (λx=>(x.fst,a.eval x.snd)) parts)=some cells':=by rw[show Array.map (λ_=>(default:Value)) (Array.range 0)=cells0 by rw[e0];simp];exact g1
 rw[g1'];simp[newRow];have hz0:zc=z.cells:=by simp[zc,h0]
 simp[Instr.buildSlice,underlying,hT,Xc hEw,Qct hEw,hn,h0];have g1':Instr.fill (λi=>some (i*k,k)) (Array.map (λx=>z.cells[x%z.cells.size]!) (Array.range (len*k))) (List.map (λx=>(x.fst,a.eval x.snd)) parts)=some cells':=by rw[←hz0];exact g1
 rw[g1'];simp[newRow];refine⟨_,cs,hy',⟨by rw[g4,hlen,hll],.inr ⟨w.heap.size,len,cells',by rw[hll],Nat.zero_le _,Ql8 _ _,by omega,?_,?_,?_⟩⟩,Ly.holds_mono (Qhu _ _ _) hS hg _ _ g3,?_⟩;unfold maxLen;have:len≤len*k:=Nat.le_mul_of_pos_right _ hk0';omega;have:=congrArg List.length hcs;simp only[Array.length_toList] at this;rw[this,g4,hlen];rw[hcs,hll,List.take_of_length_le (by rw[g4,hlen];exact Nat.le_refl _)];clear g1 g2 g3 g4 g5 hcs hll hlen;have:∀(ps:List (Nat×Operand)) (ls:List Ly) (j:Nat),Parts st k j ps ls->∀ ly∈ls,ly.sz=k:=by
  intro ps
  induction ps with
  | nil=>intro ls j h ly hly;cases ls with | nil=>cases hly | cons _ _=>exact h.elim
  | cons p ps ih=>
    intro ls j h ly hly;obtain⟨i,x⟩:=p;cases ls with
    | nil=>exact h.elim
    | cons l ls=>
      obtain⟨_,_,h3,_,h5⟩:=h;rcases List.mem_cons.1 hly with rfl | hly;exact h3;exact ih ls (j+1) h5 ly hly
 exact this parts ls 0 hp
theorem Q2k{α:Type}{l r:List α}{lo hi:Int}(h:sub l lo hi=some r):0≤lo∧lo≤hi∧hi≤l.length∧r=(l.take hi.toNat).drop lo.toNat:=by unfold sub at h;split at h;rename_i hh;exact⟨hh.1,hh.2.1,hh.2.2,by simpa using h.symm⟩;cases h
def BndF(st:Nat->Option Ly)(p:Int):Option Operand->Int->Prop
 | none,q=>q=p
 | some x,q=>∃ kk,OpdF st x (.cell (cpI kk q))
theorem Qof{a w γ p q o}(hI:Inv X st mm a w γ)(h:BndF st p o q):(o=none∧q=p)∨∃ x kk,o=some x∧a.eval x=.int kk q:=by
 cases o with
 | none=>exact .inl ⟨rfl,h⟩
 | some x=>obtain⟨kk,h⟩:=h;exact .inr ⟨x,kk,rfl,((OpdF.val hI h:Ly.val _ _ _ _ _)).1⟩
theorem Qbp{P:Program}{w:World}{isS:Bool}{len cap:Nat}{lo hi:Option Value}{p q:Int}(hl:(lo=none∧p=0)∨∃ kk,lo=some (.int kk p))(hh:(hi=none∧q=len)∨∃ kk,hi=some (.int kk q))
 (h0:0≤p) (h1:p≤q) (h2:q≤cap):(Instr.sliceBounds isS len cap lo hi none).run P w=.ok (p.toNat,q.toNat,cap) w:=by
 have e1:(0≤q∧q≤(cap:Int)):=⟨by omega,h2⟩
 have e2:(0≤p∧p≤((q.toNat:Nat):Int)):=⟨h0,by omega⟩
 rcases hl with ⟨rfl,rfl⟩ | ⟨kl,rfl⟩<;>rcases hh with ⟨rfl,rfl⟩ | ⟨kh,rfl⟩ <;>
  simp_all [Instr.sliceBounds,Instr.sliceBound,asIntOf]
theorem Qea{w S γ k}:∀ {l:List Ly}{cs:List Value}(i:Nat),Ly.holds w S γ l cs->(∀ ly∈l,ly.sz=k)->Ly.holds w S γ (l.take i) (cs.take (i*k))∧Ly.holds w S γ (l.drop i) (cs.drop (i*k))
 | l,cs,0,h,_=>by simpa [Ly.holds] using h
 | [],cs,i+1,h,_=>by simp only[Ly.holds] at h;subst h;simp[Ly.holds]
 | ly::l,cs,i+1,h,hz=>by
   obtain⟨c1,c2,rfl,h1,h2⟩:=h;obtain⟨g1,g2⟩:=Qea i h2 (λx hx=>hz x (List.mem_cons_of_mem _ hx));have hc1:c1.length=k:=by rw[Ly.hold_sz _ _ h1,hz ly List.mem_cons_self]
   have e:(i+1)*k=c1.length+i*k:=by rw[hc1,Nat.succ_mul];omega
   rw[e];simp only[List.take_succ_cons,List.drop_succ_cons,List.take_length_add_append,List.drop_length_add_append];exact⟨⟨c1,_,rfl,h1,g1⟩,g2⟩
theorem slR{d x lo hi T ty pos af E k b z p q}{α:Type}{f:α->Ly}{xs ys:List α}(hs:sub xs p q=some ys)(hT:X.P.underlying T=some (.slice E))(hE:TyI X.P E k b z)
 (hd:Nat.blt d X.N=true) (hx:OpdF st x (sli k (xs.map f))) (hlo:BndF st 0 lo p) (hhi:BndF st xs.length hi q) :
 OpOk X st mm ⟨some d,.slice T x lo hi none,ty,pos,af,none⟩ [(d,sli k (ys.map f))] []:=
 Ws hd λa w γ hI=>by
  obtain⟨h0,h1,h2,rfl⟩:=Q2k hs;have hlo':(lo.map a.eval=none∧p=0)∨∃ kk,lo.map a.eval=some (.int kk p):=by
   rcases Qof hI hlo with ⟨rfl,h⟩ | ⟨x,kk,rfl,h⟩
   . exact .inl ⟨rfl,h⟩
   . exact .inr ⟨kk,by simp[h]⟩
  have hhi':(hi.map a.eval=none∧q=(xs.length:Nat))∨∃ kk,hi.map a.eval=some (.int kk q):=by
   rcases Qof hI hhi with ⟨rfl,h⟩ | ⟨x,kk,rfl,h⟩
   . exact .inl ⟨rfl,h⟩
   . exact .inr ⟨kk,by simp[h]⟩
  rcases hx.val hI with ⟨hv,hn⟩ | ⟨bb,o,cap,cs,hv,k1,k2,k3,k4,k5,k6,k7⟩ | ⟨hn,ad,hv⟩
  rotate_left 2
  . have:xs=[]:=by simpa using hn
    subst this;simp only[List.length_nil] at h2;obtain rfl:q=0:=by simp at h2;omega
    obtain rfl:p=0:=by omega
    refine⟨.slice (some ad) 0 0,?_,.inr (.inr ⟨by simp,ad,rfl⟩)⟩;have:=Qbp (P:=X.P) (w:=w) (isS:=true) (len:=0) (cap:=0) hlo' hhi' (by omega) (by omega) (by omega);simp only[execOp,hv];simp[Instr.sliceAt,Instr.slice,underlying,hT,this,Xc hE]
  . have:xs=[]:=by simpa using hn
    subst this;simp only[List.length_nil] at h2;obtain rfl:q=0:=by simp at h2;omega
    obtain rfl:p=0:=by omega
    refine⟨.slice none 0 0,?_,.inl ⟨rfl,by simp⟩⟩;have:=Qbp (P:=X.P) (w:=w) (isS:=true) (len:=0) (cap:=0) hlo' hhi' (by omega) (by omega) (by omega);simp only[execOp,hv];simp[Instr.sliceAt,Instr.slice,underlying,hT,this,Xc hE]
  . rw[List.length_map] at hv k1
    have hb:=Qbp (P:=X.P) (w:=w) (isS:=true) (len:=xs.length) (cap:=cap) hlo' hhi' h0 h1 (by omega);have hlen:(((xs.take q.toNat).drop p.toNat).map f).length=q.toNat - p.toNat:=by simp;omega
    by_cases hc:cap=p.toNat
    . subst hc
      refine⟨.slice (some ⟨bb,o,none⟩) (q.toNat - p.toNat) (p.toNat - p.toNat),?_,.inr (.inl ⟨bb,o,p.toNat - p.toNat,[],by rw[hlen],by rw[hlen];omega,by omega,k3,k4,λj u hj=>by simp at hj,?_,?_⟩)⟩
      . simp only[execOp,hv]
        simp[Instr.sliceAt,Instr.slice,underlying,hT,hb,Xc hE]
      . have:((xs.take q.toNat).drop p.toNat).map f=[]:=List.eq_nil_of_length_eq_zero (by rw[hlen];omega)
        rw[this];rfl
      . intro ly hly
        have:((xs.take q.toNat).drop p.toNat).map f=[]:=List.eq_nil_of_length_eq_zero (by rw[hlen];omega);rw[this] at hly;cases hly
    . obtain⟨g1,_⟩:=Qea q.toNat k6 k7
      obtain⟨_,g2⟩:=Qea p.toNat g1 (λly h=>k7 ly (List.mem_of_mem_take h));refine⟨.slice (some ⟨bb,o+p.toNat*k,none⟩) (q.toNat - p.toNat) (cap - p.toNat),?_,.inr (.inl ⟨bb,o+p.toNat*k,cap - p.toNat,_,by rw[hlen],by rw[hlen];omega,by omega,k3,k4,λj u hj=>?_,by rw[List.map_drop,List.map_take];exact g2,?_⟩)⟩
      . simp only[execOp,hv]
        simp[Instr.sliceAt,Instr.slice,underlying,hT,hb,Xc hE,hc,add0]
      . rw[List.getElem?_drop,List.getElem?_take] at hj
        split at hj
        . rw[Nat.add_assoc];exact k5 _ u hj
        . cases hj
      . intro ly hly
        rw[List.map_drop,List.map_take] at hly;exact k7 ly (List.mem_of_mem_take (List.mem_of_mem_drop hly))
theorem slS{d x lo hi T ty pos af p q s t}(hs:sub s p q=some t)(hT:X.P.underlying T=some .string)
 (hd:Nat.blt d X.N=true) (hx:OpdF st x (str s)) (hlo:BndF st 0 lo p) (hhi:BndF st s.length hi q) :
 OpOk X st mm ⟨some d,.slice T x lo hi none,ty,pos,af,none⟩ [(d,str t)] []:=
 Ws hd λa w γ hI=>by
  obtain⟨h0,h1,h2,rfl⟩:=Q2k hs;have hlo':(lo.map a.eval=none∧p=0)∨∃ kk,lo.map a.eval=some (.int kk p):=by rcases Qof hI hlo with ⟨rfl,h⟩ | ⟨x,kk,rfl,h⟩;exact .inl ⟨rfl,h⟩;exact .inr ⟨kk,by simp[h]⟩
  have hhi':(hi.map a.eval=none∧q=(s.length:Nat))∨∃ kk,hi.map a.eval=some (.int kk q):=by rcases Qof hI hhi with ⟨rfl,h⟩ | ⟨x,kk,rfl,h⟩;exact .inl ⟨rfl,h⟩;exact .inr ⟨kk,by simp[h]⟩
  obtain⟨hv,hl⟩:=hx.val hI;have hb:=Qbp (P:=X.P) (w:=w) (isS:=false) (len:=s.length) (cap:=s.length) hlo' hhi' h0 h1 h2;have e:(ByteArray.mk s.toArray).size=s.length:=rfl;refine⟨.string ⟨((s.take q.toNat).drop p.toNat).toArray⟩,?_,rfl,by simp;omega⟩;have e2:(ByteArray.mk s.toArray).extract p.toNat q.toNat=⟨((s.take q.toNat).drop p.toNat).toArray⟩:=by apply ByteArray.ext;rw[ByteArray.data_extract];apply Array.ext';simp[List.extract_eq_take_drop,List.drop_take]
  simp only[execOp,hv];simp[Instr.sliceAt,Instr.slice,underlying,hT,e,hb,e2]
end ops
def FzR(id k:Nat)(ls:List Ly)(ly ly':Ly):Prop:=∀ w S (γ:Nm) v,γ id=some v->(cpL k ls).p w S v->(∀ cs,ly.hold w S γ cs->ly'.hold w S γ cs)∧(∀ v,ly.val w S γ v->ly'.val w S γ v)
def FzRs(id k:Nat)(ls:List Ly)(l l':List Ly):Prop:=∀ w S (γ:Nm) v,γ id=some v->(cpL k ls).p w S v->(∀ cs,Ly.holds w S γ l cs->Ly.holds w S γ l' cs)
theorem fz_id{id k ls ly}:FzR id k ls ly ly:=λ_ _ _ _ _ _=>⟨λ_ h=>h,λ_ h=>h⟩
theorem Q7k{id k ls}:FzR id k ls (.own id) (sli k ls):=λw S γ v hv hp=>
 ⟨λcs h=>by obtain⟨u,rfl,h1,h2⟩:=h;rw[hv] at h1;simp at h1;subst h1;exact⟨v,rfl,hp⟩,
  λu h=>by obtain⟨h1,h2⟩:=h;rw[hv] at h1;simp at h1;subst h1;exact hp⟩
theorem Q5i{id k ls}:FzRs id k ls [] []:=λ_ _ _ _ _ _ _ h=>h
theorem Q2l{id k ls ly ly' l l'}(h1:FzR id k ls ly ly')(h2:FzRs id k ls l l'):FzRs id k ls (ly::l) (ly'::l'):=λw S γ v hv hp cs h=>by obtain⟨c1,c2,rfl,g1,g2⟩:=h;exact⟨c1,c2,rfl,(h1 w S γ v hv hp).1 _ g1,h2 w S γ v hv hp _ g2⟩
theorem Q7l{id k ls l l'}(h:FzRs id k ls l l'):FzR id k ls (.agg l) (.agg l'):=λw S γ v hv hp=>
 ⟨λcs g=>by simp only[Ly.hold] at g ⊢;exact h w S γ v hv hp _ g,λu g=>by simp only[Ly.val] at g ⊢;obtain⟨cs,rfl,g⟩:=g;exact⟨cs,rfl,h w S γ v hv hp _ g⟩⟩
def FzL(id k:Nat)(ls:List Ly)(l:List (Nat×Ly)):List (Nat×Ly)->Prop
 | []=>True
 | (d,ly')::r=>(∃ ly,lk l d=some ly∧FzR id k ls ly ly')∧FzL id k ls l r
def FzM(id k:Nat)(ls:List Ly)(m:List (Nat×Ct)):List (Nat×Ct)->Prop
 | []=>True
 | (i,.bx E ly')::r=>(Nat.beq id i=false∧∃ ly,lk m i=some (.bx E ly)∧FzR id k ls ly ly')∧FzM id k ls m r
 | _::_=>False
theorem FzL.get{id k ls l}:∀ {r:List (Nat×Ly)},FzL id k ls l r->∀ d ly',lk r d=some ly'->∃ ly,lk l d=some ly∧FzR id k ls ly ly'
 | [],_,d,ly',h=>by cases h
 | (i,x)::r,hh,d,ly',h=>by simp only[lk] at h;cases hb:Nat.beq i d;rw[hb] at h;exact FzL.get hh.2 d ly' h;rw[hb] at h;have:i=d:=Nat.eq_of_beq_eq_true hb;subst this;simp at h;subst h;exact hh.1
theorem FzM.get{id k ls m}:∀ {r:List (Nat×Ct)},FzM id k ls m r->∀ i c,lk r i=some c->∃ E ly ly',id≠i∧c=.bx E ly'∧lk m i=some (.bx E ly)∧FzR id k ls ly ly'
 | [],_,d,ly',h=>by cases h
 | (i,x)::r,hh,d,c,h=>by
   cases x with
   | bx E ly'=>
     simp only[lk] at h;cases hb:Nat.beq i d;rw[hb] at h;exact FzM.get hh.2 d c h;rw[hb] at h;have:i=d:=Nat.eq_of_beq_eq_true hb;subst this;simp at h;subst h;obtain⟨⟨h1,ly,h2,h3⟩,_⟩:=hh;exact⟨E,ly,ly',λe=>by subst e;simp at h1,rfl,h2,h3⟩
   | _=>exact hh.elim
theorem Qwu{α:Type}{st:Nat->Option α}{el i}(h:lk el i=none):up st el i=st i:=by simp[up,h]
theorem Q2m{α:Type}{st:Nat->Option α}{el i x}(h:lk el i=some x):up st el i=some x:=by simp[up,h]
theorem frz{R:Type}{X:Cx}{l:List (Nat×Ly)}{m:List (Nat×Ct)}{md:Option R}{G:R->Act->World->Prop}{id E k ls}(l1:List (Nat×Ly))(m1:List (Nat×Ct))(hm:lk m id=some (.sl E k ls))(hif:IFs ls)
 (hl1:FzL id k ls l l1) (hm1:FzM id k ls m m1) (K:Sq X (l1++l) (m1++(id,.gone)::m) md G):Sq X l m md G:=by
 intro r a w γ hr hi;refine K r a w γ hr ?_;obtain⟨v,cs,e1,⟨e2,e3⟩,e4,e5⟩:=slI hi hm;have hd:=hi.drop id;have hS:∀ b,X.S γ (up (lk m) [(id,.gone)]) b->X.S γ (lk m) b:=by rintro b (h | ⟨i,c',u,h1,h2,h3,h4⟩);exact .inl h;rw[Vx] at h1;by_cases e:id=i;simp[e] at h1;subst h1;simp[Ct.alive] at h2;simp[e] at h1;exact .inr ⟨i,c',u,h1,h2,h3,h4⟩
 have hp:(cpL k ls).p w (X.S γ (up (lk m) [(id,.gone)])) v:=by rcases e3 with ⟨rfl,hn⟩ | ⟨g,cap,cur,rfl,_,h2,h3,h4,h5,h6⟩;exact .inl ⟨rfl,List.eq_nil_of_length_eq_zero hn⟩;have hmine:=hi.mine g ⟨id,_,_,hm,rfl,e1,rfl⟩;refine .inr (.inl ⟨g,0,cap,cs,rfl,h3,h4,hmine.2.1,?_,λj u hj=>?_,Ly.holds_mono (Kp.refl _ _) (λb hb=>.inl (hS b hb)) (Ng.refl _) _ _ ((hif w _ γ (λ_=>none)).1 _ e4),e5⟩);rintro(h | ⟨i,c',u,k1,k2,k3,k4⟩);exact hmine.2.2 h;rw[Vx] at k1;by_cases e:id=i;simp[e] at k1;subst k1;simp[Ct.alive] at k2;simp[e] at k1;exact e (hi.apart id i _ c' _ u g hm rfl k1 k2 e1 k3 rfl k4);rw[Wg h2,←Array.getElem?_toList,Nat.zero_add];rw[←h6,List.getElem?_take] at hj;split at hj;exact hj;cases hj
 have hmm:lk (m1++(id,.gone)::m)=up (up (lk m) [(id,.gone)]) m1:=by rw[up_lk,up_lk];rfl
 have hOw:∀ b,Ow γ (lk (m1++(id,.gone)::m)) b↔Ow γ (up (lk m) [(id,.gone)]) b:=by
  intro b;rw[hmm];constructor;rintro⟨i,c,u,h1,h2,h3,h4⟩;simp only[up] at h1;cases hq:lk m1 i with
  | none=>rw[hq] at h1;exact⟨i,c,u,h1,h2,h3,h4⟩
  | some c'=>
    rw[hq] at h1;simp at h1;subst h1;obtain⟨E',ly,ly',g0,g1,g2,g3⟩:=hm1.get i c' hq;exact⟨i,_,u,by rw[Vx,if_neg g0];exact g2,rfl,h3,h4⟩
  rintro⟨i,c,u,h1,h2,h3,h4⟩;cases hq:lk m1 i with
  | none=>exact⟨i,c,u,by simp only[up];rw[hq];exact h1,h2,h3,h4⟩
  | some c'=>
    obtain⟨E',ly,ly',g0,g1,g2,g3⟩:=hm1.get i c' hq;exact⟨i,c',u,by simp only[up];rw[hq],by rw[g1];rfl,h3,h4⟩
 have hSS:X.S γ (lk (m1++(id,.gone)::m))=X.S γ (up (lk m) [(id,.gone)]):=by funext b;exact propext ⟨λh=>orM h (λx=>x) (hOw b).1,λh=>orM h (λx=>x) (hOw b).2⟩
 refine { hd with fresh:=?_,cts:=?_,apart:=?_,mine:=λb hb=>hd.mine b ((hOw b).1 hb),sts:=?_ };intro i h;rw[hmm] at h;simp only[up] at h;cases hq:lk m1 i with
 | none=>rw[hq] at h;exact hd.fresh i h
 | some c'=>rw[hq] at h;cases h
 intro i c h;rw[hSS];rw[hmm] at h;cases hq:lk m1 i with
 | none=>rw[Qwu hq] at h;exact hd.cts i c h
 | some c'=>
   rw[Q2m hq] at h;simp at h;subst h;obtain⟨E',ly,ly',g0,rfl,g2,g3⟩:=hm1.get i c' hq;obtain⟨g,cur,k1,k2,k3⟩:=hd.cts i (.bx E' ly) (by rw[Vx,if_neg g0];exact g2);exact⟨g,cur,k1,k2,(g3 w _ γ v e1 hp).1 _ k3⟩
 intro i i' c1 c2 u u' b h1 h2 h3 h4 h5 h6 h7 h8;have tr:∀ i c,lk (m1++(id,.gone)::m) i=some c->c.alive=true->∃ c',up (lk m) [(id,.gone)] i=some c'∧c'.alive=true:=by
  intro i c h hal;rw[hmm] at h;cases hq:lk m1 i with
  | none=>rw[Qwu hq] at h;exact⟨c,h,hal⟩
  | some c'=>
    obtain⟨E',ly,ly',g0,g1,g2,g3⟩:=hm1.get i c' hq;exact⟨_,by rw[Vx,if_neg g0];exact g2,rfl⟩
 obtain⟨d1,q1,q2⟩:=tr i c1 h1 h2;obtain⟨d2,q3,q4⟩:=tr i' c2 h3 h4;exact hd.apart i i' d1 d2 u u' b q1 q2 q3 q4 h5 h6 h7 h8;intro d ly hd';rw[hSS];rw[←up_lk] at hd';cases hq:lk l1 d with
 | none=>rw[Qwu hq] at hd';exact hd.sts d ly hd'
 | some ly'=>
   rw[Q2m hq] at hd';simp at hd';subst hd';obtain⟨ly0,g1,g2⟩:=hl1.get d ly' hq;obtain⟨u,k1,k2⟩:=hd.sts d ly0 g1;exact⟨u,k1,(g2 w _ γ v e1 hp).2 _ k2⟩
section ops
variable {X:Cx}{st:Nat->Option Ly}{mm:Nat->Option Ct}
theorem cpy{d t s T T2 ty pos af id E k b z lx}{α:Type}{f:α->Ly}{xs ys:List α}(hm:mm id=some (.sl E k (xs.map f)))(hT:X.P.underlying T=some (.slice E))(hE:TyI X.P E k b z)
 (ht:OpdF st t (.own id)) (hs:OpdF st s lx) (hF:SlF mm lx k (ys.map f)) (hd:Nat.blt d X.N=true) :
 OpOk X st mm ⟨some d,.call { callee:=.builtin .copy,args:=#[t,s],argTypes:=#[T,T2] },ty,pos,af,none⟩ [(d,i64 (min ys.length xs.length:Nat))] [(id,.sl E k ((cpyL xs ys).map f))]:=by
 intro a w γ K Q hI hK;have hsz:=Xc (P:=X.P) hE;obtain⟨v,cs,e1,e2,e3,e4⟩:=slI hI hm;obtain⟨hv,hv1⟩:=ht.val hI;have hvs:a.eval t=v:=by rw[hv] at e1;simpa using e1
 rw[List.length_map] at e2;have len64:∀ n:Nat,n≤maxLen->IntKind.i64.min≤(n:Int)∧(n:Int)≤IntKind.i64.max:=λn h=>len_b h;have none_:(min ys.length xs.length=0)->(Builtin.copy_ #[T,T2] ty #[v,a.eval s]).run X.P w=.ok (.int .i64 (0:Nat)) w->Oper.wp X.P ⟨some d,.call { callee:=.builtin .copy,args:=#[t,s],argTypes:=#[T,T2] },ty,pos,af,none⟩ a w K Q:=by
  intro h0 hr;have hrun:(execOp a.eval ⟨some d,.call { callee:=.builtin .copy,args:=#[t,s],argTypes:=#[T,T2] },ty,pos,af,none⟩).run X.P w=.ok (.value (.int .i64 (0:Nat))) w:=by simp only[execOp,resolve];simp[invoke,builtin,hvs,hr]
  unfold Oper.wp;rw[hrun];have hxs:cpyL xs ys=xs:=by
   unfold cpyL;rcases Nat.min_eq_zero_iff.1 h0 with h | h
   . have:ys=[]:=List.eq_nil_of_length_eq_zero h
     subst this;simp
   . have:xs=[]:=List.eq_nil_of_length_eq_zero h
     subst this;simp
  have hinv:Inv X st (up mm [(id,.sl E k ((cpyL xs ys).map f))]) a w γ:=by
   rw[hxs];have:up mm [(id,.sl E k (xs.map f))]=mm:=by
    funext i;rw[Vx];split
    . rename_i h;subst h;exact hm.symm
    . rfl
   rw[this];exact hI
  exact hK _ _ _ (hinv.put (d:=d) (v:=.int .i64 (0:Nat)) (by simpa using hd) (by rw[h0];exact⟨rfl,len64 0 (Nat.zero_le _)⟩))
 rcases Q2j hI hF hs with ⟨h1,h2⟩ | ⟨bb,o,cap,news,h1,h2,h3,h4,h5,h6,h7⟩ | ⟨h2,ad,h1⟩
 rotate_left 2
 . have:ys=[]:=by simpa using h2
   subst this;refine none_ (by simp) ?_;rw[h1];rcases e2.2 with ⟨rfl,_⟩ | ⟨g,cap,cur,rfl,_⟩<;>simp[Builtin.copy_,underlying,hT,Builtin.lenOf,Builtin.firstCells,hsz,goInt,storeCells,loadCells,loadCellsFrom]
 . have:ys=[]:=by simpa using h2
   subst this;refine none_ (by simp) ?_;rw[h1];rcases e2.2 with ⟨rfl,_⟩ | ⟨g,cap,cur,rfl,_⟩<;>simp[Builtin.copy_,underlying,hT,Builtin.lenOf,Builtin.firstCells,hsz,goInt,storeCells]
 . rw[List.length_map] at h1 h2
   rcases e2 with ⟨hcl,⟨rfl,hn⟩ | ⟨g,cap0,cur,rfl,_,g2,g3,g4,g5,g6⟩⟩
   . refine none_ (by omega) ?_
     rw[h1];simp[Builtin.copy_,underlying,hT,Builtin.lenOf,Builtin.firstCells,hsz,goInt,loadCells,loadCellsFrom]
   . let n:=Nat.min ys.length xs.length
     have hnl:news.length=ys.length*k:=by have:=Ly.holds_sz _ _ h6;rw[Qvd h7] at this;simpa using this
     have hnA:ys.length≤xs.length->n=ys.length:=λh=>Nat.min_eq_left h;have hnB:xs.length≤ys.length->n=xs.length:=λh=>Nat.min_eq_right h;have hn1:n≤ys.length:=Nat.min_le_left _ _;have hn2:n≤xs.length:=Nat.min_le_right _ _;have hnk1:n*k≤news.length:=by rw[hnl];exact Nat.mul_le_mul_right _ hn1
     have hnk2:n*k≤cs.length:=by rw[hcl];exact Nat.mul_le_mul_right _ hn2
     have hcur:cs.length≤cur.size:=by rw[hcl,g5];exact Nat.mul_le_mul_right _ g3
     have hload:(loadCells ⟨bb,o,none⟩ (n*k)).run X.P w=.ok (news.take (n*k)).toArray w:=by
      have:=Qfn (P:=X.P) (b:=bb) (o:=o) (w:=w) (news.take (n*k)) 0 #[] (λj u hj=>by
       rw[List.getElem?_take] at hj;split at hj
       . simpa using h5 j u hj
       . cases hj)
      rw[List.length_take,Nat.min_eq_left hnk1] at this
      simpa [loadCells] using this
     obtain⟨w',cur',r1,r2,r3,r4,r5,r6,r7⟩:=Ql7 (P:=X.P) (b:=g) (o:=0) (E:=E) (news.take (n*k)) 0 w cur g2 (by simp;omega) (λu hu=>Ly.oneCell_of_holds _ _ h6 u (List.mem_of_mem_take hu));have hrun:(execOp a.eval ⟨some d,.call { callee:=.builtin .copy,args:=#[t,s],argTypes:=#[T,T2] },ty,pos,af,none⟩).run X.P w=.ok (.value (.int .i64 (n:Nat))) w':=by simp only[execOp,resolve];simp[invoke,builtin,hvs,h1,Builtin.copy_,underlying,hT,Builtin.lenOf,Builtin.firstCells,hsz,goInt];rw[show(ys.length.min xs.length)=n from rfl,hload];simp[r1]
     unfold Oper.wp;rw[hrun];have hkS:Kp (X.S γ mm) w w':=⟨r4.1,λb hb hn=>r4.2 b hb (λee=>hn (.inr ⟨id,_,_,hm,rfl,e1,by rw[ee];rfl⟩))⟩
     obtain⟨a1,_⟩:=Qea n h6 h7;obtain⟨_,a2⟩:=Qea n e3 e4;have hcl2:(cpyL xs ys).length=xs.length:=by unfold cpyL;simp;omega
     have hcp:cpyL xs ys=ys.take n++xs.drop n:=by
      unfold cpyL;have e5:ys.take xs.length=ys.take n:=by
       rcases Nat.le_total ys.length xs.length with h | h
       . rw[List.take_of_length_le h,List.take_of_length_le (by rw[hnA h];exact Nat.le_refl _)]
       . rw[hnB h]
      have e6:xs.drop ys.length=xs.drop n:=by
       rcases Nat.le_total ys.length xs.length with h | h
       . rw[hnA h]
       . rw[List.drop_of_length_le h,List.drop_of_length_le (by rw[hnB h];exact Nat.le_refl _)]
      rw[e5,e6]
     have hhold:Ly.holds w (X.S γ mm) γ ((cpyL xs ys).map f) (news.take (n*k)++cs.drop (n*k)):=by rw[hcp,List.map_append,List.map_take,List.map_drop];exact Qhv a1 a2
     have htk:(news.take (n*k)).length=n*k:=by simp;omega
     have hcs:cs=cur.toList.take (xs.length*k):=g6.symm;have hcur':cur'.toList.take (xs.length*k)=news.take (n*k)++cs.drop (n*k):=by rw[r3];simp only[splice,Nat.zero_add,List.take_zero,List.nil_append,htk];rw[List.take_append,htk,hcs,List.drop_take];congr 1;exact List.take_of_length_le (by rw[htk,←hcl];exact hnk2)
     have hct:Xu w' (X.S γ mm) γ id (.sl E k ((cpyL xs ys).map f)):=by
      refine⟨_,news.take (n*k)++cs.drop (n*k),e1,⟨?_,.inr ⟨g,cap0,cur',by simp[hcl2],Nat.zero_le _,r2,by simpa [hcl2] using g3,g4,?_,?_⟩⟩,Ly.holds_mono hkS (λb hb=>.inl hb) (Ng.refl _) _ _ hhold,?_⟩
      . simp only[List.length_append,List.length_drop,htk,List.length_map,hcl2];omega
      . have:=congrArg List.length r3
        simp only[splice,Array.length_toList,List.length_append,List.length_take,List.length_drop] at this;rw[←g5];omega
      . rw[List.length_map,hcl2];exact hcur'
      . intro ly hly
        rw[hcp,List.map_append,List.map_take,List.map_drop] at hly;rcases List.mem_append.1 hly with h | h
        . exact h7 ly (List.mem_of_mem_take h)
        . exact e4 ly (List.mem_of_mem_drop h)
     have hinv:=hI.setc r5 r6 r7 hm rfl e1 rfl r4 rfl hct;exact hK _ _ γ (hinv.put (d:=d) (v:=.int .i64 (n:Nat)) (by simpa using hd) ⟨rfl,len64 n (by omega)⟩)
def Plc(P:Program)(T:Nat)(pl:List (Nat×Nat)):Prop:=∃ fs,P.underlying T=some (.struct fs)∧(fs.toList.map λf=>(P.info? f.type).map λi=>(f.offset,i.size))=pl.map some
def BPart(st:Nat->Option Ly)(pl:List (Nat×Nat)):List (Nat×Operand)->Ly->Ly->Prop
 | [],z,r=>z=r
 | (i,x)::ps,z,r=>∃ ly lz off,OpdF st x ly∧ly.lies=true∧Ly.go [i] z=some (lz,off)∧pl[i]?=some (off,lz.sz)∧ly.sz=lz.sz∧BPart st pl ps (Ly.pu ly [i] z) r
theorem Qmx{a w γ pl}(hi:Inv X st mm a w γ):∀(ps:List (Nat×Operand)) (z r:Ly) (cells:Array Value),BPart st pl ps z r->Ly.hold w (X.S γ mm) γ z cells.toList →
 ∃ cells',Instr.fill (pl[·]?) cells (ps.map λ(i,x)=>(i,a.eval x))=some cells'∧Ly.hold w (X.S γ mm) γ r cells'.toList
 | [],z,r,cells,h,hh=>by simp only[BPart] at h;subst h;exact⟨cells,by simp[Instr.fill],hh⟩
 | (i,x)::ps,z,r,cells,h,hh=>by
   obtain⟨ly,lz,off,h1,h2,h3,h4,h5,h6⟩:=h;have hv:=Ly.hold_of_val h2 (h1.val hi);have hvl:(a.eval x).cells.size=lz.sz:=by have:=Ly.hold_sz _ _ hv;rw[h5] at this;simpa using this
   obtain⟨a1,u,b1,hc,hl,hu,hp⟩:=Qkf [i] h3 hh;have hul:=Ly.hold_sz _ _ hu;have hcs:cells.size=a1.length+u.length+b1.length:=by have:=congrArg List.length hc;simpa [Nat.add_assoc] using this
   have hfold:=Q0w (a.eval x).cells.toList cells off 0 (by simp[hvl];omega);simp only[Nat.add_zero,Array.length_toList,hvl] at hfold;let cells1:=((a.eval x).cells.toList.zipIdx 0).foldl (λcs (c,j)=>cs.setIfInBounds (off+j) c) cells;have hc1:cells1.toList=a1++(a.eval x).cells.toList++b1:=by rw[show cells1.toList=cells.toList.take off++(a.eval x).cells.toList++cells.toList.drop (off+lz.sz) from hfold,hc,←hl,←hul];simp
   obtain⟨cells',g1,g2⟩:=Qmx hi ps _ r cells1 h6 (by rw[hc1];exact hp _ _ hv);refine⟨cells',?_,g2⟩;simp only[List.map_cons,Instr.fill,h4];rw[if_neg (by simp[hvl];omega)]
   rw[show(a.eval x).cells.zipIdx.foldl (λcs (c,j)=>cs.setIfInBounds (off+j) c) cells=cells1 by rw[←Array.foldl_toList,Array.toList_zipIdx]]
   exact g1
theorem Qsc{P:Program}{w:World}:∀(fs:List Field) (pl:List (Nat×Nat)),(fs.map λf=>(P.info? f.type).map λi=>(f.offset,i.size))=pl.map some →
 (fs.mapM (λf=>(do pure (f.offset,←sizeOf f.type):Sem (Nat×Nat)))).run P w=.ok pl w
 | [],[],_=>by simp
 | f::fs,(o,s)::pl,h=>by
   simp only[List.map_cons,List.cons.injEq] at h;obtain⟨h1,h2⟩:=h;cases hi:P.info? f.type with
   | none=>rw[hi] at h1;cases h1
   | some i=>
     rw[hi] at h1;simp at h1;obtain⟨rfl,rfl⟩:=h1;have hs:(sizeOf f.type).run P w=.ok i.size w:=by simp[sizeOf,typeInfo,hi]
     simp only[List.mapM_cons,Sem.run_bind,hs,Result.andThen_ok,Sem.run_pure,Qsc fs pl h2]
 | [],_::_,h=>by simp at h
 | _::_,[],h=>by simp at h
theorem bld{d T parts ty pos af pl k b z lz l}(hT:Plc X.P T pl)(hE:TyI X.P T k b z)(hz:Zr lz z.cells.toList)(hp:BPart st pl parts lz (.agg l))(hd:Nat.blt d X.N=true):
 OpOk X st mm ⟨some d,.build T ⟨parts⟩,ty,pos,af,none⟩ [(d,.agg l)] []:=
 Ws hd λa w γ hI=>by
  obtain⟨fs,h1,h2⟩:=hT;obtain⟨cells',g1,g2⟩:=Qmx hI parts lz (.agg l) z.cells hp (hz _ _ _);refine⟨.agg cells',?_,⟨_,rfl,by simpa [Ly.hold] using g2⟩⟩;have hpl:(fs.mapM (λf=>(do pure (f.offset,←sizeOf f.type):Sem (Nat×Nat)))).run X.P w=.ok pl.toArray w:=by
   have e:fs.mapM (λf=>(do pure (f.offset,←sizeOf f.type):Sem (Nat×Nat)))=List.toArray <$> (fs.toList.mapM (λf=>(do pure (f.offset,←sizeOf f.type):Sem (Nat×Nat)))):=by
    conv=>lhs;rw[←Array.toArray_toList (xs:=fs)]
    rw[List.mapM_toArray]
   rw[e];simp only[Sem.run_map,Qsc _ _ h2,Result.andThen_ok]
  simp only[execOp,Instr.build];have hfill:Instr.fill (λi=>pl.toArray[i]?) z.cells (parts.map λ(i,x)=>(i,a.eval x))=some cells':=by simpa using g1
  simp only[Sem.run_bind,Qct hE,Result.andThen_ok,underlying,run_program,h1,Sem.run_pure,hpl];simp only[List.map_toArray,hfill];rfl
end ops
end Go.Proofs.YtlfphifbmoccgaaGreatDoor
