import Derived.Laws.BytesString
import Derived.Laws.BytesArg
import Derived.Lib.ConvBytes
import Derived.Laws.RangeString
import Derived.Lib.AppendStr
import Derived.Lib.Builder
import Derived.Lib.UnsafeStr
import Derived.Scope
import Derived.Test.YtlfphifbmoccgaaGreatDoorSA
namespace Go.Proofs.YtlfphifbmoccgaaGreatDoor
open Go Go.RowKit
section cur
variable {α:Type}
def cur(base:Nat->Option α):List (List (Nat×α))->Nat->(Nat->Bool)->Nat->Option α
 | [],_,_=>base
 | e::es,i,L=>cur (if L i then up base e else base) es (i+1) L
def wr(e:List (Nat×α))(r:Nat):Bool:=(lk e r).isSome
theorem up_nw{st:Nat->Option α}{e r}(h:wr e r=false):up st e r=st r:=by
 unfold wr at h;unfold up;cases hl:lk e r with
 | none=>rfl
 | some x=>rw[hl] at h;cases h
theorem up_w{st st':Nat->Option α}{e r}(h:wr e r=true):up st e r=up st' e r:=by
 unfold wr at h;unfold up;cases hl:lk e r with
 | none=>rw[hl] at h;cases h
 | some x=>rfl
theorem Qxm{L:Nat->Bool}{r:Nat}:∀(es:List (List (Nat×α))) (b b':Nat->Option α) (i:Nat),b r=b' r->cur b es i L r=cur b' es i L r
 | [],b,b',i,h=>h
 | e::es,b,b',i,h=>by
   simp only[cur];apply Qxm es;cases L i
   simpa using h
   simp only[if_true];cases hw:wr e r;rw[up_nw hw,up_nw hw,h];exact up_w hw
theorem Q2n{L:Nat->Bool}{r:Nat}:∀(es:List (List (Nat×α))) (b:Nat->Option α) (i:Nat),(∀ k e,es[k]?=some e->wr e r=true->L (i+k)=false)->cur b es i L r=b r
 | [],b,i,_=>rfl
 | e::es,b,i,h=>by simp only[cur];rw[Q2n es _ (i+1) (λk e' hk hw=>by have:=h (k+1) e' (by simpa using hk) hw;rw[show i+1+k=i+(k+1) by omega];exact this)];cases hL:L i;rfl;simp only[if_true];cases hw:wr e r;exact up_nw hw;have:=h 0 e rfl hw;rw[Nat.add_zero,hL] at this;cases this
theorem cur_L{r:Nat}:∀(es:List (List (Nat×α))) (b:Nat->Option α) (i:Nat) (L L':Nat->Bool),(∀ k e,es[k]?=some e->wr e r=true->L (i+k)=L' (i+k))->cur b es i L r=cur b es i L' r
 | [],b,i,L,L',_=>rfl
 | e::es,b,i,L,L',h=>by simp only[cur];rw[cur_L es _ (i+1) L L' (λk e' hk hw=>by have:=h (k+1) e' (by simpa using hk) hw;rw[show i+1+k=i+(k+1) by omega];exact this)];apply Qxm;cases hw:wr e r;cases L i<;>cases L' i<;>simp[up_nw hw];have:=h 0 e rfl hw;rw[Nat.add_zero] at this;rw[this]
theorem Qzd{r:Nat}:∀(es:List (List (Nat×α))) (b:Nat->Option α) (i j:Nat) (L L':Nat->Bool) (ej:List (Nat×α)),es[j]?=some ej->L' (i+j)=true->(∀ k,k≠i+j->L' k=L k)->L (i+j)=false →
 (∀ k e,es[k]?=some e->j<k->wr ej r=true->wr e r=true->L (i+k)=false)->cur b es i L' r=up (cur b es i L) ej r
 | [],_,_,j,_,_,_,h,_,_,_,_=>by simp at h
 | e::es,b,i,0,L,L',ej,h,h1,h2,h3,h4=>by
   simp at h;subst h;simp only[Nat.add_zero] at h1 h3;simp only[cur,h1,h3,if_true];have e1:∀ b',cur b' es (i+1) L' r=cur b' es (i+1) L r:=λb'=>cur_L es b' (i+1) L' L (λk _ _ _=>h2 _ (by omega));rw[e1];cases hw:wr e r;rw[up_nw hw];exact Qxm es _ _ _ (up_nw hw)
   have hn:∀ b',cur b' es (i+1) L r=b' r:=λb'=>Q2n es b' (i+1) (λk e' hk hw'=>by
    have:=h4 (k+1) e' (by simpa using hk) (by omega) hw hw'
    rw[show i+1+k=i+(k+1) by omega];exact this)
   rw[hn];exact up_w hw
 | e::es,b,i,j+1,L,L',ej,h,h1,h2,h3,h4=>by
   simp only[cur];have e0:L' i=L i:=h2 i (by omega);rw[e0]
   exact Qzd es _ (i+1) j L L' ej (by simpa using h) (by rw[show i+1+j=i+(j+1) by omega];exact h1) (λk hk=>h2 k (by omega)) (by rw[show i+1+j=i+(j+1) by omega];exact h3)
    (λk e' hk hjk hw hw'=>by have:=h4 (k+1) e' (by simpa using hk) (by omega) hw hw';rw[show i+1+k=i+(k+1) by omega];exact this)
theorem Qwv{r:Nat}(L:Nat->Bool):∀(es:List (List (Nat×α))) (b:Nat->Option α) (i j:Nat),(∀ k e,es[k]?=some e->wr e r=true->k<j->L (i+k)=true)->(∀ k e,es[k]?=some e->wr e r=true->j≤k->L (i+k)=false) →
 cur b es i L r=cur b (es.take j) i (λ_=>true) r
 | [],b,i,j,_,_=>by simp[cur]
 | e::es,b,i,0,h1,h2=>by simp only[List.take_zero];rw[Q2n (e::es) b i (λk e' hk hw=>h2 k e' hk hw (Nat.zero_le _))];rfl
 | e::es,b,i,j+1,h1,h2=>by
   simp only[List.take_succ_cons,cur,if_true]
   rw[Qwv L es _ (i+1) j (λk e' hk hw hlt=>by have:=h1 (k+1) e' (by simpa using hk) hw (by omega);rw[show i+1+k=i+(k+1) by omega];exact this)
    (λk e' hk hw hle=>by have:=h2 (k+1) e' (by simpa using hk) hw (by omega);rw[show i+1+k=i+(k+1) by omega];exact this)]
   apply Qxm;cases hL:L i;cases hw:wr e r;simp[up_nw hw];have:=h1 0 e rfl hw (by omega);rw[Nat.add_zero,hL] at this;cases this;simp
end cur
structure D where
 rs:List Nat
 ri:List Nat
 el:List (Nat×Ly)
 em:List (Nat×Ct)
def Ag{α:Type}(st st0:Nat->Option α):List Nat->Prop
 | []=>True
 | d::r=>st d=st0 d∧Ag st st0 r
theorem Ag.of{α:Type}{st st0:Nat->Option α}:∀ {l:List Nat},(∀ d∈l,st d=st0 d)->Ag st st0 l
 | [],_=>trivial
 | d::_,h=>⟨h d List.mem_cons_self,Ag.of (λx hx=>h x (List.mem_cons_of_mem _ hx))⟩
def OpG(X:Cx)(ops:Array Oper)(st:Nat->Option Ly)(mm:Nat->Option Ct)(o:Oper)(el:List (Nat×Ly))(em:List (Nat×Ct)):Prop:=
 ∀ a w γ K Q,Inv X st mm a w γ->(∀ a' w' γ',Inv X (up st el) (up mm em) a' w' γ'->K a' w')->if Region.wanted o (yielded ops a.tmps) then o.wp X.P a w K Q else K (a.put o.dst undef) w
def Qk1(X:Cx)(ops:Array Oper):List (Nat×Ly)->List (Nat×Ct)->List Oper->List D->Prop
 | _,_,[],[]=>True
 | l,m,o::os,d::ds=>(∀ st mm,Ag st (lk l) d.rs->Ag mm (lk m) d.ri->OpG X ops st mm o d.el d.em)∧Qk1 X ops (d.el++l) (d.em++m) os ds
 | _,_,_,_=>False
def prs(o:Oper):List Nat:=(o.after.toList.filter (Region.binds .any)).map (·.on)
def anyB(l:List Nat)(j:Nat):Bool:=l.any (Nat.beq j)
def wrAny{α:Type}(l:List (Nat×α))(rs:List Nat):Bool:=rs.any λr=>wr l r
def cf(dj di:D):Bool:=wrAny dj.el di.rs || wrAny di.el dj.rs || wrAny dj.el (di.el.map (·.1)) || wrAny dj.em di.ri || wrAny di.em dj.ri || wrAny dj.em (di.em.map (·.1))
def rowOk(pi:List Nat)(di:D):Nat->List D->Bool
 | _,[]=>true
 | j,dj::ds=>(!(cf dj di) || anyB pi j) && rowOk pi di (j+1) ds
def far(an:List (List Nat))(o:Oper):List Nat:=prs o++(prs o).flatMap (λp=>an.getD p [])
def drawOk:List Oper->List D->Nat->List D->List (List Nat)->Bool
 | [],[],_,_,_=>true
 | o::os,d::ds,i,before,an=>(prs o).all (λp=>Nat.blt p i) && rowOk (far an o) d 0 before && drawOk os ds (i+1) (before++[d]) (an++[far an o])
 | _,_,_,_,_=>false
inductive Anc (ls:List Oper):Nat->Nat->Prop
 | one {j i o}:ls[i]?=some o->j∈prs o->Anc ls j i
 | far {j p i o}:ls[i]?=some o->p∈prs o->Anc ls j p->Anc ls j i
theorem Anc.listed{ls:List Oper}{listed:Array Bool}(hcl:∀ i o,ls[i]?=some o->listed.getD i false=true->∀ p∈prs o,listed.getD p false=true){j i:Nat}(h:Anc ls j i):listed.getD i false=true->listed.getD j false=true:=by
 induction h with
 | one h1 h2=>intro h;exact hcl _ _ h1 h _ h2
 | far h1 h2 _ ih=>intro h;exact ih (hcl _ _ h1 h _ h2)
theorem Q9w{l:List Nat}{j:Nat}(h:anyB l j=true):j∈l:=by unfold anyB at h;obtain⟨x,hx,he⟩:=List.any_eq_true.1 h;rw[Nat.eq_of_beq_eq_true he];exact hx
theorem Qg9{α:Type}{l:List (Nat×α)}{rs:List Nat}(h:wrAny l rs=false):∀ r∈rs,wr l r=false:=by intro r hr;unfold wrAny at h;cases hw:wr l r;rfl;have:(rs.any λr=>wr l r)=true:=List.any_eq_true.2 ⟨r,hr,hw⟩;rw[this] at h;cases h
theorem Ja4{α:Type}:∀ {l:List (Nat×α)}{r x},lk l r=some x->(r,x)∈l:=by
        intro l
        induction l with
        | nil=>intro r x h;cases h
        | cons e l ih=>
          obtain⟨i,y⟩:=e;intro r x h;simp only[lk] at h;cases hb:Nat.beq i r;rw[hb] at h;exact List.mem_cons_of_mem _ (ih h);rw[hb] at h;simp at h;subst h;rw[Nat.eq_of_beq_eq_true hb];exact List.mem_cons_self
theorem Q7m{α:Type}{l:List (Nat×α)}{r:Nat}(h:wr l r=true):r∈l.map (·.1):=by
 unfold wr at h;cases hl:lk l r with
 | none=>rw[hl] at h;cases h
 | some x=>exact List.mem_map.2 ⟨(r,x),Ja4 hl,rfl⟩
structure Q0x(ops:List Oper)(ds:List D):Prop where
 len:ops.length=ds.length
 back:∀ i o,ops[i]?=some o->∀ p∈prs o,p<i
 pair:∀(i j:Nat) o di dj,ops[i]?=some o->ds[i]?=some di->ds[j]?=some dj->j<i->Anc ops j i∨cf dj di=false
theorem Q0y{pi di}:∀ {ds:List D}{j0:Nat},rowOk pi di j0 ds=true->∀ j dj,ds[j]?=some dj->j0+j∈pi∨cf dj di=false
 | [],_,_,j,dj,h=>by simp at h
 | d::ds,j0,hr,0,dj,h=>by simp only[rowOk,Bool.and_eq_true,Bool.or_eq_true,Bool.not_eq_true'] at hr;simp at h;subst h;exact orM hr.1.symm (λh=>Q9w h) (λh=>h)
 | d::ds,j0,hr,j+1,dj,h=>by simp only[rowOk,Bool.and_eq_true] at hr;have:=Q0y hr.2 j dj (by simpa using h);rw[show j0+(j+1)=j0+1+j by omega];exact this
theorem Ja5{ls:List Oper}{an:List (List Nat)}(han:∀ k l,an[k]?=some l->∀ j∈l,Anc ls j k){i o}(ho:ls[i]?=some o):∀ j∈far an o,Anc ls j i:=by
 intro j hj;rcases List.mem_append.1 hj with h | h;exact .one ho h;obtain⟨p,hp,hjp⟩:=List.mem_flatMap.1 h;rw[List.getD_eq_getElem?_getD] at hjp;cases hl:an[p]? with
 | none=>rw[hl] at hjp;simp at hjp
 | some l=>rw[hl] at hjp;exact .far ho hp (han p l hl j hjp)
theorem Qtt{ls:List Oper}:∀(ops:List Oper) (ds:List D) (i:Nat) (before:List D) (an:List (List Nat)),before.length=i->an.length=i->(∀ k o,ops[k]?=some o->ls[i+k]?=some o)->(∀ k l,an[k]?=some l->∀ j∈l,Anc ls j k)->drawOk ops ds i before an=true →
 ops.length=ds.length∧(∀ k o,ops[k]?=some o->∀ p∈prs o,p<i+k)∧(∀(k j:Nat) o di dj,ops[k]?=some o->ds[k]?=some di->(before++ds)[j]?=some dj->j<i+k->Anc ls j (i+k)∨cf dj di=false)
 | [],[],i,before,an,_,_,_,_,_=>⟨rfl,λk o h=>by simp at h,λk j o di dj h=>by simp at h⟩
 | o::os,d::ds,i,before,an,hb,ha,hls,han,h=>by
   simp only[drawOk,Bool.and_eq_true] at h;obtain⟨⟨h1,h2⟩,h3⟩:=h;have ho:ls[i]?=some o:=by have:=hls 0 o rfl;simpa using this
   have hfar:=Ja5 han ho
   obtain⟨g1,g2,g3⟩:=Qtt os ds (i+1) (before++[d]) (an++[far an o]) (by simp[hb]) (by simp[ha])
    (λk o' hk=>by rw[show i+1+k=i+(k+1) by omega];exact hls (k+1) o' (by simpa using hk))
    (λk l hk=>by
     rcases Nat.lt_or_ge k an.length with h | h;rw[List.getElem?_append_left h] at hk;exact han k l hk;rw[List.getElem?_append_right h] at hk;have:k=i:=by rcases Nat.eq_or_lt_of_le h with h | h;omega;rw[List.getElem?_eq_none (by simp;omega)] at hk;cases hk
     subst this;rw[ha,Nat.sub_self] at hk
     simp at hk;subst hk;exact hfar) h3
   refine⟨by simp[g1],λk o' hk p hp=>?_,λk j o' di dj hk hdi hdj hlt=>?_⟩;cases k with
   | zero=>simp at hk;subst hk;have:=List.all_eq_true.1 h1 p hp;simpa using this
   | succ k=>have:=g2 k o' (by simpa using hk) p hp;omega
   cases k with
   | zero=>
     simp at hk hdi;subst hk;subst hdi;have:=Q0y h2 j dj (by rw[List.getElem?_append_left (by omega)] at hdj;exact hdj);rw[Nat.zero_add] at this;exact orM this (λh=>hfar j h) (λh=>h)
   | succ k=>
     have:=g3 k j o' di dj (by simpa using hk) (by simpa using hdi) (by simpa using hdj) (by omega);rw[show i+1+k=i+(k+1) by omega] at this;exact this
 | [],_::_,_,_,_,_,_,_,_,h=>by simp[drawOk] at h
 | _::_,[],_,_,_,_,_,_,_,h=>by simp[drawOk] at h
theorem Q0z{X:Cx}{ops:Array Oper}:∀ {os:List Oper}{ds:List D}{l m},Qk1 X ops l m os ds->∀ j o d,os[j]?=some o->ds[j]?=some d →
 ∀ st mm,Ag st (cur (lk l) ((ds.map (·.el)).take j) 0 (λ_=>true)) d.rs->Ag mm (cur (lk m) ((ds.map (·.em)).take j) 0 (λ_=>true)) d.ri->OpG X ops st mm o d.el d.em
 | [],[],_,_,_,j,o,d,h,_=>by simp at h
 | o::os,d::ds,l,m,hs,0,o',d',h1,h2=>by simp at h1 h2;subst h1;subst h2;intro st mm h3 h4;exact hs.1 st mm (by simpa [cur] using h3) (by simpa [cur] using h4)
 | o::os,d::ds,l,m,hs,j+1,o',d',h1,h2=>by
   intro st mm h3 h4;have shift:∀ {α:Type}(es:List (List (Nat×α))) (b:Nat->Option α) (i i':Nat),cur b es i (λ_=>true)=cur b es i' (λ_=>true):=by
    intro α es
    induction es with
    | nil=>intro b i i';rfl
    | cons e es ih=>intro b i i';simp only[cur,if_true];exact ih _ _ _
   refine Q0z hs.2 j o' d' (by simpa using h1) (by simpa using h2) st mm ?_ ?_;simp only[List.map_cons,List.take_succ_cons,cur,if_true,up_lk] at h3;rw[shift _ _ 0 (0+1)];exact h3;simp only[List.map_cons,List.take_succ_cons,cur,if_true,up_lk] at h4;rw[shift _ _ 0 (0+1)];exact h4
 | [],_::_,_,_,h,_,_,_,_,_=>h.elim
 | _::_,[],_,_,h,_,_,_,_,_=>h.elim
def fin{α:Type}:List (List (Nat×α))->List (Nat×α)->List (Nat×α)
 | [],l=>l
 | e::es,l=>fin es (e++l)
theorem Qze{α:Type}:∀(es:List (List (Nat×α))) (l:List (Nat×α)) (i:Nat) (L:Nat->Bool),(∀ k,k<es.length->L (i+k)=true)->cur (lk l) es i L=lk (fin es l)
 | [],l,_,_,_=>rfl
 | e::es,l,i,L,h=>by simp only[cur,fin];have h0:=h 0 (by simp);rw[Nat.add_zero] at h0;simp only[h0,if_true];rw[up_lk,Qze es _ (i+1) L (λk hk=>by rw[show i+1+k=i+(k+1) by omega];exact h (k+1) (by simpa using hk))]
theorem Q59{X:Cx}{ls:List Oper}{ds:List D}{l m}(hD:Q0x ls ds)(hS:Qk1 X ⟨ls⟩ l m ls ds){Q:Exit->Act->World->Prop}
 (hQ:∀ a w γ,Inv X (lk (fin (ds.map (·.el)) l)) (lk (fin (ds.map (·.em)) m)) a w γ->Q .normal a w) :
 ∀(fuel:Nat) (listed:Array Bool) (a:Act) (w:World) (γ:Nm),listed.size=ls.length->(listed.toList.filter (!·)).length≤fuel->(∀ i o,ls[i]?=some o->listed.getD i true=true->∀ p∈prs o,listed.getD p false=true) →
  Inv X (cur (lk l) (ds.map (·.el)) 0 (λi=>listed.getD i false)) (cur (lk m) (ds.map (·.em)) 0 (λi=>listed.getD i false)) a w γ →
  wpAny X.P .any ⟨ls⟩ Q fuel listed a w:=by
 have all_listed:∀(listed:Array Bool),listed.size=ls.length->Region.ready .any ⟨ls⟩ listed=[]->∀ i,i<ls.length->listed.getD i false=true:=by
  intro listed hsz hr i
  induction i using Nat.strongRecOn with
  | _ i ih=>
    intro hi;cases hl:listed.getD i false with
    | true=>rfl
    | false=>
      exfalso;have hmem:i∈Region.ready .any ⟨ls⟩ listed:=by
       rw[mem_ready];refine⟨?_,ls[i],by simp[hi],λe he hb=>?_⟩
       . have hi':i<listed.size:=by omega
         simp only[Array.getD_eq_getD_getElem?,Array.getElem?_eq_getElem hi',Option.getD_some] at hl ⊢;exact hl
       . have hp:e.on∈prs ls[i]:=List.mem_map.2 ⟨e,List.mem_filter.2 ⟨by simpa using he,hb⟩,rfl⟩
         have hlt:=hD.back i ls[i] (by simp[hi]) e.on hp;exact ih e.on hlt (by omega)
      rw[hr] at hmem;cases hmem
 have done:∀(listed:Array Bool) (a:Act) (w:World) (γ:Nm),listed.size=ls.length->Region.ready .any ⟨ls⟩ listed=[]->Inv X (cur (lk l) (ds.map (·.el)) 0 (λi=>listed.getD i false)) (cur (lk m) (ds.map (·.em)) 0 (λi=>listed.getD i false)) a w γ->Q .normal a w:=by intro listed a w γ hsz hr hi;have h:=all_listed listed hsz hr;have hlen:=hD.len;rw[Qze _ l 0 _ (λk hk=>by rw[Nat.zero_add];exact h k (by simp at hk;omega)),Qze _ m 0 _ (λk hk=>by rw[Nat.zero_add];exact h k (by simp at hk;omega))] at hi;exact hQ a w γ hi
 intro fuel
 induction fuel with
 | zero=>
   intro listed a w γ hsz hc hcl hi;have hr:Region.ready .any ⟨ls⟩ listed=[]:=by
    cases hrd:Region.ready .any ⟨ls⟩ listed with
    | nil=>rfl
    | cons i r=>
      exfalso;have hmem:i∈Region.ready .any ⟨ls⟩ listed:=by rw[hrd];exact List.mem_cons_self
      rw[mem_ready] at hmem;obtain⟨h1,_⟩:=hmem;have hi':i<listed.size:=by
       rcases Nat.lt_or_ge i listed.size with h | h
       . exact h
       . simp[Array.getElem?_eq_none h] at h1
      have:false∈listed.toList.filter (!·):=List.mem_filter.2 ⟨by
       have:=Array.getElem_mem hi';simp only[Array.getD_eq_getD_getElem?,Array.getElem?_eq_getElem hi',Option.getD_some] at h1
       rw[h1] at this;simpa using this,rfl⟩
      have hnil:listed.toList.filter (!·)=[]:=List.eq_nil_of_length_eq_zero (by omega);rw[hnil] at this;cases this
   exact⟨hr,done listed a w γ hsz hr hi⟩
 | succ fuel ih=>
   intro listed a w γ hsz hc hcl hi;refine⟨λhr=>done listed a w γ hsz hr hi,λj hj=>?_⟩;rw[mem_ready] at hj;obtain⟨hj1,o,ho,hpre⟩:=hj;have ho':ls[j]?=some o:=by simpa using ho
   have hjl:j<ls.length:=by
    rcases Nat.lt_or_ge j ls.length with h | h
    . exact h
    . simp[List.getElem?_eq_none h] at ho'
   have hjs:j<listed.size:=by omega
   have hj0:listed.getD j false=false:=by simp only[Array.getD_eq_getD_getElem?,Array.getElem?_eq_getElem hjs,Option.getD_some] at hj1 ⊢;exact hj1
   obtain⟨d,hd⟩:∃ d,ds[j]?=some d:=⟨_,List.getElem?_eq_getElem (by rw[←hD.len];exact hjl)⟩
   have hprs:∀ p∈prs o,listed.getD p false=true:=by intro p hp;obtain⟨e,he,rfl⟩:=List.mem_map.1 hp;obtain⟨he1,he2⟩:=List.mem_filter.1 he;exact hpre e (by simpa using he1) he2
   have hcl':∀ i o,ls[i]?=some o->listed.getD i false=true->∀ p∈prs o,listed.getD p false=true:=by
    intro k o' hk hl;refine hcl k o' hk ?_;have:k<listed.size:=by
     rcases Nat.lt_or_ge k listed.size with h | h
     . exact h
     . simp[Array.getElem?_eq_none h] at hl
    simp only[Array.getD_eq_getD_getElem?,Array.getElem?_eq_getElem this,Option.getD_some] at hl ⊢;exact hl
   have later:∀ k o',ls[k]?=some o'->j∈prs o'->listed.getD k false=false:=by
    intro k o' hk hjp;cases hl:listed.getD k false with
    | false=>rfl
    | true=>
      have hk':listed.getD k true=true:=by
       have:k<listed.size:=by
        rcases Nat.lt_or_ge k listed.size with h | h
        . exact h
        . simp[Array.getElem?_eq_none h] at hl
       simp only[Array.getD_eq_getD_getElem?,Array.getElem?_eq_getElem this,Option.getD_some] at hl ⊢;exact hl
      have:=hcl k o' hk hk' j hjp;rw[hj0] at this;cases this
   have prOk:∀ k dk,ds[k]?=some dk->k<j->listed.getD k false=true∨(wrAny dk.el d.rs || wrAny d.el dk.rs || wrAny dk.el (d.el.map (·.1)) || wrAny dk.em d.ri || wrAny d.em dk.ri || wrAny dk.em (d.em.map (·.1)))=false:=by
    intro k dk hk hlt;rcases hD.pair j k o d dk ho' hd hk hlt with h | h
    . refine .inl ?_
      cases h with
      | one e1 e2=>rw[ho'] at e1;cases e1;exact hprs k e2
      | far e1 e2 e3=>rw[ho'] at e1;cases e1;exact e3.listed hcl' (hprs _ e2)
    . exact .inr h
   have poOk:∀ k dk,ds[k]?=some dk->j<k->listed.getD k false=false∨(wrAny d.el dk.rs || wrAny dk.el d.rs || wrAny d.el (dk.el.map (·.1)) || wrAny d.em dk.ri || wrAny dk.em d.ri || wrAny d.em (dk.em.map (·.1)))=false:=by
    intro k dk hk hlt;have hkl:k<ls.length:=by
     rw[hD.len];rcases Nat.lt_or_ge k ds.length with h | h
     . exact h
     . simp[List.getElem?_eq_none h] at hk
    rcases hD.pair k j ls[k] dk d (by simp[hkl]) hk hd hlt with h | h
    . refine .inl ?_
      cases hl:listed.getD k false with
      | false=>rfl
      | true=>have:=h.listed hcl' hl;rw[hj0] at this;cases this
    . exact .inr h
   have mapget:∀ {β:Type}(g:D->β) (k:Nat) (b:β),(ds.map g)[k]?=some b->∃ dk,ds[k]?=some dk∧g dk=b:=by intro β g k b h;simp only[List.getElem?_map,Option.map_eq_some_iff] at h;exact h
   have hrs:Ag (cur (lk l) (ds.map (·.el)) 0 (λi=>listed.getD i false)) (cur (lk l) ((ds.map (·.el)).take j) 0 (λ_=>true)) d.rs:=Ag.of λr hr=>by
    refine Qwv _ _ _ 0 j (λk e hk hw hlt=>?_) (λk e hk hw hle=>?_)
    . obtain⟨dk,hdk,rfl⟩:=mapget _ k e hk
      rw[Nat.zero_add];rcases prOk k dk hdk hlt with h | h
      . exact h
      . simp only[Bool.or_eq_false_iff] at h
        have:=Qg9 h.1.1.1.1.1 r hr;rw[this] at hw;cases hw
    . obtain⟨dk,hdk,rfl⟩:=mapget _ k e hk
      rw[Nat.zero_add];rcases Nat.eq_or_lt_of_le hle with rfl | hlt
      . exact hj0
      . rcases poOk k dk hdk hlt with h | h
        . exact h
        . simp only[Bool.or_eq_false_iff] at h
          have:=Qg9 h.1.1.1.1.2 r hr;rw[this] at hw;cases hw
   have hri:Ag (cur (lk m) (ds.map (·.em)) 0 (λi=>listed.getD i false)) (cur (lk m) ((ds.map (·.em)).take j) 0 (λ_=>true)) d.ri:=Ag.of λr hr=>by
    refine Qwv _ _ _ 0 j (λk e hk hw hlt=>?_) (λk e hk hw hle=>?_)
    . obtain⟨dk,hdk,rfl⟩:=mapget _ k e hk
      rw[Nat.zero_add];rcases prOk k dk hdk hlt with h | h
      . exact h
      . simp only[Bool.or_eq_false_iff] at h
        have:=Qg9 h.1.1.2 r hr;rw[this] at hw;cases hw
    . obtain⟨dk,hdk,rfl⟩:=mapget _ k e hk
      rw[Nat.zero_add];rcases Nat.eq_or_lt_of_le hle with rfl | hlt
      . exact hj0
      . rcases poOk k dk hdk hlt with h | h
        . exact h
        . simp only[Bool.or_eq_false_iff] at h
          have:=Qg9 h.1.2 r hr;rw[this] at hw;cases hw
   have hop:=Q0z hS j o d ho' hd _ _ hrs hri;have hset:∀ k,(listed.setIfInBounds j true).getD k false=if k=j then true else listed.getD k false:=by
    intro k;by_cases hkj:k=j
    . subst hkj;simp[hjs]
    . simp[hkj,Array.getElem?_setIfInBounds_ne (Ne.symm hkj)]
   have hcl2:∀ i o,ls[i]?=some o->(listed.setIfInBounds j true).getD i true=true->∀ p∈prs o,(listed.setIfInBounds j true).getD p false=true:=by
    intro i o' hi' hli p hp;rw[hset];split
    . rfl
    . by_cases hij:i=j
      . subst hij;rw[ho'] at hi';cases hi';exact hprs p hp
      . refine hcl i o' hi' ?_ p hp
        simpa [Array.getElem?_setIfInBounds_ne (Ne.symm hij)] using hli
   have hcnt:((listed.setIfInBounds j true).toList.filter (!·)).length≤fuel:=by
    rw[Array.toList_setIfInBounds];have key:∀(L:List Bool) (j:Nat),L[j]?=some false->((L.set j true).filter (!·)).length+1=(L.filter (!·)).length:=by
     intro L
     induction L with
     | nil=>intro j h;simp at h
     | cons b L ih=>
       intro j h;cases j with
       | zero=>simp at h;subst h;simp
       | succ j=>
         have:=ih j (by simpa using h);cases b<;>simp at this ⊢<;>omega
    have:=key listed.toList j (by
     rw[Array.getElem?_toList,Array.getElem?_eq_getElem hjs];simp only[Array.getD_eq_getD_getElem?,Array.getElem?_eq_getElem hjs,Option.getD_some] at hj0
     rw[hj0])
    omega
   have hst:cur (lk l) (ds.map (·.el)) 0 (λi=>(listed.setIfInBounds j true).getD i false)=up (cur (lk l) (ds.map (·.el)) 0 (λi=>listed.getD i false)) d.el:=by
    funext r;refine Qzd _ _ 0 j _ _ d.el (by simp[hd]) (by rw[Nat.zero_add];simp[hset]) (λk hk=>by rw[Nat.zero_add] at hk;simp[hset,hk]) (by rw[Nat.zero_add];exact hj0) (λk e hk hjk hw hw'=>?_);obtain⟨dk,hdk,rfl⟩:=mapget _ k e hk;rw[Nat.zero_add];rcases poOk k dk hdk hjk with h | h
    . exact h
    . simp only[Bool.or_eq_false_iff] at h
      have:=Qg9 h.1.1.1.2 r (Q7m hw');rw[this] at hw;cases hw
   have hmt:cur (lk m) (ds.map (·.em)) 0 (λi=>(listed.setIfInBounds j true).getD i false)=up (cur (lk m) (ds.map (·.em)) 0 (λi=>listed.getD i false)) d.em:=by
    funext r;refine Qzd _ _ 0 j _ _ d.em (by simp[hd]) (by rw[Nat.zero_add];simp[hset]) (λk hk=>by rw[Nat.zero_add] at hk;simp[hset,hk]) (by rw[Nat.zero_add];exact hj0) (λk e hk hjk hw hw'=>?_);obtain⟨dk,hdk,rfl⟩:=mapget _ k e hk;rw[Nat.zero_add];rcases poOk k dk hdk hjk with h | h
    . exact h
    . simp only[Bool.or_eq_false_iff] at h
      have:=Qg9 h.2 r (Q7m hw');rw[this] at hw;cases hw
   have goon:∀ a' w' γ',Inv X (up (cur (lk l) (ds.map (·.el)) 0 (λi=>listed.getD i false)) d.el) (up (cur (lk m) (ds.map (·.em)) 0 (λi=>listed.getD i false)) d.em) a' w' γ'->wpAny X.P .any ⟨ls⟩ Q fuel (listed.setIfInBounds j true) a' w':=by intro a' w' γ' hi';exact ih _ a' w' γ' (by simpa using hsz) hcnt hcl2 (by rw[hst,hmt];exact hi')
   have:=hop a w γ (wpAny X.P .any ⟨ls⟩ Q fuel (listed.setIfInBounds j true)) Q hi goon;unfold wpOp;rw[ho];split at this
   . rename_i hw;simp only[hw,if_true];exact .inl this
   . rename_i hw;simp only[hw];exact this
theorem sdrawA{R:Type}{X:Cx}{l m}{md:Option R}{Q:R->Exit->Act->World->Prop}{ls:List Oper}(ds:List D)(hD:drawOk ls ds 0 [] []=true)(hS:Qk1 X ⟨ls⟩ l m ls ds)
 (k:Sq X (fin (ds.map (·.el)) l) (fin (ds.map (·.em)) m) md (λr=>Q r .normal)):Sq X l m md (λr a w=>wpAny X.P .any ⟨ls⟩ (Q r) ls.length (Array.replicate ls.length false) a { w with drawn:=w.drawn+1 }):=by
 intro r a w γ hr hi;obtain⟨h1,h2,h3⟩:=Qtt (ls:=ls) ls ds 0 [] [] rfl rfl (λk o h=>by rw[Nat.zero_add];exact h) (λk l h=>by simp at h) hD;have hDF:Q0x ls ds:=⟨h1,λi o ho p hp=>by have:=h2 i o ho p hp;omega,λi j o di dj ho hdi hdj hlt=>by have:=h3 i j o di dj ho hdi (by simpa using hdj) (by omega);rw[Nat.zero_add] at this;exact this⟩
 have hi':Inv X (lk l) (lk m) a { w with drawn:=w.drawn+1 } γ:=hi.ext (w':={ w with drawn:=w.drawn+1 }) rfl rfl rfl ⟨Nat.le_refl _,λ_ _ _=>rfl⟩;refine Q59 hDF hS (λa w γ h=>k r a w γ hr h) _ _ a _ γ (by simp) (by simp) (λi o ho hl=>?_) ?_;have hlt:i<ls.length:=by rcases Nat.lt_or_ge i ls.length with h | h;exact h;simp[List.getElem?_eq_none h] at ho
 simp[hlt] at hl;have e1:(λi=>(Array.replicate ls.length false).getD i false)=λ_=>false:=by funext i;by_cases h:i<ls.length<;>simp[h]
 have e2:∀ {α:Type}(es:List (List (Nat×α))) (b:Nat->Option α) (i:Nat),cur b es i (λ_=>false)=b:=by
  intro α es
  induction es with
  | nil=>intro b i;rfl
  | cons e es ih=>intro b i;simp[cur,ih]
 show Inv X (cur _ _ 0 (λi=>(Array.replicate ls.length false).getD i false)) (cur _ _ 0 (λi=>(Array.replicate ls.length false).getD i false)) _ _ _;rw[e1,e2,e2];exact hi'
section
variable {X:Cx}{st:Nat->Option Ly}{mm:Nat->Option Ct}{ops:Array Oper}
theorem og{d op ty pos after el em}(h:OpOk X st mm ⟨d,op,ty,pos,after,none⟩ el em):OpG X ops st mm ⟨d,op,ty,pos,after,none⟩ el em:=by intro a w γ K Q hi hK;rw[if_pos (by simp[Region.wanted])];exact h a w γ K Q hi hK
theorem ogG{d op ty pos after j b el em}(dj:Nat)(hj:((ops[j]?).bind (·.dst))=some dj)(hv:st dj=some (bl b))(h:OpOk X st mm ⟨d,op,ty,pos,after,none⟩ el em):OpG X ops st mm ⟨d,op,ty,pos,after,some (j,b)⟩ el em:=by intro a w γ K Q hi hK;rw[if_pos (by simp[Region.wanted,Qkz hi hj hv])];exact h a w γ K Q hi hK
theorem okb{o d b c em}(hb:b=c)(h:OpOk X st mm o [(d,bl b)] em):OpOk X st mm o [(d,bl c)] em:=hb ▸ h
end
section
variable {R:Type}{X:Cx}{l:List (Nat×Ly)}{m:List (Nat×Ct)}{md:Option R}{G:R->Act->World->Prop}
theorem sbn{α:Type}{F:α->Ly}{x:α}{k:α->Option R}(d:Nat)(hd:lk l d=some (F x))(h:∀ y,Sq X ((d,F y)::l) m (k y) G):Sq X l m ((some x).bind k) G:=by
 refine sent (λa w γ hi=>⟨γ,{ hi with sts:=λi ly h=>hi.sts i ly (by
  simp only[lk] at h;cases e:Nat.beq d i;rw[e] at h;exact h
  rw[e] at h;rw[←Nat.eq_of_beq_eq_true e,hd];exact h) }⟩) (h x)
end
section ops
variable {X:Cx}{st:Nat->Option Ly}{mm:Nat->Option Ct}
theorem kLm{α:Type}(f:α->Ly){k}:OpdF st (.const (.slice none 0 0)) (sli k (List.map f [])):=λ_ _ _=>.inl ⟨rfl,rfl⟩
theorem stB2{x y T ty pos af ag k lx id E ly lz ln ly2 off}(p:List Nat)(hpu:Ly.pu ln p ly=ly2)(hm:mm id=some (.bx E ly))(hg:Ly.go p ly=some (lz,off))(hT:Shp X.P T ag k)(hz:lz.sz=k)(hnz:ln.sz=k)(hnl:ln.lies=true)
 (hx:OpdF st x lx) (ho:OwnP mm lx id off) (hy:OpdF st y ln) :
 OpOk X st mm ⟨none,.store T x y,ty,pos,af,none⟩ [] [(id,.bx E ly2)]:=hpu ▸ stB p hm hg hT hz hnz hnl hx ho hy
theorem Q5j{d o x y T T2 ty pos af p q b}(h:∀ w,(binOp o T (.bool p) (.bool q)).run X.P w=.ok (.bool b) w)(hd:Nat.blt d X.N=true)(hx:OpdF st x (bl p))(hy:OpdF st y (bl q)):
 OpOk X st mm ⟨some d,.binOp o T x y T2,ty,pos,af,none⟩ [(d,bl b)] []:=
 Qi9 hd hx hy λw S γ vx vy h1 h2=>by simp only[bl,Ly.val,cpB] at h1 h2;subst h1;subst h2;exact⟨_,λw=>by cases o<;>simp[eqGuard],h,by simp[bl,Ly.val,cpB]⟩
theorem eqB{d x y T T2 ty pos af p q}(hT:X.P.underlying T=some .bool)(hd:Nat.blt d X.N=true)(hx:OpdF st x (bl p))(hy:OpdF st y (bl q)):
 OpOk X st mm ⟨some d,.binOp .eql T x y T2,ty,pos,af,none⟩ [(d,bl (p == q))] []:=Q5j (λw=>by simp[binOp,run_equal_bool w T p q hT]) hd hx hy
theorem neB{d x y T T2 ty pos af p q}(hT:X.P.underlying T=some .bool)(hd:Nat.blt d X.N=true)(hx:OpdF st x (bl p))(hy:OpdF st y (bl q)):
 OpOk X st mm ⟨some d,.binOp .neq T x y T2,ty,pos,af,none⟩ [(d,bl (p != q))] []:=Q5j (λw=>by simp[binOp,run_equal_bool w T p q hT];cases p<;>cases q<;>rfl) hd hx hy
theorem nzI{q:Int}{u:Unit}(h:grd (q != 0)=some u):(q == 0)=false:=by have:=Qcb h;simpa [bne] using this
theorem nzU{q:Nat}{u:Unit}(h:grd (q != 0)=some u):Nat.beq q 0=false:=by
 have:=Qcb h;cases q with
 | zero=>exact absurd this (by decide)
 | succ n=>rfl
theorem ge0{q:Int}{u:Unit}(h:grd (decide (0≤q))=some u):(decide (0≤q))=true:=Qcb h
theorem shrI{d x y T T2 ty pos af p k'}{q:Int}(hq:(decide (0≤q))=true)(hd:Nat.blt d X.N=true)(hx:OpdF st x (i64 p))(hy:OpdF st y (.cell (cpI k' q))):
 OpOk X st mm ⟨some d,.binOp .shr T x y T2,ty,pos,af,none⟩ [(d,i64 (p.fdiv (2 ^ (min q.toNat 64))))] []:=
 Qi9 hd hx hy λw S γ vx vy h1 h2=>by
  obtain⟨rfl,a1,a2⟩:=h1;obtain⟨rfl,_⟩:=h2;have:¬ q<0:=by have:=of_decide_eq_true hq;omega
  refine⟨_,λw=>by simp[eqGuard],λw=>by simp only[binOp,Op.shift,if_neg this];rfl,rfl,?_⟩;have hp:(0:Int)<2 ^ (min q.toNat 64):=Int.pow_pos (by decide);rw[Int.fdiv_eq_ediv_of_nonneg _ (Int.le_of_lt hp)];have h1:IntKind.i64.min=-9223372036854775808:=by decide
  have h2:IntKind.i64.max=9223372036854775807:=by decide
  rw[h1] at a1 ⊢;rw[h2] at a2 ⊢;have hpos:(1:Int)≤2 ^ (min q.toNat 64):=by omega
  rcases Int.le_total 0 p with h | h;have e1:=Int.ediv_nonneg h (Int.le_of_lt hp);have e2:=Int.ediv_le_self (a:=p) (2 ^ (min q.toNat 64)) h;omega;have e1:p≤p / 2 ^ (min q.toNat 64):=by
   rw[Int.le_ediv_iff_mul_le hp];have:=Int.mul_le_mul_of_nonpos_left h hpos
   simpa using this
  have e2:p / 2 ^ (min q.toNat 64)≤0:=by
   have:=Int.ediv_le_ediv (c:=2 ^ (min q.toNat 64)) hp h
   simpa using this
  omega
end ops
section
variable {R:Type}{X:Cx}{l:List (Nat×Ly)}{m:List (Nat×Ct)}{md:Option R}{Q:R->Exit->Act->World->Prop}{G:R->Act->World->Prop}
theorem scT{c:Operand}{x y:Code}(hc:OpdF (lk l) c (bl true))(h:Sq X l m md (λr=>x.wp X.P (Q r))):Sq X l m md (λr=>(Code.cond c x y).wp X.P (Q r)):=by intro r a w γ hr hi;have:=hc.val hi;simp only[bl,Ly.val,cpB] at this;refine wp_cond_split this (λ_=>h r a w γ hr hi) (λhb=>by cases hb)
theorem scF{c:Operand}{x y:Code}(hc:OpdF (lk l) c (bl false))(h:Sq X l m md (λr=>y.wp X.P (Q r))):Sq X l m md (λr=>(Code.cond c x y).wp X.P (Q r)):=by intro r a w γ hr hi;have:=hc.val hi;simp only[bl,Ly.val,cpB] at this;refine wp_cond_split this (λhb=>by cases hb) (λ_=>h r a w γ hr hi)
theorem sbm{α:Type}{C:α->Ct}{x:α}{k:α->Option R}(d:Nat)(hd:lk m d=some (C x))(h:∀ y,Sq X l ((d,C y)::m) (k y) G):Sq X l m ((some x).bind k) G:=by
 refine sent (λa w γ hi=>⟨γ,?_⟩) (h x);have:lk ((d,C x)::m)=lk m:=by funext i;simp only[lk];cases e:Nat.beq d i;rfl;rw[←Nat.eq_of_beq_eq_true e,hd];rfl
 rw[this];exact hi
def lpK{τ ρ:Type}(k:τ->Option ρ):Lp τ ρ->Option ρ
 | .go t=>k t
 | .out r=>some r
theorem Jcr{σ:Type}{body:Code}{f:σ->Option (Lp σ R)}{n:Nat}{s0:σ}
 (L:σ->List (Nat×Ly)) (M:σ->List (Nat×Ct)) (h0:Ent X l m (L s0) (M s0))
 (hb:∀ s,Sq X (L s) (M s) (f s) (λo=>body.wp X.P (LpQ X L M some Q o))) :
 Sq X l m (loopM f n s0) (λr=>(Code.loop body).wp X.P (Q r)):=by
 have:=sloop (k:=some) (G':=λ_ _ _=>True) (Q:=Q) (X:=X) (l:=l) (m:=m) (n:=n) (τ0:=Empty) (λe=>e.elim) L M (λ_=>[]) (λ_=>[]) h0 (λ_=>hb) (λt=>t.elim);rw[show(loopM f n s0).bind some=loopM f n s0 by cases loopM f n s0<;>rfl] at this;exact this
theorem srangeN{α σ:Type}{f:Nat->α->σ->Option (Lp σ R)}{xs:List α}{s0:σ}{k:σ->Option R}
 {id1 id2 e tc ti tn t2 T1 T2 T3 T4 ty1 ty2 ty3:Nat}{p1 p2 p3:String}{f1 f2 f3:Array Edge}{B:Code}
 (L:σ->List (Nat×Ly)) (M:σ->List (Nat×Ct))
 (hd:(Nat.blt tc X.N && Nat.blt ti X.N && Nat.blt t2 X.N && !(Nat.beq tc ti) && !(Nat.beq tc tn) && !(Nat.beq ti tn) && !(Nat.beq t2 tn) && !(Nat.beq t2 ti))=true)
 (hk:∀ s,(nkey tc (L s) && nkey ti (L s) && nkey t2 (L s) && nkey tn (L s))=true)
 (h0:Ent X l m ((ti,i64 (0:Nat))::(tn,i64 xs.length)::L s0) (M s0))
 (hb:∀(i:Nat) x s,xs[i]?=some x->Sq X ((ti,i64 i)::(tn,i64 xs.length)::L s) (M s) (f i x s)
  (λo=>B.wp X.P (LpQ X (λs=>(ti,i64 i)::(tn,i64 xs.length)::L s) M (λt=>lpK k (.out t)) Q o)))
 (hJ:∀ s,Sq X (L s) (M s) (k s) (λr=>Q r (.exit e))) :
 Sq X l m ((rangeL f xs 0 s0).bind (lpK k)) (λr=>(Code.loop (.seq (.region id1 ⟨[⟨some tc,.binOp .lss T1 (.tmp ti) (.tmp tn) T2,ty1,p1,f1,none⟩]⟩ false)
  (.seq (.cond (.tmp tc) .skip (.exit e)) (.seq B (.region id2 ⟨[⟨some t2,.binOp .add T3 (.tmp ti) (.const (.int .i64 1)) T4,ty2,p2,f2,none⟩,⟨some ti,.move (.tmp t2),ty3,p3,f3,none⟩]⟩ false))))).wp X.P (Q r)):=
 srange (k:=lpK k) L M hd hk h0 hb hJ
end
section ops
variable {X:Cx}{st:Nat->Option Ly}{mm:Nat->Option Ct}
theorem cvI{d x S T ty pos af ds p}(hS:X.P.underlying S=some ds)(hT:X.P.underlying T=some (.int .i64))(hd:Nat.blt d X.N=true)(hx:OpdF st x (i64 p)):
 OpOk X st mm ⟨some d,.convert S T x,ty,pos,af,none⟩ [(d,i64 p)] []:=
 cv_ok hS hT hd hx λw S γ v hv=>by
  obtain⟨rfl,h1,h2⟩:=hv;have a1:IntKind.i64.min=-9223372036854775808:=by decide
  have a2:IntKind.i64.max=9223372036854775807:=by decide
  have e:wrap64 p=p:=by rw[a1] at h1;rw[a2] at h2;unfold wrap64;omega
  exact⟨_,_,rfl,by rw[Qk0,e];exact⟨rfl,h1,h2⟩⟩
theorem Qdi{α:Type}{xs:List α}{p:Int}{y:α}(h:getI xs p=some y):xs[p.toNat]?=some y:=(Qht h).2
end ops
theorem eqm0:EqM [] []:=⟨trivial,trivial⟩
theorem sj{R:Type}{X:Cx}{l l' m m'}{md:Option R}{G:R->Act->World->Prop}(k:Sq X l' m' md G)(h:Ent X l m l' m'):Sq X l m md G:=sent h k
def MiF(ρ:List (Nat×Nat))(mm:Nat->Option Ct):List (Nat×Ct)->Prop
 | []=>True
 | (x,c')::r=>(∃ y c,lk ρ x=some y∧mm y=some c∧RnC ρ c c')∧MiF ρ mm r
theorem MiF.get{ρ mm}:∀ {mi:List (Nat×Ct)},MiF ρ mm mi->∀ x c',lk mi x=some c'->∃ y c,lk ρ x=some y∧mm y=some c∧RnC ρ c c'
 | [],_,_,_,h=>by cases h
 | (i,c0)::r,hh,x,c',h=>by simp only[lk] at h;cases hb:Nat.beq i x;rw[hb] at h;exact MiF.get hh.2 x c' h;rw[hb] at h;have:i=x:=Nat.eq_of_beq_eq_true hb;subst this;simp at h;subst h;exact hh.1
section
variable {R:Type}{X:Cx}{l:List (Nat×Ly)}{m:List (Nat×Ct)}{md:Option R}{Q:R->Exit->Act->World->Prop}{G:R->Act->World->Prop}
theorem sjq{σ:Type}{x y:Code}{A:(σ->Option R)->Option R}{k:σ->Option R}(L:σ->List (Nat×Ly))(M:σ->List (Nat×Ct))
 (h:∀ j:σ->Option R,(∀ s,Sq X (L s) (M s) (j s) (λr=>y.wp X.P (Q r)))->Sq X l m (A j) (λr=>x.wp X.P (Exit.then (y.wp X.P (Q r)) (Q r))))
 (J:∀ s,Sq X (L s) (M s) (k s) (λr=>y.wp X.P (Q r))):Sq X l m (jn A k) (λr=>(Code.seq x y).wp X.P (Q r)):=sseq (h k J)
theorem sloopE{σ τ τ0:Type}{body:Code}{f:σ->Option (Lp σ τ)}{n:Nat}{s0:σ}{k:τ->Option R}(e:Nat)(inj:τ0->τ)
 (L:σ->List (Nat×Ly)) (M:σ->List (Nat×Ct)) (Lo:τ0->List (Nat×Ly)) (Mo:τ0->List (Nat×Ct)) (h0:Ent X l m (L s0) (M s0))
 (hb:(∀ t,Sq X (Lo t) (Mo t) (k (inj t)) (λr=>Q r (.exit e)))->∀ s,Sq X (L s) (M s) (f s) (λo=>body.wp X.P (LpQ X L M k Q o)))
 (hJ:∀ t,Sq X (Lo t) (Mo t) (k (inj t)) (λr=>Q r (.exit e))) :
 Sq X l m ((loopM f n s0).bind k) (λr=>(Code.loop body).wp X.P (Q r)):=sloop inj L M Lo Mo h0 hb hJ
end
section
variable {R:Type}{X:Cx}{l:List (Nat×Ly)}{m:List (Nat×Ct)}{md:Option R}{Q:R->Exit->Act->World->Prop}
theorem Qxn{ops:Array Oper}{j dj:Nat}{st mm a w γ}(hi:Inv X st mm a w γ)(hj:((ops[j]?).bind (·.dst))=some dj)(hv:st dj=some (.tup [])):yielded ops a.tmps j=none:=by obtain⟨v,hv',hl⟩:=hi.sts dj _ hv;simp only[Ly.val,Ly.vals] at hl;obtain⟨cs,rfl,_⟩:=hl;unfold yielded;simp[hj,hv']
theorem Qve{w S γ}:Ly.val w S γ (.tup []) undef:=by simp only[Ly.val,Ly.vals];exact⟨#[],rfl,rfl⟩
theorem spB{d op ty pos after j b}{ops:Array Oper}{rest:List Oper}(dj:Nat)(hj:((ops[j]?).bind (·.dst))=some dj)(hv:lk l dj=some (bl (!b)))(hd:Nat.blt d X.N=true)
 (k:Sq X ((d,.tup [])::l) m md (λr=>wpList X.P ops (Q r) rest)):Sq X l m md (λr=>wpList X.P ops (Q r) (⟨some d,op,ty,pos,after,some (j,b)⟩::rest)):=by
 intro r a w γ hr hi;refine wpList_step λK hK=>?_;rw[if_neg (by cases b<;>simp[Region.wanted,Qkz hi hj hv])];refine hK _ w (k r _ w γ hr ?_);have:=hi.put (d:=d) (v:=undef) (ly:=.tup []) (by simpa using hd) Qve;rw[up_lk] at this;exact this
theorem spU{d op ty pos after j b}{ops:Array Oper}{rest:List Oper}(dj:Nat)(hj:((ops[j]?).bind (·.dst))=some dj)(hv:lk l dj=some (.tup []))(hd:Nat.blt d X.N=true)
 (k:Sq X ((d,.tup [])::l) m md (λr=>wpList X.P ops (Q r) rest)):Sq X l m md (λr=>wpList X.P ops (Q r) (⟨some d,op,ty,pos,after,some (j,b)⟩::rest)):=by
 intro r a w γ hr hi;refine wpList_step λK hK=>?_;rw[if_neg (by simp[Region.wanted,Qxn hi hj hv])];refine hK _ w (k r _ w γ hr ?_);have:=hi.put (d:=d) (v:=undef) (ly:=.tup []) (by simpa using hd) Qve;rw[up_lk] at this;exact this
end
section
variable {X:Cx}{st:Nat->Option Ly}{mm:Nat->Option Ct}{ops:Array Oper}
theorem ogB{d op ty pos after j b}(dj:Nat)(hj:((ops[j]?).bind (·.dst))=some dj)(hv:st dj=some (bl (!b)))(hd:Nat.blt d X.N=true):OpG X ops st mm ⟨some d,op,ty,pos,after,some (j,b)⟩ [(d,.tup [])] []:=by intro a w γ K Q hi hK;rw[if_neg (by cases b<;>simp[Region.wanted,Qkz hi hj hv])];exact hK _ _ _ (hi.put (d:=d) (v:=undef) (ly:=.tup []) (by simpa using hd) Qve)
theorem ogU{d op ty pos after j b}(dj:Nat)(hj:((ops[j]?).bind (·.dst))=some dj)(hv:st dj=some (.tup []))(hd:Nat.blt d X.N=true):OpG X ops st mm ⟨some d,op,ty,pos,after,some (j,b)⟩ [(d,.tup [])] []:=by intro a w γ K Q hi hK;rw[if_neg (by simp[Region.wanted,Qxn hi hj hv])];exact hK _ _ _ (hi.put (d:=d) (v:=undef) (ly:=.tup []) (by simpa using hd) Qve)
theorem frzI{a w γ d id E k ls}(hi:Inv X st mm a w γ)(hm:mm id=some (.sl E k ls))(hif:IFs ls)(hd:st d=some (.own id)):Inv X (up st [(d,sli k ls)]) (up mm [(id,.gone)]) a w γ:=by
 obtain⟨v,cs,e1,⟨e2,e3⟩,e4,e5⟩:=slI hi hm;have hdr:=hi.drop id;have hS:∀ b,X.S γ (up mm [(id,.gone)]) b->X.S γ mm b:=by rintro b (h | ⟨i,c',u,h1,h2,h3,h4⟩);exact .inl h;rw[Vx] at h1;by_cases e:id=i;simp[e] at h1;subst h1;simp[Ct.alive] at h2;simp[e] at h1;exact .inr ⟨i,c',u,h1,h2,h3,h4⟩
 have hp:(cpL k ls).p w (X.S γ (up mm [(id,.gone)])) v:=by rcases e3 with ⟨rfl,hn⟩ | ⟨g,cap,cur,rfl,_,h2,h3,h4,h5,h6⟩;exact .inl ⟨rfl,List.eq_nil_of_length_eq_zero hn⟩;have hmine:=hi.mine g ⟨id,_,_,hm,rfl,e1,rfl⟩;refine .inr (.inl ⟨g,0,cap,cs,rfl,h3,h4,hmine.2.1,?_,λj u hj=>?_,Ly.holds_mono (Kp.refl _ _) (λb hb=>.inl (hS b hb)) (Ng.refl _) _ _ ((hif w _ γ (λ_=>none)).1 _ e4),e5⟩);rintro(h | ⟨i,c',u,k1,k2,k3,k4⟩);exact hmine.2.2 h;rw[Vx] at k1;by_cases e:id=i;simp[e] at k1;subst k1;simp[Ct.alive] at k2;simp[e] at k1;exact e (hi.apart id i _ c' _ u g hm rfl k1 k2 e1 k3 rfl k4);rw[Wg h2,←Array.getElem?_toList,Nat.zero_add];rw[←h6,List.getElem?_take] at hj;split at hj;exact hj;cases hj
 refine { hdr with sts:=?_ };intro i ly h;rw[Vx] at h;by_cases e:d=i;subst e;simp at h;subst h;obtain⟨u,g1,g2,_⟩:=hi.sts d _ hd;rw[e1] at g2;simp at g2;subst g2;exact⟨v,g1,hp⟩;simp[e] at h;exact hdr.sts i ly h
theorem toV{o d y E k ls em}(h:OpOk X st mm o [(d,.own y)] ((y,.sl E k ls)::em))(hif:IFs ls):OpOk X st mm o [(d,sli k ls)] ((y,.gone)::em):=by
 intro a w γ K Q hi hK;refine h a w γ K Q hi λa' w' γ' hi'=>hK a' w' γ' ?_;have:=frzI (d:=d) (id:=y) (E:=E) (k:=k) (ls:=ls) hi' (by simp[up,lk]) hif (by simp[up,lk]);have e1:up (up st [(d,.own y)]) [(d,sli k ls)]=up st [(d,sli k ls)]:=by funext i;simp only[Vx];by_cases e:d=i<;>simp[e]
 have e2:up (up mm ((y,.sl E k ls)::em)) [(y,.gone)]=up mm ((y,.gone)::em):=by
  funext i;rw[Vx];by_cases e:y=i;subst e;simp[up,lk];have hb:Nat.beq y i=false:=by cases hb:Nat.beq y i;rfl;exact absurd (Nat.eq_of_beq_eq_true hb) e
  simp[e,up,lk,hb]
 rw[e1,e2] at this;exact this
end
section
variable {X:Cx}{st:Nat->Option Ly}{mm:Nat->Option Ct}
theorem bnd{kk x p q}(h:OpdF st x (.cell (cpI kk q))):BndF st p (some x) q:=⟨kk,h⟩
theorem bnd0{p}:BndF st p none p:=rfl
end
theorem Qtu{P:Program}{T:Nat}{ag:Bool}{k off:Nat}{w w':World}{S γ}{ly:Ly}{cs:Array Value}{a u b:List Value}(h:Shp P T ag k)(hn:ly.isN=ag)(hz:ly.sz=k)
 (hc:cs.toList=a++u++b) (hl:a.length=off) (hu:ly.hold w S γ u):∃ v,(part T cs off).run P w'=.ok v w'∧ly.val w S γ v:=by
 have hul:=Ly.hold_sz _ _ hu;cases ag with
 | true=>
   refine⟨.agg u.toArray,?_,?_⟩;have:cs.extract off (off+k)=u.toArray:=by apply Array.ext';rw[Array.toList_extract,hc];simp only[List.extract_eq_take_drop];rw[←hl,List.append_assoc,List.drop_left,←hz,←hul,show a.length+u.length - a.length=u.length by omega,List.take_left]
   simp[part,Qp2 h,Qn0 h,this];cases ly<;>simp[Ly.isN] at hn;simp only[Ly.val,Ly.hold] at hu ⊢;exact⟨_,rfl,hu⟩
 | false=>
   have h1:u.length=1:=by cases ly<;>simp[Ly.isN] at hn<;>simpa [Ly.sz] using hul
   obtain⟨v,rfl⟩:∃ v,u=[v]:=by
    match u,h1 with
    | [v],_=>exact⟨v,rfl⟩
   refine⟨v,?_,Ly.val_of_hold1 hn hu⟩;have:cs[off]?=some v:=by rw[←Array.getElem?_toList,hc,←hl,List.append_assoc,List.getElem?_append_right (Nat.le_refl _)];simp
   simp[part,Qp2 h,this]
def EqF(P:Program)(n T:Nat){α:Type}(f:α->Ly)(e:α->α->Bool):Prop:=
 ∀ d w w' S γ x y vx vy,(f x).val w S γ vx->(f y).val w S γ vy->(Op.equalIn (d+n) T vx vy).run P w'=.ok (e x y) w'
theorem Ql9{P n T}(h:P.underlying T=some (.int .i64)):EqF P (n+1) T i64 (λx y=>x == y):=by intro d w w' S γ x y vx vy h1 h2;obtain⟨rfl,_⟩:=h1;obtain⟨rfl,_⟩:=h2;exact run_equalIn_int w' (d+n) T _ _ x y h
theorem Qka{P n T}{α β:Type}{f:α->Ly}{e:α->α->Bool}(g:β->α)(h:EqF P n T f e):EqF P n T (λx=>f (g x)) (λx y=>e (g x) (g y)):=λd w w' S γ x y=>h d w w' S γ (g x) (g y)
def EqFs(P:Program)(n:Nat)(fs:List Field)(off:Nat){α:Type}(f:α->List Ly)(e:α->α->Bool):Prop:=
 ∀ d w w' S γ x y (xs ys:Array Value) a1 u1 a2 u2,xs.toList=a1++u1->a1.length=off->Ly.holds w S γ (f x) u1->ys.toList=a2++u2->a2.length=off->Ly.holds w S γ (f y) u2 →
   (Op.eqFields (d+n) xs ys fs).run P w'=.ok (e x y) w'
theorem Q2o{P n off}{α:Type}:EqFs P n [] off (λ_:α=>[]) (λ_ _=>true):=by intro d w w' S γ x y xs ys a1 u1 a2 u2 _ _ _ _ _ _;simp[Op.eqFields]
theorem Qhw{P n off k ag}{α:Type}{F:Field}{fs:List Field}{g:α->Ly}{f:α->List Ly}{e1 e2:α->α->Bool}(hname:(F.name == "_")=false)(hoff:F.offset=off)(hT:Shp P F.type ag k)(hn:∀ x,(g x).isN=ag)(hz:∀ x,(g x).sz=k)
 (h1:EqF P n F.type g e1) (h2:EqFs P n fs (off+k) f e2):EqFs P n (F::fs) off (λx=>g x::f x) (λx y=>e1 x y && e2 x y):=by
 intro d w w' S γ x y xs ys a1 u1 a2 u2 hx hxl hxh hy hyl hyh;obtain⟨c1,c2,rfl,p1,p2⟩:=hxh;obtain⟨d1,d2,rfl,q1,q2⟩:=hyh;have hne:F.name≠ "_":=by simpa using hname
 obtain⟨v,r1,r2⟩:=Qtu (w:=w) (w':=w') (S:=S) (γ:=γ) (off:=off) hT (hn x) (hz x) (cs:=xs) (b:=c2) (by rw[hx,List.append_assoc]) hxl p1;obtain⟨v',s1,s2⟩:=Qtu (w:=w) (w':=w') (S:=S) (γ:=γ) (off:=off) hT (hn y) (hz y) (cs:=ys) (b:=d2) (by rw[hy,List.append_assoc]) hyl q1;have he:=h1 d w w' S γ x y v v' r2 s2;have hrest:=h2 d w w' S γ x y xs ys (a1++c1) c2 (a2++d1) d2 (by rw[hx,List.append_assoc]) (by rw[List.length_append,hxl,Ly.hold_sz _ _ p1,hz]) p2 (by rw[hy,List.append_assoc]) (by rw[List.length_append,hyl,Ly.hold_sz _ _ q1,hz]) q2;simp only[Op.eqFields,hoff];rw[if_pos hne];simp only[Sem.run_bind,r1,s1,Result.andThen_ok,he];cases h:e1 x y;simp;simp[hrest]
theorem Qxo{P n T}{α:Type}{fs:Array Field}{f:α->List Ly}{e:α->α->Bool}(hT:P.underlying T=some (.struct fs))(hp:P.stoodInHeld T=false)(h:EqFs P n fs.toList 0 f e):EqF P (n+1) T (λx=>.agg (f x)) e:=by
 intro d w w' S γ x y vx vy h1 h2;obtain⟨cs,rfl,hh⟩:=h1;obtain⟨ds,rfl,hh2⟩:=h2;have hf:P.fieldsOf T=fs:=by simp[Program.fieldsOf,hT]
 rw[show d+(n+1)=(d+n)+1 by omega,run_equalIn_struct w' (d+n) T cs ds (by rw[hf];exact hT) hp,hf];exact h d w w' S γ x y cs ds [] _ [] _ rfl rfl hh rfl rfl hh2
section ops
variable {X:Cx}{st:Nat->Option Ly}{mm:Nat->Option Ct}
theorem Q5k{d o x y T T2 ty pos af n}{α:Type}{f:α->List Ly}{e:α->α->Bool}{p q:α}{b:Bool}(he:EqF X.P n T (λx=>.agg (f x)) e)(hn:Nat.ble n 10000=true)(hg:X.P.eqGuardType X.P.depth T=false)
 (hrun:∀ cs ds w,(Op.equal T (.agg cs) (.agg ds)).run X.P w=.ok (e p q) w->(binOp o T (.agg cs) (.agg ds)).run X.P w=.ok (.bool b) w)
 (hd:Nat.blt d X.N=true) (hx:OpdF st x (.agg (f p))) (hy:OpdF st y (.agg (f q))) :
 OpOk X st mm ⟨some d,.binOp o T x y T2,ty,pos,af,none⟩ [(d,bl b)] []:=
 Qi9 hd hx hy λw S γ vx vy h1 h2=>by have hle:=Nat.le_of_ble_eq_true hn;have hr:=λw':World=>he (10000 - n) w w' S γ p q vx vy h1 h2;rw[show 10000 - n+n=10000 by omega] at hr;simp only[Ly.val] at h1 h2;obtain⟨cs,rfl,_⟩:=h1;obtain⟨ds,rfl,_⟩:=h2;refine⟨.bool b,λw'=>?_,λw'=>hrun cs ds w' (hr w'),by simp[bl,Ly.val,cpB]⟩;cases o<;>simp[eqGuard,hg]
theorem eqA{d x y T T2 ty pos af n}{α:Type}{f:α->List Ly}{e:α->α->Bool}{p q:α}(he:EqF X.P n T (λx=>.agg (f x)) e)(hn:Nat.ble n 10000=true)(hg:X.P.eqGuardType X.P.depth T=false)
 (hd:Nat.blt d X.N=true) (hx:OpdF st x (.agg (f p))) (hy:OpdF st y (.agg (f q))) :
 OpOk X st mm ⟨some d,.binOp .eql T x y T2,ty,pos,af,none⟩ [(d,bl (e p q))] []:=
 Q5k he hn hg (λcs ds w h=>by simp[binOp,h]) hd hx hy
theorem neA{d x y T T2 ty pos af n}{α:Type}{f:α->List Ly}{e:α->α->Bool}{p q:α}(he:EqF X.P n T (λx=>.agg (f x)) e)(hn:Nat.ble n 10000=true)(hg:X.P.eqGuardType X.P.depth T=false)
 (hd:Nat.blt d X.N=true) (hx:OpdF st x (.agg (f p))) (hy:OpdF st y (.agg (f q))) :
 OpOk X st mm ⟨some d,.binOp .neq T x y T2,ty,pos,af,none⟩ [(d,bl (!(e p q)))] []:=
 Q5k he hn hg (λcs ds w h=>by simp[binOp,h]) hd hx hy
end ops
theorem goA{α:Type}{f:α->Ly}{k:Nat}(hz:∀ x,(f x).sz=k){xs:List α}{i:Nat}{y:α}(h:xs[i]?=some y):Ly.go [i] (.agg (xs.map f))=some (f y,i*k):=by
 have hm:(xs.map f)[i]?=some (f y):=by simp[h]
 have hi:i<xs.length:=by rcases Nat.lt_or_ge i xs.length with h' | h';exact h';simp[List.getElem?_eq_none h'] at h
 have hs:Ly.szs ((xs.map f).take i)=i*k:=Qsb (λly hl=>by obtain⟨x,_,rfl⟩:=List.mem_map.1 hl;exact hz x) (by simp;omega);simp[Ly.go,hm,hs]
theorem puA{α:Type}{f:α->Ly}{xs:List α}{i:Nat}{y y':α}(h:xs[i]?=some y):Ly.pu (f y') [i] (.agg (xs.map f))=.agg ((xs.set i y').map f):=by
 have hm:(xs.map f)[i]?=some (f y):=by simp[h]
 simp[Ly.pu,hm,List.map_set]
section ops
variable {X:Cx}{st:Nat->Option Ly}{mm:Nat->Option Ct}
theorem ixAO{kk:IntKind}{d x i T ty pos af n E k b z id off lx}{p:Int}(hT:X.P.underlying T=some (.array n E))(hE:TyI X.P E k b z)(hp:(decide (0≤p) && decide (p<(n:Int)))=true)(ho:OwnP mm lx id off)
 (hd:Nat.blt d X.N=true) (hx:OpdF st x lx) (hi:OpdF st i (.cell (cpI kk p))) :
 OpOk X st mm ⟨some d,.indexAddr T x i,ty,pos,af,none⟩ [(d,.ptr id (off+p.toNat*k))] []:=
 Ws hd λa w γ hI=>by simp only[Bool.and_eq_true,decide_eq_true_eq] at hp;obtain⟨v0,g,h1,h2,h3⟩:=Qts hI ho hx;obtain⟨g1,_⟩:=hi.val hI;refine⟨.pointer (some ⟨g,off+p.toNat*k,none⟩),?_,v0,g,h1,h2,rfl⟩;simp only[execOp,h3,g1];simp[Instr.indexAt,asIntOf,underlying,hT,hp.1,hp.2,Xc hE,add0,Instr.sureAddr]
def APart(st:Nat->Option Ly)(k:Nat):List (Nat×Operand)->Ly->Ly->Prop
 | [],z,r=>z=r
 | (i,x)::ps,z,r=>∃ ly lz off,OpdF st x ly∧ly.lies=true∧Ly.go [i] z=some (lz,off)∧off=i*k∧lz.sz=k∧ly.sz=k∧APart st k ps (Ly.pu ly [i] z) r
theorem Q5l{st k}:∀ {ps:List (Nat×Operand)}{z r:Ly}(pl:List (Nat×Nat)),(∀ i x,(i,x)∈ps->pl[i]?=some (i*k,k))->APart st k ps z r->BPart st pl ps z r
 | [],z,r,pl,_,h=>h
 | (i,x)::ps,z,r,pl,hp,h=>by obtain⟨ly,lz,off,h1,h2,h3,h4,h5,h6,h7⟩:=h;subst h4;exact⟨ly,lz,_,h1,h2,h3,by rw[h5];exact hp i x List.mem_cons_self,by rw[h5];exact h6,Q5l pl (λj y hj=>hp j y (List.mem_cons_of_mem _ hj)) h7⟩
theorem Qxp{g g':Nat->Option (Nat×Nat)}:∀(ps:List (Nat×Value)) (cells:Array Value),(∀ i x,(i,x)∈ps->g i=g' i)->Instr.fill g cells ps=Instr.fill g' cells ps
 | [],_,_=>rfl
 | (i,x)::ps,cells,h=>by simp only[Instr.fill,h i x List.mem_cons_self];split;rfl;split;rfl;exact Qxp ps _ (λj y hj=>h j y (List.mem_cons_of_mem _ hj))
theorem bldA{d T n E parts ty pos af kT bT zT k b z lz l}(hT:X.P.underlying T=some (.array n E))(hTz:TyI X.P T kT bT zT)(hE:TyI X.P E k b z)(hz:Zr lz zT.cells.toList)(hle:(parts.all λp=>Nat.blt p.1 n)=true)(hp:APart st k parts lz (.agg l))(hd:Nat.blt d X.N=true):
 OpOk X st mm ⟨some d,.build T ⟨parts⟩,ty,pos,af,none⟩ [(d,.agg l)] []:=
 Ws hd λa w γ hI=>by
  have hpl:∀ i x,(i,x)∈parts->((List.range n).map (λi=>(i*k,k)))[i]?=some (i*k,k):=by intro i x hix;have:=List.all_eq_true.1 hle _ hix;simp at this;simp[this]
  obtain⟨cells',g1,g2⟩:=Qmx hI parts lz (.agg l) zT.cells (Q5l _ hpl hp) (hz _ _ _);refine⟨.agg cells',?_,⟨_,rfl,by simpa [Ly.hold] using g2⟩⟩;have hfill:Instr.fill (λi=>some (i*k,k)) zT.cells (parts.map λ(i,x)=>(i,a.eval x))=some cells':=by rw[←g1];refine Qxp _ _ λi x hix=>?_;obtain⟨⟨j,y⟩,hjy,he⟩:=List.mem_map.1 hix;simp at he;rw[←he.1];exact(hpl j y hjy).symm
  simp only[execOp,Instr.build];simp only[Sem.run_bind,Qct hTz,Result.andThen_ok,underlying,run_program,hT,Sem.run_pure,Xc hE];simp only[List.map_toArray,hfill];rfl
end ops
section ops
variable {X:Cx}{st:Nat->Option Ly}{mm:Nat->Option Ct}
theorem slA{d x T ty pos af n E k b z id E0}{α:Type}{f:α->Ly}{xs:List α}(hT:X.P.underlying T=some (.array n E))(hE:TyI X.P E k b z)(hm:mm id=some (.bx E0 (.agg (xs.map f))))(hn:xs.length=n)(hle:Nat.ble n 1000000=true)
 (hif:∀ x,IF (f x)) (hz:∀ x,(f x).sz=k) (hd:Nat.blt d X.N=true) (hx:OpdF st x (.own id)) :
 OpOk X st mm ⟨some d,.slice T x none none none,ty,pos,af,none⟩ [(d,sli k (xs.map f))] [(id,.gone)]:=by
 intro a w γ K Q hI hK;have hle':=Nat.le_of_ble_eq_true hle;obtain⟨g,cur,h1,h2,h3⟩:=bxI hI hm;obtain⟨hv,_⟩:=hx.val hI;rw[h1] at hv;have hv:a.eval x=.pointer (some ⟨g,0,none⟩):=by simpa using hv.symm
 have hdr:=hI.drop id;have hmine:=hI.mine g ⟨id,_,_,hm,rfl,h1,rfl⟩;have hS:∀ b,X.S γ (up mm [(id,.gone)]) b->X.S γ mm b:=by rintro b (h | ⟨i,c',u,k1,k2,k3,k4⟩);exact .inl h;rw[Vx] at k1;by_cases e:id=i;simp[e] at k1;subst k1;simp[Ct.alive] at k2;simp[e] at k1;exact .inr ⟨i,c',u,k1,k2,k3,k4⟩
 have hrun:(execOp a.eval ⟨some d,.slice T x none none none,ty,pos,af,none⟩).run X.P w=.ok (.value (.slice (some ⟨g,0,none⟩) n n)) w:=by have hb:=Qbp (P:=X.P) (w:=w) (isS:=false) (len:=n) (cap:=n) (lo:=none) (hi:=none) (p:=0) (q:=n) (.inl ⟨rfl,rfl⟩) (.inl ⟨rfl,rfl⟩) (by omega) (by omega) (by omega);simp only[execOp,hv];by_cases hn0:n=0;subst hn0;simp at hb;simp[Instr.sliceAt,underlying,hT,hb,Xc hE,Instr.sureAddr];simp[Instr.sliceAt,underlying,hT,hb,Xc hE,Instr.sureAddr,hn0,add0]
 have hp:(cpL k (xs.map f)).p w (X.S γ (up mm [(id,.gone)])) (.slice (some ⟨g,0,none⟩) n n):=by
  have hl:(xs.map f).length=n:=by simp[hn]
  refine .inr (.inl ⟨g,0,n,cur.toList,by rw[hl],by rw[hl];exact Nat.le_refl _,by unfold maxLen;omega,hmine.2.1,?_,λj u hj=>?_,?_,λly hly=>?_⟩);rintro(h | ⟨i,c',u,k1,k2,k3,k4⟩);exact hmine.2.2 h;rw[Vx] at k1;by_cases e:id=i;simp[e] at k1;subst k1;simp[Ct.alive] at k2;simp[e] at k1;exact e (hI.apart id i _ c' _ u g hm rfl k1 k2 h1 k3 rfl k4);rw[Wg h2,←Array.getElem?_toList,Nat.zero_add];exact hj;have h3':Ly.holds w (X.S γ mm) γ (xs.map f) cur.toList:=by simpa [Ly.hold] using h3
  exact Ly.holds_mono (Kp.refl _ _) (λb hb=>.inl (hS b hb)) (Ng.refl _) _ _ ((Jq hif xs w _ γ (λ_=>none)).1 _ h3');obtain⟨x,_,rfl⟩:=List.mem_map.1 hly;exact hz x
 unfold Oper.wp;rw[hrun];exact hK _ _ _ (hdr.put (d:=d) (ly:=sli k (xs.map f)) (by simpa using hd) hp)
end ops
def bS(xs:List Nat):List UInt8:=xs.map UInt8.ofNat
theorem Q2p{w S γ}:∀ {xs:List Nat}{cs:List Value},Ly.holds w S γ (xs.map u8) cs->cs=(xs.map (λx:Nat=>(x:Int))).map (Value.int .u8)
 | [],cs,h=>by simp only[List.map_nil,Ly.holds] at h;simp[h]
 | x::xs,cs,h=>by obtain⟨c1,c2,rfl,h1,h2⟩:=h;obtain⟨v,rfl,rfl,_⟩:=h1;rw[Q2p h2];simp
section ops
variable {X:Cx}{st:Nat->Option Ly}{mm:Nat->Option Ct}
theorem cvBS{d x S T E ty pos af}{xs:List Nat}(hS:X.P.underlying S=some (.slice E))(hE:X.P.underlying E=some (.int .u8))(hT:X.P.underlying T=some .string)(hd:Nat.blt d X.N=true)(hx:OpdF st x (sli 1 (xs.map u8))):
 OpOk X st mm ⟨some d,.convert S T x,ty,pos,af,none⟩ [(d,str (bS xs))] []:=
 Ws hd λa w γ hI=>by
  rcases hx.val hI with ⟨h1,hn⟩ | ⟨bb,o,cap,cs,h1,h2,h3,h4,h5,h6,h7,h8⟩ | ⟨hn,ad,h1⟩
  rotate_left 2
  . have:xs=[]:=by simpa using hn
    subst this;refine⟨.string ByteArray.empty,?_,rfl,by simp[bS]⟩;have hl:(loadCells ad 0).run X.P w=.ok #[] w:=by simp[loadCells,loadCellsFrom]
    simp only[execOp,h1];rw[Sem.run_bind,run_convert_bytes_string w S T E _ _ _ hS hE hT,run_bytesToString w _ _ 0 [] (by simpa using hl)];simp
  . have:xs=[]:=by simpa using hn
    subst this;refine⟨.string ByteArray.empty,?_,rfl,by simp[bS]⟩;simp only[execOp,h1,run_convert_bytes_nil (P:=X.P) w S E hS hE 0 0 T hT,Sem.run_bind,Result.andThen_ok,Sem.run_pure]
  . rw[List.length_map] at h1 h2
    have hcs:=Q2p h7;have hl:(loadCells ⟨bb,o,none⟩ xs.length).run X.P w=.ok ((xs.map (λx:Nat=>(x:Int))).map (Value.int .u8)).toArray w:=by
     have:=Qfn (P:=X.P) (b:=bb) (o:=o) (w:=w) cs 0 #[] (λj u hj=>by simpa using h6 j u hj);have hlen:cs.length=xs.length:=by rw[hcs];simp
     rw[hlen] at this;rw[←hcs]
     simpa [loadCells] using this
    have hr:(convert S T (.slice (some ⟨bb,o,none⟩) xs.length cap)).run X.P w=.ok (.string ⟨(bS xs).toArray⟩) w:=by rw[run_convert_bytes_string w S T E _ _ _ hS hE hT,run_bytesToString w _ _ cap _ hl,foldl_push_bytes];congr 2;apply ByteArray.ext;simp[bS,ByteArray.empty,ByteArray.emptyWithCapacity,Function.comp_def];rfl
    refine⟨.string ⟨(bS xs).toArray⟩,?_,rfl,by simp[bS];omega⟩;simp only[execOp,h1];simp[hr]
end ops
def sIt(s:List UInt8)(p:Nat):Obj:=.stringIter ⟨s.toArray⟩ p
def decR(s:List UInt8)(p:Nat):Nat:=(Utf8.decode ⟨s.toArray⟩ p).1
def decW(s:List UInt8)(p:Nat):Nat:=(Utf8.decode ⟨s.toArray⟩ p).2
theorem Ja6(s:List UInt8)(p:Nat):decR s p≤1114111:=by unfold decR Utf8.decode;simp only[];split;rename_i h;simp at h ⊢;omega;split;split;rename_i h h';simp at h ⊢;omega;simp[Utf8.runeError];split;split;rename_i h;simp[Utf8.valid] at h ⊢;omega;simp[Utf8.runeError];split;split;rename_i h;simp[Utf8.valid] at h ⊢;omega;simp[Utf8.runeError];simp[Utf8.runeError]
section ops
variable {X:Cx}{st:Nat->Option Ly}{mm:Nat->Option Ct}
theorem rngS{d T x ty pos af s y}(hT:X.P.underlying T=some .string)(hx:OpdF st x (str s))(hy:mm y=none)(hd:Nat.blt d X.N=true):
 OpOk X st mm ⟨some d,.range T x,ty,pos,af,none⟩ [(d,.own y)] [(y,.ob (sIt s 0))]:=
 Qq8 hd hy rfl λa w γ hi=>by
  obtain⟨hv,_⟩:=hx.val hi
  refine⟨.pointer (some ⟨w.heap.size,0,none⟩),w.alloc (sIt s 0),?_,rfl,rfl,rfl,Qhu _ _ _,rfl,
   λS γ' hS hg hy'=>⟨w.heap.size,hy',Ql8 _ _⟩,λb hb=>by simp[blkOf] at hb;subst hb;simp⟩
  simp only[execOp,hv];simp[run_range_string w T _ hT,World.iter,sIt]
theorem obI{id o}{a w γ}(hI:Inv X st mm a w γ)(hm:mm id=some (.ob o)):∃ g,γ id=some (.pointer (some ⟨g,0,none⟩))∧w.heap[g]?=some o:=hI.cts id _ hm
theorem nxtF{d x ty pos af id s p}(h:decide (p<s.length)=false)(hm:mm id=some (.ob (sIt s p)))(hd:Nat.blt d X.N=true)(hx:OpdF st x (.own id)):
 OpOk X st mm ⟨some d,.next x true,ty,pos,af,none⟩ [(d,.tup [bl false])] []:=by
 refine Ws hd λa w γ hI=>?_;obtain⟨g,h1,h2⟩:=obI hI hm;obtain⟨hv,_⟩:=hx.val hI;rw[h1] at hv;have hv:a.eval x=.pointer (some ⟨g,0,none⟩):=by simpa using hv.symm
 have h':¬ p<(ByteArray.mk s.toArray).size:=by simpa [ByteArray.size] using h
 refine⟨.tuple #[.bool false],?_,#[.bool false],rfl,_,[],rfl,rfl,rfl⟩;simp only[execOp,hv];simp only[sIt] at h2;simp[Instr.next,getObj,Sem.run,h2,h']
theorem nxtT{d x ty pos af id s p}(h:decide (p<s.length)=true)(hle:Nat.ble s.length 1000000=true)(hm:mm id=some (.ob (sIt s p)))(hd:Nat.blt d X.N=true)(hx:OpdF st x (.own id)):
 OpOk X st mm ⟨some d,.next x true,ty,pos,af,none⟩ [(d,.tup [bl true,i64 (p:Int),i32 (decR s p:Nat)])] [(id,.ob (sIt s (p+decW s p)))]:=by
 intro a w γ K Q hI hK;have hle':=Nat.le_of_ble_eq_true hle;obtain⟨g,h1,h2⟩:=obI hI hm;obtain⟨hv,_⟩:=hx.val hI;rw[h1] at hv;have hv:a.eval x=.pointer (some ⟨g,0,none⟩):=by simpa using hv.symm
 have hp:p<s.length:=of_decide_eq_true h;have h':p<(ByteArray.mk s.toArray).size:=by simpa [ByteArray.size] using hp
 have hg:g<w.heap.size:=by
  rcases Nat.lt_or_ge g w.heap.size with h | h
  . exact h
  . simp[Array.getElem?_eq_none h] at h2
 let w':World:={ w with heap:=w.heap.setIfInBounds g (sIt s (p+decW s p)) }
 have hrun:(execOp a.eval ⟨some d,.next x true,ty,pos,af,none⟩).run X.P w=.ok (.value (.tuple #[.bool true,.int .i64 p,.int .i32 (decR s p:Nat)])) w':=by simp only[execOp,hv];simp only[sIt] at h2;simp[Instr.next,getObj,setObj,Sem.run,h2,h',goInt,w',decR,decW,sIt]
 have hkp:Kp (λb=>b=g) w w':=⟨by simp[w'],λb hb hn=>by simp[w',Array.getElem?_setIfInBounds_ne (Ne.symm hn)]⟩
 have hnew:w'.heap[g]?=some (sIt s (p+decW s p)):=by simp[w',hg]
 have hI':=hI.setc (w':=w') (ct:=.ob (sIt s (p+decW s p))) rfl rfl rfl hm rfl h1 rfl hkp rfl ⟨g,h1,hnew⟩;unfold Oper.wp;rw[hrun];have hr:=Ja6 s p;refine hK _ _ _ (hI'.put (d:=d) (ly:=.tup [bl true,i64 (p:Int),i32 (decR s p:Nat)]) (by simpa using hd) ⟨#[.bool true,.int .i64 p,.int .i32 (decR s p:Nat)],rfl,_,_,rfl,rfl,_,_,rfl,⟨rfl,?_,?_⟩,_,_,rfl,⟨rfl,?_,?_⟩,rfl⟩)
 all_goals simp[IntKind.min,IntKind.max,IntKind.bits,IntKind.signed]<;>omega
theorem goA0{α:Type}{f:α->Ly}{k:Nat}(hz:∀ x,(f x).sz=k){xs:List α}{i:Int}{y:α}(h:getI xs i=some y):Ly.go [i.toNat] (.agg (xs.map f))=some (f y,0+i.toNat*k):=by rw[Nat.zero_add];exact goA hz (Qht h).2
theorem puA0{α:Type}{f:α->Ly}{xs:List α}{i:Int}{y y':α}{ly:Ly}(h:getI xs i=some y)(hl:.agg ((xs.set i.toNat y').map f)=ly):Ly.pu (f y') [i.toNat] (.agg (xs.map f))=ly:=by rw[←hl];exact puA (Qht h).2
theorem Q2q{α:Type}{xs:List α}{i:Int}{y:α}{n:Nat}(hn:xs.length=n)(h:getI xs i=some y):(decide (0≤i) && decide (i<(n:Int)))=true:=by
 obtain⟨h0,h1⟩:=Qht h;have:i.toNat<xs.length:=by rcases Nat.lt_or_ge i.toNat xs.length with h | h;exact h;simp[List.getElem?_eq_none h] at h1
 simp;omega
theorem ixV{kk:IntKind}{d T x i ty pos af n E ag k}{p:Int}{α:Type}{f:α->Ly}{xs:List α}{y:α}(hT:X.P.underlying T=some (.array n E))(hS:Shp X.P E ag k)(hn:Nat.beq xs.length n=true)(hg:getI xs p=some y)
 (hz:∀ x,(f x).sz=k) (ha:∀ x,(f x).isN=ag) (hd:Nat.blt d X.N=true) (hx:OpdF st x (.agg (xs.map f))) (hi:OpdF st i (.cell (cpI kk p))) :
 OpOk X st mm ⟨some d,.index T x i,ty,pos,af,none⟩ [(d,f y)] []:=
 Ws hd λa w γ hI=>by have hxn:xs.length=n:=Nat.eq_of_beq_eq_true hn;have hb:=Q2q hxn hg;simp only[Bool.and_eq_true,decide_eq_true_eq] at hb;obtain⟨h0,hg⟩:=Qht hg;obtain⟨g1,_⟩:=hi.val hI;obtain⟨cs,hv,hh⟩:=hx.val hI;obtain⟨a1,u,b1,hc,e1,e2,_⟩:=Qkf (w:=w) (S:=X.S γ mm) (γ:=γ) [p.toNat] (goA hz hg) (cs:=cs.toList) (by simpa [Ly.hold] using hh);obtain⟨v,r1,r2⟩:=Qtu (P:=X.P) (w':=w) hS (ha y) (hz y) hc e1 e2;refine⟨v,?_,r2⟩;simp only[execOp,hv,g1];simp[Instr.index,asIntOf,underlying,hT,hb.1,hb.2,Qn0 hS,r1]
end ops
def Pl(ly:Ly):Prop:=∀ w S S' γ,(∀ cs,ly.hold w S γ cs->ly.hold w S' γ cs)∧(∀ v,ly.val w S γ v->ly.val w S' γ v)
def Pls(l:List Ly):Prop:=∀ w S S' γ,(∀ cs,Ly.holds w S γ l cs->Ly.holds w S' γ l cs)∧(∀ v,Ly.vals w S γ l v->Ly.vals w S' γ l v)
theorem Qvf(p:CP)(h:∀ w S S' v,p.p w S v->p.p w S' v):Pl (.cell p):=λw S S' γ=>⟨λcs ⟨v,h1,h2⟩=>⟨v,h1,h _ _ _ _ h2⟩,λv h1=>by simp only[Ly.val] at h1 ⊢;exact h _ _ _ _ h1⟩
theorem Q2r{x}:Pl (i64 x):=Qvf _ λ_ _ _ _ h=>h
theorem Qeb{x}:Pl (u32 x):=Qvf _ λ_ _ _ _ h=>h
theorem pl_bl{x}:Pl (bl x):=Qvf _ λ_ _ _ _ h=>h
theorem Jcs{x}:Pl (str x):=Qvf _ λ_ _ _ _ h=>h
theorem Qfx{x}:Pl (.own x):=λ_ _ _ _=>⟨λ_ h=>h,λv h=>by simp only[Ly.val] at h ⊢;exact h⟩
theorem Q5m:Pls []:=λ_ _ _ _=>⟨λ_ h=>h,λv h=>by simpa [Ly.vals] using h⟩
theorem Q9x{ly l}(h1:Pl ly)(h2:Pls l):Pls (ly::l):=λw S S' γ=>
 ⟨λcs h=>by obtain⟨c1,c2,rfl,g1,g2⟩:=h;exact⟨c1,c2,rfl,(h1 w S S' γ).1 _ g1,(h2 w S S' γ).1 _ g2⟩,
  λv h=>by
   simp only[Ly.vals] at h ⊢
   obtain⟨u,r,rfl,g1,g2⟩:=h;exact⟨u,r,rfl,(h1 w S S' γ).2 _ g1,(h2 w S S' γ).2 _ g2⟩⟩
theorem Qcc{α:Type}{f:α->Ly}(h:∀ x,Pl (f x)):∀ xs:List α,Pls (xs.map f)
 | []=>Q5m
 | x::xs=>Q9x (h x) (Qcc h xs)
theorem Jct{l}(h:Pls l):Pl (.tup l):=λw S S' γ=>
 ⟨λcs g=>by simp[Ly.hold] at g,
  λv g=>by simp only[Ly.val] at g ⊢;obtain⟨cs,rfl,g⟩:=g;exact⟨cs,rfl,(h w S S' γ).2 _ g⟩⟩
def PlC:Ct->Prop
 | .sl _ _ ls=>Pls ls
 | .bx _ ly=>Pl ly
 | _=>True
def PlM:List (Nat×Ct)->Prop
 | []=>True
 | (_,c)::r=>PlC c∧PlM r
theorem PlM.get:∀ {m:List (Nat×Ct)},PlM m->∀ {x c},lk m x=some c->PlC c
 | [],_,_,_,h=>by cases h
 | (i,c0)::r,hh,x,c,h=>by simp only[lk] at h;cases hb:Nat.beq i x;rw[hb] at h;exact PlM.get hh.2 h;rw[hb] at h;simp at h;subst h;exact hh.1
theorem Xu.pl{w S S' γ id c}(h:Xu w S γ id c)(hp:PlC c):Xu w S' γ id c:=by
 cases c with
 | gone=>trivial
 | sl E k ls=>obtain⟨v,cs,h1,h2,h3,h4⟩:=h;exact⟨v,cs,h1,h2,(hp _ _ _ _).1 _ h3,h4⟩
 | bx E ly=>obtain⟨g,cur,h1,h2,h3⟩:=h;exact⟨g,cur,h1,h2,(hp _ _ _ _).1 _ h3⟩
 | ob o=>exact h
def lentB(lt:List Nat)(id:Nat):Bool:=lt.any (Nat.beq id)
def LArg(st:Nat->Option Ly)(mm:Nat->Option Ct)(lt:List Nat)(x:Operand)(ly':Ly):Prop:=
 ∃ id,lentB lt id=true∧((OpdF st x (.own id)∧((∃ E k ls,mm id=some (.sl E k ls)∧IFs ls∧ly'=sli k ls)∨(∃ E ly,mm id=some (.bx E ly)∧IF ly∧ly'=.ref ly))) ∨
   ∃ off len E ls,OpdF st x (.win id off len)∧mm id=some (.sl E 1 ls)∧IFs ls∧off+len≤ls.length∧ly'=sli 1 ((ls.drop off).take len))
def ArgL(st:Nat->Option Ly)(mm:Nat->Option Ct)(ρ:List (Nat×Nat))(lt:List Nat):List Operand->List Ly->Prop
 | [],[]=>True
 | x::xs,ly'::lys=>((∃ ly,OpdF st x ly∧Rn ρ ly ly')∨LArg st mm lt x ly')∧ArgL st mm ρ lt xs lys
 | _,_=>False
section
variable {X:Cx}{st:Nat->Option Ly}{mm:Nat->Option Ct}
theorem Q9y{a w γ γc S lt x ly'}(hi:Inv X st mm a w γ)(hS:∀ b,S b->X.S γ mm b)
 (hL:∀ id c v b,lentB lt id=true->mm id=some c->c.alive=true->γ id=some v->blkOf v=some b->¬ S b) (h:LArg st mm lt x ly'):ly'.val w S γc (a.eval x):=by
 obtain⟨id,h0,h⟩:=h;rcases h with ⟨hx,h⟩ | ⟨off,len,E,ls,hx,hm,hif,hle,rfl⟩
 rotate_left
 . obtain⟨v,cs,e1,⟨e2,e3⟩,e4,e5⟩:=slI hi hm
   obtain⟨v0,f1,f2⟩:=hx.val hi;rw[e1] at f1;cases f1;have hhs:Ly.holds w S (λ_=>none) ls cs:=Ly.holds_mono (Kp.refl _ _) (λb hb=>.inl (hS b hb)) (Ng.refl _) _ _ ((hif w _ γ (λ_=>none)).1 _ e4);obtain⟨_,s2⟩:=Qea off hhs e5;obtain⟨s3,_⟩:=Qea len s2 (λly hl=>e5 ly (List.mem_of_mem_drop hl));rcases f2 with ⟨f3,f4,f5⟩ | ⟨g,cap,o,f3,f4,fo,f5,f6⟩
   . rw[f3]
     subst f5;exact .inl ⟨rfl,by simp⟩
   . rcases e3 with ⟨e3,_⟩ | ⟨g',cap',cur,e3,_,h2,h3,h4,h5,h6⟩
     . rw[e3] at f3;simp[blkOf] at f3
     . subst e3
       simp[blkOf] at f3;subst f3;have hmine:=hi.mine g' ⟨id,_,_,hm,rfl,e1,rfl⟩;have hlen:((ls.drop off).take len).length=len:=by simp;omega
       rw[f4];refine .inr (.inl ⟨g',o,cap,(cs.drop (off*1)).take (len*1),?_,?_,f6,hmine.2.1,hL id _ _ g' h0 hm rfl e1 rfl,λj u hj=>?_,s3,λly hl=>e5 ly (List.mem_of_mem_drop (List.mem_of_mem_take hl))⟩)
       . rw[hlen]
       . rw[hlen];exact f5
       . rw[Wg h2,←Array.getElem?_toList]
         rw[List.getElem?_take] at hj;split at hj
         . rw[fo (by omega)]
           rw[List.getElem?_drop,←h6,List.getElem?_take] at hj;split at hj
           . rw[Nat.mul_one] at hj;exact hj
           . cases hj
         . cases hj
 obtain⟨hv,_⟩:=hx.val hi;rcases h with ⟨E,k,ls,hm,hif,rfl⟩ | ⟨E,ly,hm,hif,rfl⟩
 . obtain⟨v,cs,e1,⟨e2,e3⟩,e4,e5⟩:=slI hi hm
   rw[hv] at e1;simp at e1;rw[e1];rw[e1] at hv;rcases e3 with ⟨rfl,hn⟩ | ⟨g,cap,cur,rfl,_,h2,h3,h4,h5,h6⟩
   . exact .inl ⟨rfl,List.eq_nil_of_length_eq_zero hn⟩
   . have hmine:=hi.mine g ⟨id,_,_,hm,rfl,hv,rfl⟩
     refine .inr (.inl ⟨g,0,cap,cs,rfl,h3,h4,hmine.2.1,hL id _ _ g h0 hm rfl hv rfl,λj u hj=>?_,?_,e5⟩)
     . rw[Wg h2,←Array.getElem?_toList,Nat.zero_add]
       rw[←h6,List.getElem?_take] at hj;split at hj
       . exact hj
       . cases hj
     . exact Ly.holds_mono (Kp.refl _ _) (λb hb=>.inl (hS b hb)) (Ng.refl _) _ _ ((hif w _ γ (λ_=>none)).1 _ e4)
 . obtain⟨g,cur,e1,e2,e3⟩:=bxI hi hm
   rw[hv] at e1;simp at e1;rw[e1];rw[e1] at hv;have hmine:=hi.mine g ⟨id,_,_,hm,rfl,hv,rfl⟩;refine⟨g,0,cur.toList,rfl,hmine.2.1,hL id _ _ g h0 hm rfl hv rfl,λj u hj=>?_,?_⟩
   . rw[Wg e2,←Array.getElem?_toList,Nat.zero_add];exact hj
   . exact Ly.hold_mono (Kp.refl _ _) (λb hb=>.inl (hS b hb)) (Ng.refl _) _ _ ((hif w _ γ γc).1 _ e3)
theorem Q00{a w γ γc ρ S lt}(hi:Inv X st mm a w γ)(hg:∀ y x,lk ρ y=some x->γc y=γ x)(hS:∀ b,S b->X.S γ mm b)
 (hL:∀ id c v b,lentB lt id=true->mm id=some c->c.alive=true->γ id=some v->blkOf v=some b->¬ S b) :
 ∀ {xs:List Operand}{lys:List Ly},ArgL st mm ρ lt xs lys->Ly.vals w S γc lys (xs.map a.eval)
 | [],[],_=>by simp[Ly.vals]
 | x::xs,ly::lys,h=>by obtain⟨h1,h3⟩:=h;simp only[List.map_cons,Ly.vals];refine⟨_,_,rfl,?_,Q00 hi hg hS hL h3⟩;rcases h1 with ⟨ly0,h1,h2⟩ | h1;exact Ly.val_mono (Kp.refl _ _) (λb hb=>.inl (hS b hb)) (Ng.refl _) _ _ ((h2 w _ γ γc hg).2 _ (h1.val hi));exact Q9y hi hS hL h1
 | [],_::_,h=>h.elim
 | _::_,[],h=>h.elim
theorem callL{d f args argTypes ty pos af largs mi res mo res' em}(lt:List Nat)(ρ τ σ:List (Nat×Nat))(hlr:(lt.any λid=>ρ.any λe=>Nat.beq e.2 id)=false)(hf:FnOk X.P f largs mi res mo)(hpm:PlM mo)(hpr:Pl res')
 (ha:ArgL st mm ρ lt args largs) (hmi:∀ x c',lk mi x=some c'->∃ y c,lk ρ x=some y∧mm y=some c∧RnC ρ c c') (hρm:NmM mi ρ) (hρn:nodupB (ρ.map (·.2))=true)
 (hτ:Fresh mm τ) (hσ:SigT τ ρ σ) (hσn:nodupB (σ.map (·.2))=true) (hem:BackM σ ρ mo em) (hall:AllIn em (ρ.map (·.2))) (hall2:AllIn em (τ.map (·.1)))
 (hres:Rn σ res res') (hd:Nat.blt d X.N=true) :
 OpOk X st mm ⟨some d,.call { callee:=.value (.func f),args:=⟨args⟩,argTypes:=argTypes },ty,pos,af,none⟩ [(d,res')] em:=by
 obtain⟨⟨fn,hfn,hname,hbody⟩,hc⟩:=hf;intro a w γ K Q hi hK;let γc:Nm:=λx=>match lk ρ x with | some y=>γ y | none=>none
 have hgc:∀ x y,lk ρ x=some y->γc x=γ y:=λx y h=>by simp only[γc,h]
 let img:Nat->Prop:=λy=>∃ x,(x,y)∈ρ;let S0c:Nat->Prop:=λb=>X.S0 b∨∃ id c v,mm id=some c∧c.alive=true∧¬ img id∧lentB lt id=false∧γ id=some v∧blkOf v=some b;let LB:Nat->Prop:=λb=>∃ id c v,lentB lt id=true∧mm id=some c∧c.alive=true∧γ id=some v∧blkOf v=some b;have hli:∀ id,lentB lt id=true->¬ img id:=by
  rintro id h ⟨x,hx⟩;have:(lt.any λid=>ρ.any λe=>Nat.beq e.2 id)=true:=by obtain⟨z,hz,he⟩:=List.any_eq_true.1 h;have:id=z:=Nat.eq_of_beq_eq_true he;subst this;exact List.any_eq_true.2 ⟨id,hz,List.any_eq_true.2 ⟨(x,id),hx,by simp⟩⟩
  rw[hlr] at this;cases this
 have hS0c:∀ b,S0c b->X.S γ mm b:=by rintro b (h | ⟨id,c,v,h1,h2,h3,h3',h4,h5⟩);exact .inl h;exact .inr ⟨id,c,v,h1,h2,h4,h5⟩
 have hOwc:∀ b,Ow γc (lk mi) b->∃ y c v,img y∧mm y=some c∧c.alive=true∧γ y=some v∧blkOf v=some b:=by rintro b ⟨x,c',v,h1,h2,h3,h4⟩;obtain⟨y,c,g1,g2,g3⟩:=hmi x c' h1;exact⟨y,c,v,⟨x,Qax g1⟩,g2,g3.alive.1,by rw[←hgc x y g1];exact h3,h4⟩
 have hOwS:∀ b,Ow γc (lk mi) b->X.S γ mm b:=λb h=>by obtain⟨y,c,v,h1,h2,h3,h4,h5⟩:=hOwc b h;exact .inr ⟨y,c,v,h2,h3,h4,h5⟩
 have hSc:∀ b,Sx S0c γc mi b->X.S γ mm b:=λb h=>h.elim (hS0c b) (hOwS b);have hS0lt:∀ b,S0c b->b<w.heap.size:=by rintro b (h | ⟨id,c,v,h1,h2,h3,h3',h4,h5⟩);exact Nat.lt_of_lt_of_le (hi.s0 b h) hi.grow;exact(hi.mine b ⟨id,c,v,h1,h2,h4,h5⟩).2.1
 have hdis:∀ b,Ow γc (lk mi) b->¬ S0c b:=by intro b h hs;obtain⟨y,c,v,h1,h2,h3,h4,h5⟩:=hOwc b h;rcases hs with hs | ⟨id,c2,v2,g1,g2,g3,g3',g4,g5⟩;exact(hi.mine b ⟨y,c,v,h2,h3,h4,h5⟩).2.2 hs;have:=hi.apart y id c c2 v v2 b h2 h3 g1 g2 h4 g4 h5 g5;subst this;exact g3 h1
 have hLn:∀ id c v b,lentB lt id=true->mm id=some c->c.alive=true->γ id=some v->blkOf v=some b->¬ Sx S0c γc mi b:=by rintro id c v b h1 h2 h3 h4 h5 (h | h);rcases h with h | ⟨id2,c2,v2,g1,g2,g3,g3',g4,g5⟩;exact(hi.mine b ⟨id,c,v,h2,h3,h4,h5⟩).2.2 h;have:=hi.apart id id2 c c2 v v2 b h2 h3 g1 g2 h4 g4 h5 g5;subst this;rw[h1] at g3';cases g3';obtain⟨y,c2,v2,g1,g2,g3,g4,g5⟩:=hOwc b h;have:=hi.apart id y c c2 v v2 b h2 h3 g2 g3 h4 g4 h5 g5;subst this;exact hli id h1 g1
 have hcall:=hc w S0c γc (args.map a.eval).toArray hS0lt
  (λx hx=>by
   cases h:lk ρ x with
   | none=>simp only[γc,h]
   | some y=>obtain⟨c,hc⟩:=hρm.get x y h;rw[hx] at hc;cases hc)
  (λx c' hx=>by
   obtain⟨y,c,g1,g2,g3⟩:=hmi x c' hx;have h0:=hi.cts y c g2;have h1:Xu w (Sx S0c γc mi) γ y c:=h0.mono (Kp.refl _ _) (λb hb=>.inl (hSc b hb)) (Ng.refl _) (λ_ _ _ _=>rfl)
   exact h1.rn hgc g1 g3)
  (λx x' c c' v v' b h1 h2 h3 h4 h5 h6 h7 h8=>by
   obtain⟨y,d,g1,g2,g3⟩:=hmi x c h1;obtain⟨y',d',g1',g2',g3'⟩:=hmi x' c' h3;rw[hgc x y g1] at h5;rw[hgc x' y' g1'] at h6;have:=hi.apart y y' d d' v v' b g2 g3.alive.1 g2' g3'.alive.1 h5 h6 h7 h8;subst this
   exact Qm4 hρn (Qax g1) (Qax g1') g1 g1')
  (λb hb=>by
   obtain⟨y,c,v,h1,h2,h3,h4,h5⟩:=hOwc b hb
   exact⟨(hi.mine b ⟨y,c,v,h2,h3,h4,h5⟩).2.1,hdis b hb⟩)
  (by simpa using Q00 hi hgc hSc hLn ha) (hi.gw hSc)
 have hrun:(execOp a.eval ⟨some d,.call { callee:=.value (.func f),args:=⟨args⟩,argTypes:=argTypes },ty,pos,af,none⟩).run X.P w=.ok (.enter f (args.map a.eval).toArray) w:=by
  have e1:fn.body.isNone=false:=by cases h:fn.body<;>simp[h] at hbody ⊢
  have e2:¬ fn.name= "runtime.NumGoroutine":=by simpa using hname
  simp only[execOp,resolve,Act.eval];simp[Deferred.ofValue,invoke,callFunc,hfn,e2];intro e3;rw[e3] at e1;cases e1
 unfold Oper.wp;rw[hrun,Oper.upon_enter];refine hcall.mono ?_;rintro e w' ⟨v,γ',rfl,hb⟩;show K (a.put (some d) v) w';let γ'':Nm:=λy=>match lk τ y with | some x=>γ' x | none=>γ y
 have hnτ:∀ y c,mm y=some c->lk τ y=none:=λy c hy=>by
  cases h:lk τ y with
  | none=>rfl
  | some x=>rw[hτ.get y x h] at hy;cases hy
 have hng:Ng γ γ'':=by
  intro y u hu;cases h:lk τ y with
  | none=>simp only[γ'',h];exact hu
  | some x=>have:=hi.fresh y (hτ.get y x h);rw[this] at hu;cases hu
 have hg2:∀ y x,lk σ y=some x->γ'' y=γ' x:=by
  intro y x h;rcases hσ.get y x h with h1 | h1;simp only[γ'',h1];obtain⟨c',hc'⟩:=hρm.get x y h1;obtain⟨y2,c,g1,g2,g3⟩:=hmi x c' hc';rw[h1] at g1;simp at g1;subst g1;have hal:=g3.alive.1;have h0:=hi.cts y c g2;obtain⟨u,hu⟩:∃ u,γ y=some u:=by
   cases c with
   | gone=>simp[Ct.alive] at hal
   | sl E k ls=>obtain⟨u,_,hu,_⟩:=h0;exact⟨u,hu⟩
   | bx E ly=>obtain⟨g,_,hu,_⟩:=h0;exact⟨_,hu⟩
   | ob o=>obtain⟨g,hu,_⟩:=h0;exact⟨_,hu⟩
  have e1:γ'' y=γ y:=by simp only[γ'',hnτ y c g2]
  rw[e1,hu];exact(hb.keep x u (by rw[hgc x y h1];exact hu)).symm
 let mm2:=up mm em;have hmm2:∀ y c,mm2 y=some c->lk em y=some c∨(lk em y=none∧mm y=some c):=by
  intro y c h;simp only[mm2,up] at h;cases he:lk em y with
  | none=>rw[he] at h;exact .inr ⟨rfl,h⟩
  | some c'=>rw[he] at h;exact .inl h
 have hnimg:∀ y,lk em y=none->¬ img y:=by rintro y h ⟨x,hx⟩;obtain⟨c,hc⟩:=hall.get y (List.mem_map.2 ⟨_,hx,rfl⟩);rw[h] at hc;cases hc
 have how:∀ b,Ow γ'' mm2 b->Ow γ' (lk mo) b∨S0c b∨LB b:=by
  rintro b ⟨y,c,u,h1,h2,h3,h4⟩;rcases hmm2 y c h1 with h | ⟨h,h'⟩;rcases hem.get y c h with ⟨x,c0,g1,g2,g3⟩ | ⟨rfl,_⟩;exact .inl ⟨x,c0,u,g2,g3.alive.1,by rw[←hg2 y x g1];exact h3,h4⟩;simp[Ct.alive] at h2;have e1:γ'' y=γ y:=by simp only[γ'',hnτ y c h']
  rw[e1] at h3;cases hl:lentB lt y;exact .inr (.inl (.inr ⟨y,c,u,h',h2,hnimg y h,hl,h3,h4⟩));exact .inr (.inr ⟨y,c,u,hl,h',h2,h3,h4⟩)
 have hS2':∀ b,X.S γ'' mm2 b->X.S γ mm b∨w.heap.size≤b:=by rintro b (h | h);exact .inl (.inl h);rcases how b h with h | h | ⟨id,c,v,h0,h1,h2,h3,h4⟩;rcases(hb.mine b h).1 with h | h;exact .inr h;exact .inl (hOwS b h);exact .inl (hS0c b h);exact .inl (.inr ⟨id,c,v,h1,h2,h3,h4⟩)
 have hk:Kp (X.S γ mm) w w':=⟨hb.grow,λb hb' hn=>hb.old b hb' (λh=>hn (hOwS b h))⟩
 have hinv:Inv X st mm2 a w' γ'':={
  size:=hi.size,defs:=hi.defs,s0:=hi.s0,gx:=hi.gx,keep:=λid u hu=>hng id u (hi.keep id u hu)
  os:=hb.os.trans hi.os,tape:=hb.tape.trans hi.tape,output:=hb.output.trans hi.output,grow:=Nat.le_trans hi.grow hb.grow
  old:=by
   intro b hb' hM
   rw[hb.old b (Nat.lt_of_lt_of_le hb' hi.grow) (λh=>by
    obtain⟨y,c,u,h1,h2,h3,h4,h5⟩:=hOwc b h;rcases(hi.mine b ⟨y,c,u,h2,h3,h4,h5⟩).1 with h | h;omega
    exact hM h)]
   exact hi.old b hb' hM
  fresh:=by
   intro y hy;have h1:lk em y=none:=by
    cases he:lk em y with
    | none=>rfl
    | some c=>simp only[mm2,up,he] at hy;cases hy
   have h2:mm y=none:=by simpa only[mm2,up,h1] using hy
   have h3:lk τ y=none:=by
    cases h:lk τ y with
    | none=>rfl
    | some x=>
      obtain⟨c,hc⟩:=hall2.get y (List.mem_map.2 ⟨_,Qax h,rfl⟩);rw[h1] at hc;cases hc
   simp only[γ'',h3];exact hi.fresh y h2
  cts:=by intro y c hy;rcases hmm2 y c hy with h | ⟨h,h'⟩;rcases hem.get y c h with ⟨x,c0,g1,g2,g3⟩ | ⟨rfl,_⟩;have h0:=hb.cts x c0 g2;have h1:Xu w' (X.S γ'' mm2) γ' x c0:=h0.pl (hpm.get g2);exact h1.rn hg2 g1 g3;trivial;by_cases hal:c.alive=true;refine(hi.cts y c h').mono hk hS2' hng ?_;intro u b hu hb';refine hb.old b (hi.mine b ⟨y,c,u,h',hal,hu,hb'⟩).2.1 (λho=>?_);obtain⟨y2,c2,u2,k1,k2,k3,k4,k5⟩:=hOwc b ho;have:=hi.apart y y2 c c2 u u2 b h' hal k2 k3 hu k4 hb' k5;subst this;exact hnimg y h k1;cases c<;>simp[Ct.alive] at hal;trivial
  apart:=by
   have cross:∀ y y' c c' u u' b,lk em y=some c->c.alive=true->lk em y'=none->mm y'=some c'->c'.alive=true->γ'' y=some u->γ'' y'=some u'->blkOf u=some b->blkOf u'=some b->False:=by
    intro y y' c c' u u' b h1 h2 h3 h4 h5 h6 h7 h8 h9;rcases hem.get y c h1 with ⟨x,c0,g1,g2,g3⟩ | ⟨rfl,_⟩;have e1:γ'' y'=γ y':=by simp only[γ'',hnτ y' c' h4]
    rw[e1] at h7;obtain⟨k1,_,k3⟩:=hb.mine b ⟨x,c0,u,g2,g3.alive.1,by rw[←hg2 y x g1];exact h6,h8⟩;cases hl:lentB lt y';exact k3 (.inr ⟨y',c',u',h4,h5,hnimg y' h3,hl,h7,h9⟩);rcases k1 with k1 | k1;have:=(hi.mine b ⟨y',c',u',h4,h5,h7,h9⟩).2.1;omega;exact hLn y' c' u' b hl h4 h5 h7 h9 (.inr k1);simp[Ct.alive] at h2
   intro y y' c c' u u' b h1 h2 h3 h4 h5 h6 h7 h8;rcases hmm2 y c h1 with e1 | ⟨e1,e1'⟩<;>rcases hmm2 y' c' h3 with e2 | ⟨e2,e2'⟩;rcases hem.get y c e1 with ⟨x,c0,g1,g2,g3⟩ | ⟨rfl,_⟩;rcases hem.get y' c' e2 with ⟨x',c0',g1',g2',g3'⟩ | ⟨rfl,_⟩;rw[hg2 y x g1] at h5;rw[hg2 y' x' g1'] at h6;have:=hb.apart x x' c0 c0' u u' b g2 g3.alive.1 g2' g3'.alive.1 h5 h6 h7 h8;subst this;exact Qm4 hσn (Qax g1) (Qax g1') g1 g1';simp[Ct.alive] at h4;simp[Ct.alive] at h2;exact(cross y y' c c' u u' b e1 h2 e2 e2' h4 h5 h6 h7 h8).elim;exact(cross y' y c' c u' u b e2 h4 e1 e1' h2 h6 h5 h8 h7).elim;have k1:γ'' y=γ y:=by simp only[γ'',hnτ y c e1']
   have k2:γ'' y'=γ y':=by simp only[γ'',hnτ y' c' e2']
   rw[k1] at h5;rw[k2] at h6;exact hi.apart y y' c c' u u' b e1' h2 e2' h4 h5 h6 h7 h8
  mine:=by
   intro b h;rcases how b h with h | h | ⟨id,c2,u2,k0,k1,k2,k4,k5⟩;obtain⟨g1,g2,g3⟩:=hb.mine b h;refine⟨?_,g2,λh'=>g3 (.inl h')⟩;rcases g1 with g1 | g1;exact .inl (Nat.le_trans hi.grow g1);obtain⟨y,c,u,k1,k2,k3,k4,k5⟩:=hOwc b g1;exact(hi.mine b ⟨y,c,u,k2,k3,k4,k5⟩).1;obtain⟨y,c,u,h1,h2,h3,h4⟩:=‹Ow γ'' mm2 b›;rcases h with h | ⟨id,c2,u2,k1,k2,k3,k3',k4,k5⟩;rcases hmm2 y c h1 with e1 | ⟨e1,e1'⟩;rcases hem.get y c e1 with ⟨x,c0,g1,g2,g3⟩ | ⟨rfl,_⟩;exact((hb.mine b ⟨x,c0,u,g2,g3.alive.1,by rw[←hg2 y x g1];exact h3,h4⟩).2.2 (.inl h)).elim;simp[Ct.alive] at h2;have k1:γ'' y=γ y:=by simp only[γ'',hnτ y c e1']
   rw[k1] at h3;obtain⟨g1,g2,g3⟩:=hi.mine b ⟨y,c,u,e1',h2,h3,h4⟩;exact(g3 h).elim;obtain⟨g1,g2,g3⟩:=hi.mine b ⟨id,c2,u2,k1,k2,k4,k5⟩;exact⟨g1,Nat.lt_of_lt_of_le g2 hb.grow,g3⟩;obtain⟨g1,g2,g3⟩:=hi.mine b ⟨id,c2,u2,k1,k2,k4,k5⟩;exact⟨g1,Nat.lt_of_lt_of_le g2 hb.grow,g3⟩
  sts:=by
   intro i ly hly;obtain⟨u,hu,hl⟩:=hi.sts i ly hly
   exact⟨u,hu,Ly.val_mono hk hS2' hng ly u hl⟩ }
 have hv:res'.val w' (X.S γ'' mm2) γ'' v:=(hpr w' _ _ γ'').2 v ((hres w' _ γ' γ'' hg2).2 v hb.res);exact hK _ _ _ (hinv.put (by simpa using hd) hv)
end
def nilM(ys:List (Nat×Nat×Nat)):List (Nat×Ct):=ys.map λe=>(e.1,.sl e.2.1 e.2.2 [])
def NilIn(ys:List (Nat×Nat×Nat))(γ:Nm):Prop:=∀ e∈ys,γ e.1=some (.slice none 0 0)
def Qxq(mm:Nat->Option Ct):List (Nat×Nat×Nat)->Prop
 | []=>True
 | e::r=>mm e.1=none∧Qxq mm r
theorem Qzf(mm:Nat->Option Ct)(i:Nat)(c:Ct)(l:List (Nat×Ct)):up mm ((i,c)::l)=up (up mm l) [(i,c)]:=by funext d;simp only[up,lk];cases Nat.beq i d<;>rfl
theorem Q5n{ys:List (Nat×Nat×Nat)}{y:Nat}(h:∀ e∈ys,e.1≠y):lk (nilM ys) y=none:=by
 induction ys with
 | nil=>rfl
 | cons e ys ih=>
   have h1:=h e List.mem_cons_self;have hb:Nat.beq e.1 y=false:=by cases hb:Nat.beq e.1 y;rfl;exact absurd (Nat.eq_of_beq_eq_true hb) h1
   simp only[nilM,List.map_cons,lk,hb,cond];exact ih λe he=>h e (List.mem_cons_of_mem _ he)
theorem Inv.nils{X:Cx}{st a w}:∀(ys:List (Nat×Nat×Nat)) {γ mm},Inv X st mm a w γ->Qxq mm ys->nodupB (ys.map (·.1))=true->∃ γ',Inv X st (up mm (nilM ys)) a w γ'∧Ng γ γ'∧NilIn ys γ'∧∀ z,mm z=none->(∀ e∈ys,e.1≠z)->γ' z=none
 | [],γ,mm,hI,_,_=>⟨γ,hI,Ng.refl _,(λ_ h=>by cases h),λz hz _=>hI.fresh z hz⟩
 | e::ys,γ,mm,hI,hf,hn=>by
   simp only[List.map_cons,nodupB,Bool.and_eq_true,Bool.not_eq_true'] at hn;obtain⟨γ1,h1,h2,h3,h4⟩:=Inv.nils ys hI hf.2 hn.2;have hne:∀ e'∈ys,e'.1≠e.1:=by intro e' he' h;have:(ys.map (·.1)).any (Nat.beq e.1)=true:=List.any_eq_true.2 ⟨e'.1,List.mem_map.2 ⟨e',he',rfl⟩,by rw[h];simp⟩;rw[this] at hn;simp at hn
   have hfr:up mm (nilM ys) e.1=none:=by simp only[up,Q5n hne];exact hf.1
   have:=h1.new (w':=w) (y:=e.1) (ct:=.sl e.2.1 e.2.2 []) (v:=.slice none 0 0) rfl rfl rfl (Kp.refl _ _) hfr rfl
    (λS γ' _ _ _ hy'=>⟨_,[],hy',⟨by simp,.inl ⟨rfl,rfl⟩⟩,rfl,λ_ h=>by cases h⟩) (λb hb=>by simp[blkOf] at hb)
   rw[←Qzf] at this;refine⟨_,this,?_,?_,?_⟩;intro id v hv;have hv1:=h2 id v hv;by_cases he:e.1=id;subst he;rw[hI.fresh e.1 hf.1] at hv;cases hv;simp[Inv.gset,he,hv1];intro e' he';rcases List.mem_cons.1 he' with rfl | he';simp[Inv.gset];have:=hne e' he';simp only[Inv.gset];rw[if_neg (λh=>this h.symm)];exact h3 e' he';intro z hz hzy;have:=hzy e List.mem_cons_self;simp only[Inv.gset];rw[if_neg this];exact h4 z hz λe' he'=>hzy e' (List.mem_cons_of_mem _ he')
def inN(ys:List (Nat×Nat×Nat))(y:Nat):Bool:=ys.any λe=>Nat.beq e.1 y
def ZrO(ys:List (Nat×Nat×Nat))(ly:Ly)(cs:List Value):Prop:=∀ w S γ,NilIn ys γ->ly.hold w S γ cs
def ZrOs(ys:List (Nat×Nat×Nat))(l:List Ly)(cs:List Value):Prop:=∀ w S γ,NilIn ys γ->Ly.holds w S γ l cs
theorem zo_of{ys ly cs}(h:Zr ly cs):ZrO ys ly cs:=λw S γ _=>h w S γ
theorem Qk2{ys y}(h:inN ys y=true):ZrO ys (.own y) [.slice none 0 0]:=λw S γ hn=>by obtain⟨e,he,hy⟩:=List.any_eq_true.1 h;have:=Nat.eq_of_beq_eq_true hy;subst this;exact⟨_,rfl,hn e he,rfl⟩
theorem Jcu{ys y}:ZrO ys (.por y) [.pointer none]:=λ_ _ _ _=>⟨_,rfl,.inl rfl⟩
theorem Qm5{ys l cs}(h:ZrOs ys l cs):ZrO ys (.agg l) cs:=λw S γ hn=>by simp only[Ly.hold];exact h w S γ hn
theorem Qkg{ys}:ZrOs ys [] []:=λ_ _ _ _=>rfl
theorem K0{ys ly l c1 c2}(h1:ZrO ys ly c1)(h2:ZrOs ys l c2):ZrOs ys (ly::l) (c1++c2):=λw S γ hn=>⟨c1,c2,rfl,h1 w S γ hn,h2 w S γ hn⟩
section ops
variable {X:Cx}{st:Nat->Option Ly}{mm:Nat->Option Ct}
theorem alOw{d T ty pos af y k b z ly}(ys:List (Nat×Nat×Nat))(hT:TyI X.P T k b z)(hz:ZrO ys ly z.cells.toList)(hf:Qxq mm ys)(hn:nodupB (y::ys.map (·.1))=true)(hy:mm y=none)(hd:Nat.blt d X.N=true):
 OpOk X st mm ⟨some d,.alloc T,ty,pos,af,none⟩ [(d,.own y)] ((y,.bx T ly)::nilM ys):=by
 intro a w γ K Q hI hK;simp only[nodupB,Bool.and_eq_true,Bool.not_eq_true'] at hn;obtain⟨γ1,h1,h2,h3,h4⟩:=hI.nils ys hf hn.2;have hne:∀ e'∈ys,e'.1≠y:=by intro e' he' h;have:(ys.map (·.1)).any (Nat.beq y)=true:=List.any_eq_true.2 ⟨e'.1,List.mem_map.2 ⟨e',he',rfl⟩,by rw[h];simp⟩;rw[this] at hn;simp at hn
 have hfr:up mm (nilM ys) y=none:=by simp only[up,Q5n hne];exact hy
 have hnew:=h1.new (w':=w.alloc (.cells z.cells T)) (y:=y) (ct:=.bx T ly) (v:=.pointer (some ⟨w.heap.size,0,none⟩)) rfl rfl rfl (Qhu _ _ _) hfr rfl
  (λS γ' _ _ hg hy'=>⟨w.heap.size,z.cells,hy',Ql8 _ _,hz _ _ _ (λe he=>hg _ _ (h3 e he))⟩) (λb hb=>by simp[blkOf] at hb;subst hb;simp)
 rw[←Qzf] at hnew;have hrun:(execOp a.eval ⟨some d,.alloc T,ty,pos,af,none⟩).run X.P w=.ok (.value (.pointer (some ⟨w.heap.size,0,none⟩))) (w.alloc (.cells z.cells T)):=by simp only[execOp];simp[Instr.alloc,Qct hT,newVar,newRow]
 unfold Oper.wp;rw[hrun];exact hK _ _ _ (hnew.put (d:=d) (ly:=.own y) (by simpa using hd) ⟨by simp[Inv.gset],rfl⟩)
theorem bldO{d T parts ty pos af pl k b z lz l}(ys:List (Nat×Nat×Nat))(hT:Plc X.P T pl)(hE:TyI X.P T k b z)(hz:ZrO ys lz z.cells.toList)(hf:Qxq mm ys)(hn:nodupB (ys.map (·.1))=true)(hp:BPart st pl parts lz (.agg l))(hd:Nat.blt d X.N=true):
 OpOk X st mm ⟨some d,.build T ⟨parts⟩,ty,pos,af,none⟩ [(d,.agg l)] (nilM ys):=by
 intro a w γ K Q hI0 hK;obtain⟨γ1,hI,h2,h3,h4⟩:=hI0.nils ys hf hn;obtain⟨fs,h1,h2⟩:=hT;obtain⟨cells',g1,g2⟩:=Qmx hI parts lz (.agg l) z.cells hp (hz _ _ _ h3);have hpl:(fs.mapM (λf=>(do pure (f.offset,←sizeOf f.type):Sem (Nat×Nat)))).run X.P w=.ok pl.toArray w:=by
  have e:fs.mapM (λf=>(do pure (f.offset,←sizeOf f.type):Sem (Nat×Nat)))=List.toArray <$> (fs.toList.mapM (λf=>(do pure (f.offset,←sizeOf f.type):Sem (Nat×Nat)))):=by
   conv=>lhs;rw[←Array.toArray_toList (xs:=fs)]
   rw[List.mapM_toArray]
  rw[e];simp only[Sem.run_map,Qsc _ _ h2,Result.andThen_ok]
 have hrun:(execOp a.eval ⟨some d,.build T ⟨parts⟩,ty,pos,af,none⟩).run X.P w=.ok (.value (.agg cells')) w:=by
  simp only[execOp,Instr.build];have hfill:Instr.fill (λi=>pl.toArray[i]?) z.cells (parts.map λ(i,x)=>(i,a.eval x))=some cells':=by simpa using g1
  simp only[Sem.run_bind,Qct hE,Result.andThen_ok,underlying,run_program,h1,Sem.run_pure,hpl];simp only[List.map_toArray,hfill];rfl
 unfold Oper.wp;rw[hrun];exact hK _ _ _ (hI.put (d:=d) (ly:=.agg l) (by simpa using hd) ⟨_,rfl,by simpa [Ly.hold] using g2⟩)
def ub(b:UInt8):Ly:=u8 b.toNat
theorem if_ub{x}:IF (ub x):=Qfv _
def nilI:Ly:=.cell (cpX .nilIface rfl)
theorem Qzg:IF nilI:=Qfv _
theorem kNI:OpdF st (.const .nilIface) nilI:=λ_ _ _=>by simp[nilI,Ly.val,cpX]
theorem Q2s{w S γ}:∀(s:List UInt8),Ly.holds w S γ (s.map ub) (s.map λb=>Value.int .u8 b.toNat)
 | []=>rfl
 | b::s=>⟨[_],_,rfl,⟨_,rfl,rfl,by have:=b.toNat_lt;simp[IntKind.min,IntKind.signed],by have:=b.toNat_lt;simp[IntKind.max,IntKind.bits,IntKind.signed];omega⟩,Q2s s⟩
theorem appS{d s x T U ty pos af y id E b z}{xs str0 zs:List UInt8}(hz:appM b xs str0=some zs)(hm:mm id=some (.sl E 1 (xs.map ub)))(hT:X.P.underlying T=some (.slice E))(hU:X.P.underlying U=some .string)(hE:TyI X.P E 1 b z)(hz0:z=.int .u8 0)(hb1:b=1)
 (hs:OpdF st s (.own id)) (hx:OpdF st x (str str0)) (hy:mm y=none) (hd:Nat.blt d X.N=true) :
 OpOk X st mm ⟨some d,.call { callee:=.builtin .append,args:=#[s,x],argTypes:=#[T,U] },ty,pos,af,none⟩ [(d,.own y)] [(y,.sl E 1 (zs.map ub)),(id,.gone)]:=by
 subst hz0 hb1;intro a w γ K Q hI hK;unfold appM at hz;split at hz
 case isFalse=>cases hz
 rename_i hle;obtain⟨hbytes,h63⟩:=hle;cases hz;obtain⟨i,hi,hz0,hsz,hby⟩:=hE;obtain⟨v,cs,e1,e2,e3,e4⟩:=slI hI hm;obtain⟨hv,hv1⟩:=hs.val hI;have hvs:a.eval s=v:=by rw[hv] at e1;simpa using e1
 rw[List.length_map] at e2;obtain⟨hxv,hxl⟩:=hx.val hI;have hss:(ByteArray.mk str0.toArray).size=str0.length:=by simp[ByteArray.size]
 have hsc:Lib.strCells ⟨str0.toArray⟩=str0.map λb=>Value.int .u8 b.toNat:=by simp[Lib.strCells]
 obtain⟨v',w',r1,r2,r3,r4⟩:=Lib.run_append_own_string (P:=X.P) w 0 T U ty E i hT hU hi hz0 hsz hby v xs.length cs e2 ⟨str0.toArray⟩ (by rw[hss];unfold maxLen;omega) (by rw[hss];omega) (Nat.zero_le _);rw[hss,hsc] at r2;have hob:v.ownBlock=blkOf v:=by rcases e2.2 with ⟨rfl,_⟩ | ⟨g,cap,cur,rfl,_⟩<;>rfl
 have hrun:(execOp a.eval ⟨some d,.call { callee:=.builtin .append,args:=#[s,x],argTypes:=#[T,U] },ty,pos,af,none⟩).run X.P w=.ok (.value v') w':=by simp only[execOp,resolve];simp[invoke,builtin,hvs,hxv,r1]
 have hk:Kp (λb=>blkOf v=some b) w w':=⟨r3.size,λb hb' hn=>r3.block b hb' (by rw[hob];exact λh=>hn h.symm)⟩
 have hkS:Kp (X.S γ mm) w w':=⟨r3.size,λb hb' hn=>hk.2 b hb' (λh=>hn (.inr ⟨id,_,v,hm,rfl,e1,h⟩))⟩
 have hone:v'.oneCell'=true:=by rcases r2.2 with ⟨rfl,_⟩ | ⟨g,cap,cur,rfl,_⟩<;>rfl
 have hblk:∀ b,blkOf v'=some b->(blkOf v=some b∨w.heap.size≤b):=by
  intro b hb;rcases e2 with ⟨hcl,⟨rfl,hn0⟩ | ⟨g,cap0,cur,rfl,_,g2,g3,g4,g5,g6⟩⟩
  . obtain⟨v2,w2,q1,q2,_,_⟩:=Lib.run_append_own_string (P:=X.P) w w.heap.size T U ty E i hT hU hi hz0 hsz hby (.slice none 0 0) xs.length cs ⟨hcl,.inl ⟨rfl,hn0⟩⟩ ⟨str0.toArray⟩ (by rw[hss];unfold maxLen;omega) (by rw[hss];omega) (Nat.le_refl _)
    rw[r1] at q1;obtain⟨rfl,rfl⟩:v'=v2∧w'=w2:=by simpa using q1
    rcases q2.2 with ⟨rfl,_⟩ | ⟨g,cap1,cur1,rfl,hge,_⟩
    . simp[blkOf] at hb
    . simp[blkOf] at hb;subst hb;exact .inr hge
  . have hsrc:Src X.P i.size U (.string ⟨str0.toArray⟩) (ByteArray.mk str0.toArray).size (byteCells ⟨str0.toArray⟩) w:=by rw[hsz];exact Src.ofString w hU _
    by_cases hroom:xs.length+str0.length≤cap0
    . have hr2:=run_append_room_src (P:=X.P) w T U ty E i hT hi g 0 xs.length cap0 _ _ _ hsrc (by rw[hss];exact hroom)
       (λj hj=>by
        rw[byteCells_length,hss] at hj;rw[Wg g2,hsz];have:0+xs.length*1+j<cur.size:=by omega
        rw[Array.getElem?_eq_getElem this];rfl)
       (λj hj=>by simp[World.frozen?,g2])
      rw[r1] at hr2;simp at hr2;rw[hr2.1] at hb;exact .inl hb
    . have hold:(Builtin.firstCells i.size xs.length (.slice (some ⟨g,0,none⟩) xs.length cap0)).run X.P w.drew=.ok cs.toArray w.drew:=
       run_firstCells_some w.drew i.size xs.length ⟨g,0,none⟩ xs.length cap0 cs (by rw[hsz];exact hcl) (λj u hj=>by
        rw[add0,Nat.zero_add];have:w.drew.cell? ⟨g,j,none⟩=w.cell? ⟨g,j,none⟩:=rfl;rw[this,Wg g2,←Array.getElem?_toList];rw[←g6,List.getElem?_take] at hj;split at hj
        . exact hj
        . cases hj)
      have hr2:=run_append_grow_src (P:=X.P) w T U ty E i _ hT hi hz0 (some ⟨g,0,none⟩) xs.length cap0 cs hold _ _ _ hsrc (by rw[hss];omega) (by rw[hss];omega) (growslice_fits (by rw[hss];omega) (by rw[hby,hss];omega));rw[r1] at hr2;simp at hr2;rw[hr2.1] at hb;simp[blkOf] at hb;subst hb;exact .inr (Nat.le_refl _)
 unfold Oper.wp;rw[hrun]
 have hinv:=hI.replace r3.os r3.tape r3.output hm rfl e1 hk (y:=y) (ct:=.sl E 1 ((xs++str0).map ub)) (v':=v') hy rfl
  (λS γ' hS hng hy'=>by
   refine⟨v',cs++str0.map (λb=>Value.int .u8 b.toNat),hy',by simpa using r2,?_,?_⟩
   . rw[List.map_append]
     exact Qhv (Ly.holds_mono hkS hS hng _ _ e3) (Q2s _)
   . intro ly hly
     obtain⟨x,_,rfl⟩:=List.mem_map.1 hly;rfl)
  (λb hb'=>⟨hblk b hb',by
   rcases r2.2 with ⟨rfl,_⟩ | ⟨g,cap,cur,rfl,_,h2,_⟩
   . simp[blkOf] at hb'
   . simp[blkOf] at hb';subst hb'
     rcases Nat.lt_or_ge g w'.heap.size with h | h
     . exact h
     . simp[Array.getElem?_eq_none h] at h2⟩)
 exact hK _ _ _ (hinv.put (d:=d) (v:=v') (ly:=.own y) (by simpa using hd) ⟨by simp[Inv.gset],hone⟩)
end ops
theorem Inv.dropc{X:Cx}{st mm a w γ}(h:Inv X st mm a w γ){w':World}(hos:w'.os=w.os)(ht:w'.tape=w.tape)(hout:w'.output=w.output){id:Nat}{c:Ct}{v:Value}(hid:mm id=some c)(hc:c.alive=true)(hv:γ id=some v)
 (hk:Kp (λb=>blkOf v=some b) w w'):Inv X st (up mm [(id,.gone)]) a w' γ:=by
 have how:∀ b,Ow γ (up mm [(id,.gone)]) b->∃ i c' u,i≠id∧mm i=some c'∧c'.alive=true∧γ i=some u∧blkOf u=some b:=by rintro b ⟨i,c',u,h1,h2,h3,h4⟩;rw[Vx] at h1;by_cases e:id=i;simp[e] at h1;subst h1;simp[Ct.alive] at h2;simp[e] at h1;exact⟨i,c',u,λe'=>e e'.symm,h1,h2,h3,h4⟩
 have hS:∀ b,X.S γ (up mm [(id,.gone)]) b->X.S γ mm b:=λb h=>orM h (λx=>x) (λh=>by obtain⟨i,c',u,_,h1,h2,h3,h4⟩:=how b h;exact⟨i,c',u,h1,h2,h3,h4⟩)
 have hkS:Kp (X.S γ mm) w w':=⟨hk.1,λb hb hn=>hk.2 b hb (λe=>hn (.inr ⟨id,c,v,hid,hc,hv,e⟩))⟩
 refine { h with os:=hos.trans h.os,tape:=ht.trans h.tape,output:=hout.trans h.output,grow:=Nat.le_trans h.grow hk.1,old:=?_,fresh:=?_,cts:=?_,apart:=?_,mine:=?_,sts:=?_ };intro b hb hM
 rw[hk.2 b (Nat.lt_of_lt_of_le hb h.grow) (λe=>by
  rcases(h.mine b ⟨id,c,v,hid,hc,hv,e⟩).1 with h1 | h1;omega
  exact hM h1)]
 exact h.old b hb hM;intro i hi;rw[Vx] at hi;by_cases e:id=i;simp[e] at hi;simp[e] at hi;exact h.fresh i hi;intro i c' hc';rw[Vx] at hc';by_cases e:id=i;simp[e] at hc';subst hc';trivial;simp[e] at hc';by_cases hal':c'.alive=true;refine(h.cts i c' hc').mono hkS (λb hb=>.inl (hS b hb)) (Ng.refl _) ?_;intro u b hu hb;exact hk.2 b (h.mine b ⟨i,c',u,hc',hal',hu,hb⟩).2.1 (λhbe=>e (h.apart id i c c' v u b hid hc hc' hal' hv hu hbe hb));cases c'<;>simp[Ct.alive] at hal';trivial;intro i i' c1 c2 u u' b h1 h2 h3 h4;rw[Vx] at h1 h3;by_cases e:id=i;simp[e] at h1;subst h1;simp[Ct.alive] at h2;by_cases e':id=i';simp[e'] at h3;subst h3;simp[Ct.alive] at h4;simp[e] at h1;simp[e'] at h3;exact h.apart i i' c1 c2 u u' b h1 h2 h3 h4;intro b hb;obtain⟨i,c',u,_,h1,h2,h3,h4⟩:=how b hb;obtain⟨g1,g2,g3⟩:=h.mine b ⟨i,c',u,h1,h2,h3,h4⟩;exact⟨g1,Nat.lt_of_lt_of_le g2 hk.1,g3⟩;intro d ly hd;obtain⟨u,hu,hl⟩:=h.sts d ly hd;exact⟨u,hu,Ly.val_mono hkS (λb hb=>.inl (hS b hb)) (Ng.refl _) ly u hl⟩
theorem Qha{P:Program}{d f:Nat}{args:List Operand}{argTypes ty pos af}{a:Act}{w:World}{K:Act->World->Prop}{Q:Exit->Act->World->Prop}{R:Ending->World->Prop}
 (hf:∃ fn,P.funcs[f]?=some fn∧(fn.name == "runtime.NumGoroutine")=false∧fn.body.isSome=true) (hc:Calls P f (args.map a.eval).toArray w R)
 (hK:∀ e w',R e w'->∃ v,e=.returned v∧K (a.put (some d) v) w') :
 Oper.wp P ⟨some d,.call { callee:=.value (.func f),args:=⟨args⟩,argTypes:=argTypes },ty,pos,af,none⟩ a w K Q:=by
 obtain⟨fn,hfn,hname,hbody⟩:=hf;have hrun:(execOp a.eval ⟨some d,.call { callee:=.value (.func f),args:=⟨args⟩,argTypes:=argTypes },ty,pos,af,none⟩).run P w=.ok (.enter f (args.map a.eval).toArray) w:=by
  have e1:fn.body.isNone=false:=by cases h:fn.body<;>simp[h] at hbody ⊢
  have e2:¬ fn.name= "runtime.NumGoroutine":=by simpa using hname
  simp only[execOp,resolve,Act.eval];simp[Deferred.ofValue,invoke,callFunc,hfn,e2];intro e3;rw[e3] at e1;cases e1
 unfold Oper.wp;rw[hrun,Oper.upon_enter];refine hc.mono ?_;intro e w' hR;obtain⟨v,rfl,hk⟩:=hK e w' hR;exact hk
def Turns(g:Option Nat)(w w':World):Prop:=w'.os=w.os∧w'.tape=w.tape∧w'.output=w.output∧Kp (λb=>g=some b) w w'
theorem Q5o{P:Program}{f:Nat}{args:List Ly}{res:Ly}(hf:∃ fn,P.funcs[f]?=some fn∧(fn.name == "runtime.NumGoroutine")=false∧fn.body.isSome=true)
 (h:∀ w S γ (vs:Array Value),Ly.vals w S γ args vs.toList->Calls P f vs w λe w'=>∃ v,e=.returned v∧w'=w∧res.val w S γ v):FnOk P f args [] res []:=by
 refine⟨hf,λw S0 γ vs h1 h2 h3 h4 h5 h6 _=>(h w _ γ vs h6).mono ?_⟩;rintro e w' ⟨v,rfl,rfl,hv⟩;exact⟨v,γ,rfl,⟨rfl,rfl,rfl,Nat.le_refl _,λ_ _ _=>rfl,Ng.refl _,h2,(λ_ _ h=>by cases h),(λ_ _ _ _ _ _ _ h=>by cases h),(λb ⟨_,_,_,h,_⟩=>by cases h),hv⟩⟩
section
variable {R:Type}{X:Cx}{l:List (Nat×Ly)}{m:List (Nat×Ct)}{md:Option R}{Q:R->Exit->Act->World->Prop}
theorem sscp{c:Code}(h:Sq X l m md (λr=>c.wp X.P (Exit.noGoto (Q r)))):Sq X l m md (λr=>(Code.scope c).wp X.P (Q r)):=λr a w γ hr hi=>wp_scope_straight (h r a w γ hr hi)
theorem slab{i:Nat}(h:Sq X l m md (λr=>Q r .normal)):Sq X l m md (λr=>(Code.label i).wp X.P (Q r)):=λr a w γ hr hi=>wp_label (h r a w γ hr hi)
theorem pgn(h:Sq X l m md (λr=>Q r .normal)):Sq X l m md (λr=>Exit.noGoto (Q r) .normal):=h
theorem pgr(h:Sq X l m md (λr=>Q r .ret)):Sq X l m md (λr=>Exit.noGoto (Q r) .ret):=h
theorem pgx{i:Nat}(h:Sq X l m md (λr=>Q r (.exit i))):Sq X l m md (λr=>Exit.noGoto (Q r) (.exit i)):=h
end
section ops
variable {X:Cx}{st:Nat->Option Ly}{mm:Nat->Option Ct}
theorem negU{d x T ty pos af p k N}(hu:UK k N)(hd:Nat.blt d X.N=true)(hx:OpdF st x (uk k p)):
 OpOk X st mm ⟨some d,.unOp .neg T x,ty,pos,af,none⟩ [(d,uk k ((N - p)%N))] []:=
 Ws hd λa w γ hi=>by
  obtain⟨h1,_,h2⟩:=hx.val hi;rw[hu.max] at h2;have:(0 - (p:Int))%(N:Int)=(((N - p)%N:Nat):Int):=by rw[Int.natCast_emod,Int.ofNat_sub (by omega),show(0:Int) - p=(N:Int) - p+(-1)*N by omega,Int.add_mul_emod_self_right]
  refine⟨.int k (((N - p)%N:Nat):Int),by simp only[execOp,h1];simp only[Op.unary,Op.intArith,hu.wrap,this];rfl,rfl,uk_b hu _ (Nat.mod_lt _ hu.pos)⟩
def andZ(p q:Int):Int:=((BitVec.ofInt 64 p &&& BitVec.ofInt 64 q).toNat:Int)
theorem andI{d x y T T2 ty pos af p q}(hd:Nat.blt d X.N=true)(hx:OpdF st x (i64 p))(hy:OpdF st y (i64 q)):
 OpOk X st mm ⟨some d,.binOp .and T x y T2,ty,pos,af,none⟩ [(d,i64 (wrap64 (andZ p q)))] []:=arI (λw=>by simp only[binOp,Op.intBits,Qk0,andZ];rfl) rfl hd hx hy
end ops
theorem Qja{σ y x off len}(h:lk σ y=some x):Rn σ (.win x off len) (.win y off len):=λw S γ γ' hg=>by have:=hg y x h;exact⟨λcs g=>by obtain⟨v,rfl,v0,g1,g2⟩:=g;exact⟨v,rfl,v0,by rw[this];exact g1,g2⟩,λv g=>by simp only[Ly.val] at g ⊢;obtain⟨v0,g1,g2⟩:=g;exact⟨v0,by rw[this];exact g1,g2⟩⟩
theorem owW{R:Type}{X:Cx}{l:List (Nat×Ly)}{m:List (Nat×Ct)}{md:Option R}{G:R->Act->World->Prop}(d:Nat){id E ls n}(hd:lk l d=some (.own id))(hm:lk m id=some (.sl E 1 ls))(hn:n=ls.length)
 (K:Sq X ((d,.win id 0 n)::l) m md G):Sq X l m md G:=by
 subst hn;intro r a w γ hr hi;refine K r a w γ hr { hi with sts:=λi ly h=>?_ };simp only[lk] at h;cases hb:Nat.beq d i;rw[hb] at h;exact hi.sts i ly h;rw[hb] at h;have:d=i:=Nat.eq_of_beq_eq_true hb;subst this;simp only[cond,Option.some.injEq] at h;subst h;obtain⟨v,h1,h2,_⟩:=hi.sts d _ hd;refine⟨v,h1,?_⟩;obtain⟨u,cs,e1,⟨e2,e3⟩,_⟩:=slI hi hm;rw[h2] at e1;cases e1;refine⟨v,h2,?_⟩;rcases e3 with ⟨rfl,hn⟩ | ⟨g,cap,cur,rfl,_,_,h3,h4,_⟩;exact .inl ⟨rfl,rfl,hn⟩;exact .inr ⟨g,cap,0,rfl,rfl,λ_=>rfl,h3,h4⟩
def winS(i:Int)(len:Nat):Bool:=decide (0≤i) && decide (i<len)
def winC(lo hi:Int)(len:Nat):Bool:=decide (0≤lo) && (decide (lo≤hi) && decide (hi≤len))
def subW{α:Type}(xs:List α)(off len:Nat):Option (List α):=if off+len≤xs.length then some ((xs.drop off).take len) else none
theorem Ja7{α:Type}{xs:List α}{off len y}(h:subW xs off len=some y):off+len≤xs.length:=by unfold subW at h;split at h;assumption;cases h
theorem Qsd{α:Type}{f:α->Ly}{xs:List α}{off len y}(h:subW xs off len=some y):off+len≤(xs.map f).length:=by rw[List.length_map];exact Ja7 h
theorem Qse{α:Type}{f:α->Ly}{xs:List α}{off len y}(h:subW xs off len=some y):sli 1 (y.map f)=sli 1 (((xs.map f).drop off).take len):=by unfold subW at h;split at h;cases h;rw[←List.map_drop,←List.map_take];cases h
theorem frzW{R:Type}{X:Cx}{l:List (Nat×Ly)}{m:List (Nat×Ct)}{md:Option R}{G:R->Act->World->Prop}(d:Nat){id off len E}{α:Type}{f:α->Ly}{xs y:List α}(hs:subW xs off len=some y)
 (hd:lk l d=some (.win id off len)) (hm:lk m id=some (.sl E 1 (xs.map f))) (hif:IFs (xs.map f)) (K:Sq X ((d,sli 1 (y.map f))::l) ((id,.gone)::m) md G):Sq X l m md G:=by
 intro r a w γ hr hi;rw[Qse hs] at K;refine K r a w γ hr ?_;have hle:=Qsd (f:=f) hs;generalize xs.map f=ls at *;obtain⟨v,cs,e1,⟨e2,e3⟩,e4,e5⟩:=slI hi hm;obtain⟨v1,t1,v0,f1,f2⟩:=hi.sts d _ hd;rw[e1] at f1;cases f1;have hdr:=hi.drop id;have hS:∀ b,X.S γ (up (lk m) [(id,.gone)]) b->X.S γ (lk m) b:=by rintro b (h | ⟨i,c',u,h1,h2,h3,h4⟩);exact .inl h;rw[Vx] at h1;by_cases e:id=i;simp[e] at h1;subst h1;simp[Ct.alive] at h2;simp[e] at h1;exact .inr ⟨i,c',u,h1,h2,h3,h4⟩
 have hhs:Ly.holds w (X.S γ (up (lk m) [(id,.gone)])) (λ_=>none) ls cs:=Ly.holds_mono (Kp.refl _ _) (λb hb=>.inl (hS b hb)) (Ng.refl _) _ _ ((hif w _ γ (λ_=>none)).1 _ e4);obtain⟨_,s2⟩:=Qea off hhs e5;obtain⟨s3,_⟩:=Qea len s2 (λly hl=>e5 ly (List.mem_of_mem_drop hl));have hp:(sli 1 ((ls.drop off).take len)).val w (X.S γ (up (lk m) [(id,.gone)])) γ v1:=by
  rcases f2 with ⟨f3,f4,f5⟩ | ⟨g,cap,o,f3,f4,fo,f5,f6⟩;rw[f3];subst f5;exact .inl ⟨rfl,by simp⟩;rcases e3 with ⟨e3,_⟩ | ⟨g',cap',cur,e3,_,h2,h3,h4,h5,h6⟩;rw[e3] at f3;simp[blkOf] at f3;subst e3;simp[blkOf] at f3;subst f3;have hmine:=hi.mine g' ⟨id,_,_,hm,rfl,e1,rfl⟩;have hlen:((ls.drop off).take len).length=len:=by simp;omega
  rw[f4];refine .inr (.inl ⟨g',o,cap,(cs.drop (off*1)).take (len*1),?_,?_,f6,hmine.2.1,?_,λj u hj=>?_,s3,λly hl=>e5 ly (List.mem_of_mem_drop (List.mem_of_mem_take hl))⟩);rw[hlen];rw[hlen];exact f5;rintro(h | ⟨i,c',u,k1,k2,k3,k4⟩);exact hmine.2.2 h;rw[Vx] at k1;by_cases e:id=i;simp[e] at k1;subst k1;simp[Ct.alive] at k2;simp[e] at k1;exact e (hi.apart id i _ c' _ u g' hm rfl k1 k2 e1 k3 rfl k4);rw[Wg h2,←Array.getElem?_toList];rw[List.getElem?_take] at hj;split at hj;rw[fo (by omega)];rw[List.getElem?_drop,←h6,List.getElem?_take] at hj;split at hj;rw[Nat.mul_one] at hj;exact hj;cases hj;cases hj
 have hdr':Inv X (lk l) (lk ((id,.gone)::m)) a w γ:=by have:=hdr;rwa [up_lk] at this
 refine { hdr' with sts:=λi ly h=>?_ };simp only[lk] at h;cases hb:Nat.beq d i;rw[hb] at h;exact hdr'.sts i ly h;rw[hb] at h;have:d=i:=Nat.eq_of_beq_eq_true hb;subst this;simp only[cond,Option.some.injEq] at h;subst h;refine⟨v1,t1,?_⟩;have e:X.S γ (lk ((id,.gone)::m))=X.S γ (up (lk m) [(id,.gone)]):=by rw[up_lk];rfl
 rw[e];exact hp
section ops
variable {X:Cx}{st:Nat->Option Ly}{mm:Nat->Option Ct}
theorem lenW{d x T ty pos af E id off len}(hT:X.P.underlying T=some (.slice E))(hd:Nat.blt d X.N=true)(hx:OpdF st x (.win id off len)):
 OpOk X st mm ⟨some d,.call { callee:=.builtin .len,args:=#[x],argTypes:=#[T] },ty,pos,af,none⟩ [(d,i64 (len:Nat))] []:=
 Qxj hd hx λa w γ hi v hv=>by obtain⟨v0,_,⟨rfl,_,rfl⟩ | ⟨g,cap,o,_,rfl,_,h1,h2⟩⟩:=hv;exact⟨by unfold Builtin.len_;simp[underlying,hT,goInt],len_b (Nat.zero_le _)⟩;exact⟨by unfold Builtin.len_;simp[underlying,hT,goInt],len_b (by omega)⟩
theorem ixW{kk:IntKind}{d x i T ty pos af E E' b z p id}{off len:Nat}{α:Type}{f:α->Ly}{xs:List α}{y:α}(hw:winS p len=true)(_:mm id=some (.sl E' 1 (xs.map f)))(hT:X.P.underlying T=some (.slice E))(hE:TyI X.P E 1 b z)(_:getI xs ((off:Int)+p)=some y)
 (hd:Nat.blt d X.N=true) (hx:OpdF st x (.win id off len)) (hi:OpdF st i (.cell (cpI kk p))) :
 OpOk X st mm ⟨some d,.indexAddr T x i,ty,pos,af,none⟩ [(d,.ptr id (Int.toNat ((off:Int)+p)*1))] []:=
 Ws hd λa w γ hI=>by simp only[winS,Bool.and_eq_true,decide_eq_true_eq] at hw;obtain⟨h0,hl⟩:=hw;obtain⟨g1,_⟩:=hi.val hI;obtain⟨v0,e1,⟨_,_,h⟩ | ⟨g,cap,o,e2,e3,e4,e5,e6⟩⟩:=hx.val hI;omega;rw[e4 (by omega)] at e3;refine⟨.pointer (some ⟨g,Int.toNat ((off:Int)+p)*1,none⟩),?_,v0,g,e1,e2,rfl⟩;simp only[execOp,e3,g1];rw[show Int.toNat ((off:Int)+p)*1=off+p.toNat*1 by omega];simp[Instr.indexAt,asIntOf,underlying,hT,h0,hl,Xc hE,add0]
theorem slW{d x lo hi T ty pos af E E' b z p q id off len}{ls:List Ly}(hw:winC p q len=true)(_:mm id=some (.sl E' 1 ls))(hT:X.P.underlying T=some (.slice E))(hE:TyI X.P E 1 b z)
 (hd:Nat.blt d X.N=true) (hx:OpdF st x (.win id off len)) (hlo:BndF st 0 lo p) (hhi:BndF st len hi q) :
 OpOk X st mm ⟨some d,.slice T x lo hi none,ty,pos,af,none⟩ [(d,.win id (off+p.toNat) (q.toNat - p.toNat))] []:=
 Ws hd λa w γ hI=>by
  simp only[winC,Bool.and_eq_true,decide_eq_true_eq] at hw;obtain⟨h0,h1,h2⟩:=hw;have hlo':(lo.map a.eval=none∧p=0)∨∃ kk,lo.map a.eval=some (.int kk p):=by rcases Qof hI hlo with ⟨rfl,h⟩ | ⟨x,kk,rfl,h⟩;exact .inl ⟨rfl,h⟩;exact .inr ⟨kk,by simp[h]⟩
  have hhi':(hi.map a.eval=none∧q=(len:Nat))∨∃ kk,hi.map a.eval=some (.int kk q):=by rcases Qof hI hhi with ⟨rfl,h⟩ | ⟨x,kk,rfl,h⟩;exact .inl ⟨rfl,h⟩;exact .inr ⟨kk,by simp[h]⟩
  obtain⟨v0,e1,⟨e2,e3,rfl⟩ | ⟨g,cap,o,e2,e3,e4,e5,e6⟩⟩:=hx.val hI;obtain rfl:q=0:=by omega
  obtain rfl:p=0:=by omega
  refine⟨.slice none 0 0,?_,v0,e1,.inl ⟨rfl,e3,rfl⟩⟩;have:=Qbp (P:=X.P) (w:=w) (isS:=true) (len:=0) (cap:=0) hlo' hhi' (by omega) (by omega) (by omega);simp only[execOp,e2];simp[Instr.sliceAt,Instr.slice,underlying,hT,this,Xc hE];have hb:=Qbp (P:=X.P) (w:=w) (isS:=true) (len:=len) (cap:=cap) hlo' hhi' h0 h1 (by omega);by_cases hc:cap=p.toNat;subst hc;refine⟨.slice (some ⟨g,o,none⟩) (q.toNat - p.toNat) (p.toNat - p.toNat),?_,v0,e1,.inr ⟨g,p.toNat - p.toNat,o,e2,rfl,λh=>by omega,by omega,by omega⟩⟩;simp only[execOp,e3];simp[Instr.sliceAt,Instr.slice,underlying,hT,hb,Xc hE];refine⟨.slice (some ⟨g,o+p.toNat*1,none⟩) (q.toNat - p.toNat) (cap - p.toNat),?_,v0,e1,.inr ⟨g,cap - p.toNat,o+p.toNat*1,e2,rfl,λh=>by rw[e4 (by omega)];omega,by omega,by omega⟩⟩;simp only[execOp,e3];simp[Instr.sliceAt,Instr.slice,underlying,hT,hb,Xc hE,hc,add0]
end ops
def methRow(P:Program)(T:Nat)(nm:String):Option (Bool×Option (Nat×Bool)):=(P.info? T).bind λi=>(i.methods.find? (·.name == nm)).map λm=>(m.path.isEmpty,m.func)
def MethF(P:Program)(T:Nat)(nm:String)(f:Nat):Prop:=methRow P T nm=some (true,some (f,false))∧∃ fs,P.underlying T=some (.struct fs)
section call
variable {X:Cx}{st:Nat->Option Ly}{mm:Nat->Option Ct}
theorem Q6a{P:Program}{w:World}{T:Nat}{nm:String}{f k:Nat}{u:Value}(hm:MethF P T nm f):(method (k+1) T u nm).run P w=.ok (f,u) w:=by
 obtain⟨hr,fs,h5⟩:=hm;obtain⟨i,m,h1,h2,h3,h4⟩:∃ i m,P.info? T=some i∧i.methods.find? (·.name == nm)=some m∧m.path=#[]∧m.func=some (f,false):=by
  unfold methRow at hr;cases h1:P.info? T with
  | none=>rw[h1] at hr;cases hr
  | some i=>
    rw[h1] at hr;simp only[Option.bind_some] at hr;cases h2:i.methods.find? (·.name == nm) with
    | none=>rw[h2] at hr;cases hr
    | some m=>
      rw[h2] at hr;simp only[Option.map_some,Option.some.injEq,Prod.mk.injEq] at hr;exact⟨i,m,rfl,h2,by simpa using hr.1,hr.2⟩
 unfold method;have e1:(typeInfo T).run P w=.ok i w:=by simp[typeInfo,h1]
 have e2:(underlying T).run P w=.ok (.struct fs) w:=by simp[underlying,h5]
 simp only[Sem.run_bind,e1,Result.andThen_ok,h2,h3,h4];simp[follow,receiverAt,e2,Place.get]
theorem mkIf{d T x ty pos af ly fs}(hT:X.P.underlying T=some (.struct fs))(hd:Nat.blt d X.N=true)(hx:OpdF st x ly):
 OpOk X st mm ⟨some d,.makeInterface T x,ty,pos,af,none⟩ [(d,.ifc T ly)] []:=
 Ws hd λa w γ hi=>by refine⟨.iface T (a.eval x),?_,⟨_,rfl,hx.val hi⟩⟩;simp only[execOp];simp[Instr.makeInterface,underlying,hT]
theorem callI{d r nm T f args argTypes ty pos af ly0 ly1 largs mi res mo res' em}(ρ τ σ:List (Nat×Nat))(hr:OpdF st r (.ifc T ly0))(hm:MethF X.P T nm f)(hf:FnOk X.P f (ly1::largs) mi res mo)(hr1:Rn ρ ly0 ly1)
 (ha:ArgF st ρ args largs) (hmi:∀ x c',lk mi x=some c'->∃ y c,lk ρ x=some y∧mm y=some c∧RnC ρ c c') (hρm:NmM mi ρ) (hρn:nodupB (ρ.map (·.2))=true)
 (hτ:Fresh mm τ) (hσ:SigT τ ρ σ) (hσn:nodupB (σ.map (·.2))=true) (hem:BackM σ ρ mo em) (hall:AllIn em (ρ.map (·.2))) (hall2:AllIn em (τ.map (·.1)))
 (hres:Rn σ res res') (hd:Nat.blt d X.N=true) :
 OpOk X st mm ⟨some d,.call { callee:=.invoke r nm,args:=⟨args⟩,argTypes:=argTypes },ty,pos,af,none⟩ [(d,res')] em:=by
 refine callR ρ τ σ hf rfl (λfn hfn hname hbody a w γ hi=>?_) hmi hρm hρn hτ hσ hσn hem hall hall2 hres hd;obtain⟨u,hu,hu2⟩:=hr.val hi;refine⟨#[u]++(args.map a.eval).toArray,?_,fun γc S hgc hSc=>?_⟩;have e1:fn.body.isNone=false:=by cases h:fn.body<;>simp[h] at hbody ⊢
 have e2:¬ fn.name= "runtime.NumGoroutine":=by simpa using hname
 have hm':(method (X.P.types.size+Made.depth) T u nm).run X.P w=.ok (f,u) w:=Q6a (k:=X.P.types.size+(Made.depth - 1)) hm;simp only[execOp,resolve];simp[invoke,callMethod,hu,hm',callFunc,hfn,e2];have e3:¬ fn.body=none:=by intro h;rw[h] at e1;cases e1
 rw[if_neg e3,List.take_of_length_le (by simp)];simp only[Array.toList_append,List.cons_append,List.nil_append,Ly.vals];refine⟨u,_,rfl,Ly.val_mono (Kp.refl _ _) (λb hb=>.inl (hSc b hb)) (Ng.refl _) _ _ ((hr1 w _ γ γc hgc).2 _ hu2),by simpa using Qp3 hi hgc hSc ha⟩
end call
theorem Qk3:Zr (.por 0) [.pointer none]:=λ_ _ _=>⟨_,rfl,.inl rfl⟩
theorem kAny{st:Nat->Option Ly}{v:Value}:OpdF st (.const v) .any:=λ_ _ _=>trivial
theorem szk{a b k:Nat}(h1:a=k)(h2:b=k):a=b:=h1.trans h2.symm
theorem slpk{R τ:Type}{X:Cx}{l m}{k:τ->Option R}{t:τ}{G:R->Act->World->Prop}(h:Sq X l m (k t) G):Sq X l m (lpK k (.go t)) G:=h
def cpE(b:Bool):CP where
 p:=λ_ _ v=>(b=false∧v=.nilIface)∨(b=true∧∃ t u,v=.iface t u)
 one:=by rintro _ _ v (⟨_,rfl⟩ | ⟨_,t,u,rfl⟩)<;>rfl
 mono:=λh _ _=>h
def erl(b:Bool):Ly:=.cell (cpE b)
theorem Jcv{b}:IF (erl b):=Qfv _
section ops
variable {X:Cx}{st:Nat->Option Ly}{mm:Nat->Option Ct}
end ops
theorem Qxr{P:Program}{f:Nat}{args:List Ly}{res:Ly}(hf:∃ fn,P.funcs[f]?=some fn∧(fn.name == "runtime.NumGoroutine")=false∧fn.body.isSome=true)
 (h:∀ w S γ (vs:Array Value),(∀ b,S b->b<w.heap.size)->GF w->Ly.vals w S γ args vs.toList->Calls P f vs w λe w'=>∃ v,e=.returned v∧Below w.heap.size w w'∧res.val w' S γ v):FnOk P f args [] res []:=by
 refine⟨hf,λw S0 γ vs h1 h2 h3 h4 h5 h6 h7=>(h w (Sx S0 γ []) γ vs (λb hb=>hb.elim (h1 b) (λ⟨_,_,_,h,_⟩=>by cases h)) h7.2 h6).mono ?_⟩;rintro e w' ⟨v,rfl,hb,hv⟩;exact⟨v,γ,rfl,⟨hb.os,hb.tape,hb.output,hb.size,λb hb' _=>hb.block b hb',Ng.refl _,h2,(λ_ _ h=>by cases h),(λ_ _ _ _ _ _ _ h=>by cases h),(λb ⟨_,_,_,h,_⟩=>by cases h),hv⟩⟩
theorem Ja8{w:World}{S:Nat->Prop}{γ:Nm}{E:TypeId}{ws:List (List UInt8)}(hS:∀ b,S b->b<w.heap.size)(hl:∀ x∈ws,x.length≤maxLen)(hn:ws.length≤maxLen):
 (sli 1 (ws.map str)).val (w.alloc (.cells ((ws.map λl=>Value.string ⟨l.toArray⟩).toArray) E)) S γ (.slice (some ⟨w.heap.size,0,none⟩) ws.length ws.length):=by
 have hh:∀(l:List (List UInt8)) (w:World) (S:Nat->Prop),(∀ x∈l,x.length≤maxLen)->Ly.holds w S (λ_=>none) (l.map str) (l.map λl=>Value.string ⟨l.toArray⟩):=by
  intro l
  induction l with
  | nil=>intro w S _;rfl
  | cons x l ih=>intro w S h;exact⟨[_],_,rfl,⟨_,rfl,rfl,h x (.head _)⟩,ih w S λy hy=>h y (.tail _ hy)⟩
 refine .inr (.inl ⟨w.heap.size,0,ws.length,ws.map λl=>Value.string ⟨l.toArray⟩,by simp,by simp,hn,(by show w.heap.size<(w.heap.push _).size;simp),λh=>absurd (hS _ h) (Nat.lt_irrefl _),?_,hh _ _ _ hl,?_⟩);intro j u hj;have hb:(w.alloc (.cells ((ws.map λl=>Value.string ⟨l.toArray⟩).toArray) E)).heap[w.heap.size]?=some (.cells ((ws.map λl=>Value.string ⟨l.toArray⟩).toArray) E (0,0)):=by show(w.heap.push _)[w.heap.size]?=_;rw[Array.getElem?_push,if_pos rfl]
 simp only[World.cell?,hb,Nat.zero_add]
 simpa using hj
 intro ly hly;obtain⟨x,_,rfl⟩:=List.mem_map.1 hly;rfl
theorem Qxs{σ:List (Nat×Nat)}{γ γ':Nm}(hg:∀ y x,lk σ y=some x->γ' y=γ x):∀ {l l':List Nat}{us:List Value},l.map some=l'.map (lk σ)->CapV γ l us->CapV γ' l' us
 | [],[],[],_,_=>trivial
 | [],[],_::_,_,h=>h.elim
 | x::l,y::l',[],_,h=>h.elim
 | x::l,y::l',v::us,e,h=>by simp only[List.map_cons,List.cons.injEq] at e;exact⟨by rw[hg y x e.1.symm];exact h.1,h.2.1,Qxs hg e.2 h.2.2⟩
 | [],_::_,_,e,_=>by simp at e
 | _::_,[],_,e,_=>by simp at e
theorem Qc3{σ f l l'}(h:l.map some=l'.map (lk σ)):Rn σ (.clo f l) (.clo f l'):=λw S γ γ' hg=>
 ⟨λcs g=>by
  simp only[Ly.hold] at g ⊢;obtain⟨v,rfl,us,g1,g2⟩:=g;exact⟨v,rfl,us,g1,Qxs hg h g2⟩,λv g=>by
  simp only[Ly.val] at g ⊢;obtain⟨us,g1,g2⟩:=g
  exact⟨us,g1,Qxs hg h g2⟩⟩
theorem Qm6{σ f l l'}(h:Rns σ l l'):Rn σ (.bnd f l) (.bnd f l'):=λw S γ γ' hg=>
 ⟨λcs g=>by simp[Ly.hold] at g,λv g=>by
  simp only[Ly.val] at g ⊢;obtain⟨us,g1,g2⟩:=g
  exact⟨us,g1,(h w S γ γ' hg).2 _ g2⟩⟩
theorem Q2t{w S}{γ:Nm}:∀ {l:List Nat}{us:List Value},CapV γ l us->Ly.vals w S γ (l.map .own) us
 | [],[],_=>by simp only[List.map_nil,Ly.vals]
 | x::l,v::us,h=>by simp only[List.map_cons,Ly.vals,Ly.val];exact⟨_,_,rfl,⟨h.1,h.2.1⟩,Q2t h.2.2⟩
 | [],_::_,h=>h.elim
 | _::_,[],h=>h.elim
theorem Q2u{w S γ}:∀ {l1 l2:List Ly}{v1 v2:List Value},Ly.vals w S γ l1 v1->Ly.vals w S γ l2 v2->Ly.vals w S γ (l1++l2) (v1++v2)
 | [],_,_,_,h1,h2=>by simp only[Ly.vals] at h1;subst h1;exact h2
 | x::l,_,_,_,h1,h2=>by simp only[Ly.vals] at h1;obtain⟨v,r,rfl,g1,g2⟩:=h1;simp only[List.cons_append,Ly.vals];exact⟨v,_,rfl,g1,Q2u g2 h2⟩
def cpNF:CP:=⟨λ_ _ v=>v=.nilFunc,λh=>by rw[h];rfl,λh _ _=>h⟩
abbrev nfl:Ly:=.cell cpNF
theorem Q2v:Zr nfl [.nilFunc]:=λ_ _ _=>⟨_,rfl,rfl⟩
section ops
variable {X:Cx}{st:Nat->Option Ly}{mm:Nat->Option Ct}
def CapF(st:Nat->Option Ly):List Operand->List Nat->Prop
 | [],[]=>True
 | x::xs,id::ids=>OpdF st x (.own id)∧CapF st xs ids
 | _,_=>False
theorem Q2w{a w γ}(hi:Inv X st mm a w γ):∀ {xs:List Operand}{ids:List Nat},CapF st xs ids->CapV γ ids (xs.map a.eval)
 | [],[],_=>trivial
 | x::xs,id::ids,h=>by have:=h.1.val hi;simp only[Ly.val] at this;exact⟨this.1,this.2,Q2w hi h.2⟩
 | [],_::_,h=>h.elim
 | _::_,[],h=>h.elim
theorem mkC{d f caps ty pos af}{l:List Nat}(hc:CapF st caps l)(hd:Nat.blt d X.N=true):OpOk X st mm ⟨some d,.makeFunc (.func f) #[] ⟨caps⟩,ty,pos,af,none⟩ [(d,.clo f l)] []:=
 Ws hd λa w γ hi=>⟨.func (.func f) #[] (caps.map a.eval).toArray,by simp[execOp,Instr.makeFunc],by simp only[Ly.val];exact⟨_,rfl,Q2w hi hc⟩⟩
theorem callC{caps lc:List Nat}{d x f args argTypes ty pos af la largs mi res mo res' em}(ρ τ σ:List (Nat×Nat))(hx:OpdF st x (.clo f caps))(hf:FnOk X.P f largs mi res mo)(hl:largs=la++lc.map .own)(hc:caps.map some=lc.map (lk ρ))
 (ha:ArgF st ρ args la) (hmi:∀ x c',lk mi x=some c'->∃ y c,lk ρ x=some y∧mm y=some c∧RnC ρ c c') (hρm:NmM mi ρ) (hρn:nodupB (ρ.map (·.2))=true)
 (hτ:Fresh mm τ) (hσ:SigT τ ρ σ) (hσn:nodupB (σ.map (·.2))=true) (hem:BackM σ ρ mo em) (hall:AllIn em (ρ.map (·.2))) (hall2:AllIn em (τ.map (·.1)))
 (hres:Rn σ res res') (hd:Nat.blt d X.N=true) :
 OpOk X st mm ⟨some d,.call { callee:=.value x,args:=⟨args⟩,argTypes:=argTypes },ty,pos,af,none⟩ [(d,res')] em:=by
 refine callR ρ τ σ hf rfl (λfn hfn hname hbody a w γ hi=>?_) hmi hρm hρn hτ hσ hσn hem hall hall2 hres hd;have hv:=hx.val hi;simp only[Ly.val] at hv;obtain⟨us,hu,hu2⟩:=hv;refine⟨(args.map a.eval).toArray++us.toArray,?_,fun γc S hgc hSc=>?_⟩;have e1:fn.body.isNone=false:=by cases h:fn.body<;>simp[h] at hbody ⊢
 have e2:¬ fn.name= "runtime.NumGoroutine":=by simpa using hname
 simp only[execOp,resolve,hu];simp[Deferred.ofValue,invoke,callFunc,hfn,e2];intro e3;rw[e3] at e1;cases e1;rw[hl];simp only[Array.toList_append];exact Q2u (Qp3 hi hgc hSc ha) (Q2t (Qxs hgc hc hu2))
end ops
end Go.Proofs.YtlfphifbmoccgaaGreatDoor
