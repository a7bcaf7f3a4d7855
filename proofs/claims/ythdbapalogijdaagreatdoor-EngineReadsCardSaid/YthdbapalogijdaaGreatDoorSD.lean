import Derived.Test.YthdbapalogijdaaGreatDoorSC
namespace Go.Proofs.YthdbapalogijdaaGreatDoor
open Go Go.RowKit
def ul:Nat:=777777
abbrev H1{σ:Type}(F:σ->Ct)(r0:Nat)(mm:Nat->Option Ct)(d:D):Prop:=eW d.ri ul=true->∃ s,mm r0=some (F s)
theorem XA{σ:Type}(F:σ->Ct){L:Nat->Bool}{r:Nat}:∀(es:List (List (Nat×Ct))) (b:Nat->Option Ct) (i:Nat),(∃ s,b r=some (F s))->(∀ k e c,es[k]?=some e->L (i+k)=true->lk e r=some c->∃ s,c=F s)->∃ s,aH b es i L r=some (F s)
 | [],_,_,h,_=>h
 | e::es,b,i,h,h2=>by
   simp only[aH];refine XA F es _ (i+1) ?_ (λk e' c hk hL hl=>h2 (k+1) e' c ol ol hl);cases hL:L i;grind;simp only[yt];unfold up;cases hl:lk e r with
   | none=>exact h
   | some c=>obtain⟨s,rfl⟩:=h2 0 e c rfl (by simpa using hL) hl;grind
def rC{σ:Type}(F:σ->Ct)(r0:Nat)(X:Cx)(aG:Array Oper):List (Nat×Ly)->List (Nat×Ct)->List Oper->List D->Prop
 | _,_,[],[]=>True
 | l,m,o::os,d::ds=>(∀ st mm,Ag st (lk l) d.rs->Ag mm (lk m) d.ri->H1 F r0 mm d->mE X aG st mm o d.el d.em)/\rC F r0 X aG (d.el++l) (d.em++m) os ds
 | _,_,_,_=>False
theorem XB{σ:Type}{F:σ->Ct}{r0:Nat}{X:Cx}{aG:Array Oper}:∀ {os:List Oper}{ds:List D}{l m},rC F r0 X aG l m os ds->∀ j o d,os[j]?=some o->ds[j]?=some d ->
 ∀ st mm,Ag st (aH (lk l) ((ds.map (·.el)).take j) 0 (λ_=>true)) d.rs->Ag mm (aH (lk m) ((ds.map (·.em)).take j) 0 (λ_=>true)) d.ri->H1 F r0 mm d->mE X aG st mm o d.el d.em
 | [],[],_,_,_,j,o,d,h,_=>by simp at h
 | o::os,d::ds,l,m,hs,0,o',d',h1,h2=>by simp at h1 h2;subst h1;subst h2;intro st mm h3 h4 h5;exact hs.1 st mm (by grind[aH]) (by grind[aH]) h5
 | o::os,d::ds,l,m,hs,j+1,o',d',h1,h2=>by
   intro st mm h3 h4 h5;have shift:∀ {α:Type}(es:List (List (Nat×α))) (b:Nat->Option α) (i i':Nat),aH b es i (λ_=>true)=aH b es i' (λ_=>true):=by
    intro α es
    induction es with
    | nil=>intro b i i';rfl
    | cons e es ih=>intro b i i';simp only[aH,yt];grind
   refine XB hs.2 j o' d' ol ol st mm ?_ ?_ h5;simp only[xt,yv,aH,yt,co] at h3;grind;simp only[xt,yv,aH,yt,co] at h4;grind
 | [],_::_,_,_,h,_,_,_,_,_=>h.elim
 | _::_,[],_,_,h,_,_,_,_,_=>h.elim
def H3:List Oper->List Bf->List Bf
 | [],an=>an
 | o::os,an=>H3 os (an++[far an o])
theorem XC{ls:List Oper}:∀(os:List Oper) (an:List Bf),(∀ k o,os[k]?=some o->ls[an.length+k]?=some o)->(∀ k l,an[k]?=some l->∀ j∈l,mf ls j k)->∀ k l,(H3 os an)[k]?=some l->∀ j∈l,mf ls j k
 | [],_,_,h=>h
 | o::os,an,h1,h2=>by
   have ho:ls[an.length]?=some o:=by simpa using h1 0 o rfl
   refine XC os _ (λk o' hk=>by have:=h1 (k+1) o' (by simpa using hk);grind) (λk l hk=>?_);rcases yx k an.length with h | h;grind;rw[xw h] at hk;have:k=an.length:=by rcases Nat.eq_or_lt_of_le h with h | h;omega;rw[uf oj] at hk;cases hk
   subst this;rw[Nat.sub_self] at hk;grind[VN]
def x9(a:Bf)(dk:D)(r0:Nat):Nat->List D->Bool
 | _,[]=>true
 | j,d::ds=>(!(eW d.ri ul) || !(wr dk.em r0) || eW a j) && x9 a dk r0 (j+1) ds
def yc(ds0:List D)(an:List Bf)(k0 r0:Nat):Nat->List D->Bool
 | _,[]=>true
 | k,d::ds=>(Nat.beq k k0 || x9 (an.getD k []) d r0 0 ds0) && yc ds0 an k0 r0 (k+1) ds
theorem XD{a dk r0}:∀ {ds:List D}{j0:Nat},x9 a dk r0 j0 ds=true->∀ j d,ds[j]?=some d->eW d.ri ul=true->wr dk.em r0=true->j0+j∈a
 | [],_,_,j,d,h,_,_=>by simp at h
 | d::ds,j0,h,0,d',h1,h2,h3=>by simp_all[x9,VK]
 | d::ds,j0,h,j+1,d',h1,h2,h3=>by simp only[x9,xp] at h;have:=XD h.2 j d' (by simpa using h1) h2 h3;grind
theorem XE{ds0 an k0 r0}:∀ {ds:List D}{i:Nat},yc ds0 an k0 r0 i ds=true->∀ k d,ds[k]?=some d->i+k=k0\/x9 (an.getD (i+k) []) d r0 0 ds0=true
 | [],_,_,j,d,h=>by simp at h
 | d::ds,j0,h,0,d',h1=>by simp_all[yc]
 | d::ds,j0,h,j+1,d',h1=>by simp only[yc,xp] at h;have:=XE h.2 j d' (by simpa using h1);grind
theorem ux{σ:Type}{F:σ->Ct}{r0 k0:Nat}{R:Type}{X:Cx}{l m}{md:Option R}{Q:R->Exit->Act->World->Prop}{ls:List Oper}(ds:List D)(hD:cT ls ds 0 [] []=true)(hB:∃ s,lk m r0=some (F s))(hK:∃ d s,ds[k0]?=some d/\lk d.em r0=some (F s))(hw:yc ds (H3 ls []) k0 r0 0 ds=true)(hS:rC F r0 X ⟨ls⟩ l m ls ds)
 (k:Sq X (eG (ds.map (·.el)) l) (eG (ds.map (·.em)) m) md (λr=>Q r .normal)):Sq X l m md (λr a w=>wpAny X.P .any ⟨ls⟩ (Q r) ls.length (Array.replicate ls.length false) a { w with drawn:=w.drawn+1 }):=by
 intro r a w γ hr hi;obtain⟨h1,h2,h3⟩:=HQ (ls:=ls) ls ds 0 [] [] rfl rfl oh oh hD;have hDF:HP ls ds:=⟨h1,ol,ol⟩
 have hi':bq X (lk l) (lk m) a { w with drawn:=w.drawn+1 } γ:=hi.ext (w':={ w with drawn:=w.drawn+1 }) rfl rfl rfl ⟨xe _,oh⟩;have hA:=XC (ls:=ls) ls [] oh oh;have HW:∀(j k:Nat) dj d c,ds[j]?=some dj->eW dj.ri ul=true->ds[k]?=some d->lk d.em r0=some c->(∃ s,c=F s)\/mf ls j k:=by
  intro j k dj d c hj hf hk hc;have hwr:wr d.em r0=true:=by grind[wr]
  rcases XE hw k d hk with h | h;grind;rw[xx] at h;have hm:=XD h j dj hj hf hwr;rw[xx] at hm;rw[wn] at hm;grind
 refine Nf (Wp:=H1 F r0) hDF (λj o d h1 h2 st mm h3 h4 h5 a w γ K hi hK=>XB hS j o d h1 h2 st mm h3 h4 h5 a w γ K _ hi hK) (λL j d hd hcl hj hv=>XA F _ _ 0 hB (λk e c hk hL hl=>by
  rw[uq] at hk;obtain⟨dk,hdk,rfl⟩:=Option.map_eq_some_iff.1 hk;rw[xx] at hL
  exact(HW j k d dk c hd hv hdk hl).elim id (λha=>by have:=ha.listed hcl hL;rw[hj] at this;cases this))) (λa w γ h=>k r a w γ hr h) _ _ a _ γ oh oh (λi o ho hl=>?_) ?_
 have hlt:i<ls.length:=ol
 simp[hlt] at hl;have e1:(λi=>(Array.replicate ls.length false).getD i false)=λ_=>false:=by funext i;by_cases h:i<ls.length<;>simp[h]
 have e2:∀ {α:Type}(es:List (List (Nat×α))) (b:Nat->Option α) (i:Nat),aH b es i (λ_=>false)=b:=by
  intro α es
  induction es with
  | nil=>intro b i;rfl
  | cons e es ih=>intro b i;simp[aH,ih]
 grind
theorem XF{σ:Type}{F:σ->Ct}{r0:Nat}{X:Cx}{aG:Array Oper}:∀ {ls:List Oper}{ds:List D}{l m o os d},rC F r0 X aG l m ls ds->(∀ st mm,Ag st (lk (eG (ds.map (·.el)) l)) d.rs->Ag mm (lk (eG (ds.map (·.em)) m)) d.ri->H1 F r0 mm d->mE X aG st mm o d.el d.em)->os=ls++[o]->rC F r0 X aG l m os (ds++[d])
 | [],[],l,m,o,os,d,_,h,e=>by subst e;exact⟨h,trivial⟩
 | o'::ls,d'::ds,l,m,o,os,d,hs,h,e=>by subst e;exact⟨hs.1,XF hs.2 h rfl⟩
 | [],_::_,_,_,_,_,_,h,_,_=>by grind[rC]
 | _::_,[],_,_,_,_,_,h,_,_=>by grind[rC]
def rD{R σ:Type}(F:σ->Ct)(r0:Nat)(X:Cx)(Wp:R->Act->World->Prop)(ls0:List Oper)(l0:List (Nat×Ly))(m0:List (Nat×Ct))(md:Option R)(_:R->Exit->Act->World->Prop)(ds:List D)(l:List (Nat×Ly))(m:List (Nat×Ct))(ls:List Oper):Prop:=
 ∀ pre,ls0=pre++ls->rC F r0 X ⟨ls0⟩ l0 m0 pre ds->eG (ds.map (·.el)) l0=l->eG (ds.map (·.em)) m0=m->Sq X l0 m0 md Wp
section
variable {R σ:Type}{F:σ->Ct}{r0:Nat}{X:Cx}{l l0:List (Nat×Ly)}{m m0:List (Nat×Ct)}{md:Option R}{Q:R->Exit->Act->World->Prop}
theorem wkD{id:Nat}{ls:List Oper}(r0:Nat)(F:σ->Ct)(h:rD F r0 X (λr=>(Code.region id ⟨ls⟩ true).wp X.P (Q r)) ls l m md Q [] l m ls):Sq X l m md (λr=>(Code.region id ⟨ls⟩ true).wp X.P (Q r)):=h [] rfl trivial rfl rfl
theorem wkE{id:Nat}{ls0:List Oper}{ds}(k0:Nat)(s s':σ)(k:Sq X l m md (λr=>Q r .normal))(hf:X.P.follows .mixedOrders=true:=by exact x7.h)(hB:lk m0 r0=some (F s):=by exact rfl)(hK:((ds[k0]?).bind λd=>lk d.em r0)=some (F s'):=by exact rfl)
 (hw:yc ds (H3 ls0 []) k0 r0 0 ds=true:=by kernel_rfl) (hD:cT ls0 ds 0 [] []=true:=by kernel_rfl):rD F r0 X (λr=>(Code.region id ⟨ls0⟩ true).wp X.P (Q r)) ls0 l0 m0 md Q ds l m []:=by
 intro pre e hs hl hm;simp at e;subst e;intro r a w γ hr hi;refine wp_region_any hf (ux (k0:=k0) ds hD ⟨s,hB⟩ ?_ hw hs ?_ r a w γ hr hi)
 all_goals grind
theorem XG{Wp:R->Act->World->Prop}{ls0 ds o os}(rs ri:Bf){el em}(h:∀ st mm,Ag st (lk l) rs->Ag mm (lk m) ri->(eW ri ul=true->∃ s,mm r0=some (F s))->mE X ⟨ls0⟩ st mm o el em)(k:rD F r0 X Wp ls0 l0 m0 md Q (ds++[⟨rs,ri,el,em⟩]) (el++l) (em++m) os):rD F r0 X Wp ls0 l0 m0 md Q ds l m (o::os):=by
 intro pre e hs hl hm;refine k (pre++[o]) (by simp[e]) (XF hs (by simpa only[hl,hm] using h) rfl) ?_ ?_
 all_goals grind[N8]
theorem nM{Wp:R->Act->World->Prop}{ls0 ds os d op ty pos after}(ri:Bf){el em}(h:∀ st mm,Ag st (lk l) (dm ⟨ls0⟩ ⟨d,op,ty,pos,after,none⟩)->Ag mm (lk m) ri->br X st mm ⟨d,op,ty,pos,after,none⟩ el em)
 (k:rD F r0 X Wp ls0 l0 m0 md Q (ds++[⟨dm ⟨ls0⟩ ⟨d,op,ty,pos,after,none⟩,ri,el,em⟩]) (el++l) (em++m) os):rD F r0 X Wp ls0 l0 m0 md Q ds l m (⟨d,op,ty,pos,after,none⟩::os):=XG _ ri (λst mm h1 h2 _=>og (h st mm h1 h2).h) k
theorem Od{Wp:R->Act->World->Prop}{ls0 ds os d op ty pos after}{el em}(h:∀ s st mm,Ag st (lk l) (dm ⟨ls0⟩ ⟨d,op,ty,pos,after,none⟩)->Ag mm (lk [(r0,F s)]) [r0]->br X st mm ⟨d,op,ty,pos,after,none⟩ el em)
 (k:rD F r0 X Wp ls0 l0 m0 md Q (ds++[⟨dm ⟨ls0⟩ ⟨d,op,ty,pos,after,none⟩,[ul],el,em⟩]) (el++l) (em++m) os):rD F r0 X Wp ls0 l0 m0 md Q ds l m (⟨d,op,ty,pos,after,none⟩::os):=
 XG _ [ul] (λst mm h1 _ h3=>og (by
  obtain⟨s,hs⟩:=h3 rfl
  exact(h s st mm h1 ⟨by simp_all[lk],trivial⟩).h)) k
end
end Go.Proofs.YthdbapalogijdaaGreatDoor
