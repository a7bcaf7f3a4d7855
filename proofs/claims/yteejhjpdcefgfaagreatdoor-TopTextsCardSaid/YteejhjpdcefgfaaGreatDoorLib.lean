import Derived.Test.YteejhjpdcefgfaaGreatDoorChecked
import Derived.Lib.IndexMore
import Derived.Lib.AtoiAllCases
import Derived.Lib.AtoiErrMem
import Derived.Test.YteejhjpdcefgfaaGreatDoorLibM
import Derived.Test.YteejhjpdcefgfaaGreatDoorShelf
namespace Go.Proofs.YteejhjpdcefgfaaGreatDoor
open Go Go.RowKit
theorem Qud(c:UInt8):∀ s:List UInt8,Lib.index s [c]=if (s.any λb=>!ntc c.toNat b)=true then ((s.takeWhile (ntc c.toNat)).length:Int) else -1
 | []=>rfl
 | b::s=>by
   unfold Lib.index;have e:[c].isPrefixOf (b::s)=!ntc c.toNat b:=by simp only[List.isPrefixOf,Bool.and_true,ntc];by_cases h:c=b;subst h;simp;have:b.toNat≠c.toNat:=λg=>h (UInt8.toNat_inj.1 g).symm;simp[h,this]
   rw[e,Qud c s,dm,yf];cases h:ntc c.toNat b;simp;simp only[uf,oo];generalize (s.takeWhile (ntc c.toNat)).length=L;cases (s.any λb=>!ntc c.toNat b);rfl;simp only[ow,Bool.false_or,uf,Bool.false_eq_true,if_false];rw[oi (by simp<;>omega)];omega
theorem Jf4(c:UInt8)(s:List UInt8):Lib.cut s [c]=cutC c.toNat s:=by
 have e:∀(l:List UInt8),l.dropWhile (ntc c.toNat)=l.drop (l.takeWhile (ntc c.toNat)).length:=by
  intro l
  induction l with
  | nil=>rfl
  | cons a l d=>
    rw[ww,yf];cases ntc c.toNat a;rfl;simp[d]
 have tw:∀(l:List UInt8),l.takeWhile (ntc c.toNat)=l.take (l.takeWhile (ntc c.toNat)).length:=by
  intro l
  induction l with
  | nil=>rfl
  | cons a l d=>
    rw[yf];cases ntc c.toNat a;rfl;simp only[uf,oo,ui];rw[<-d]
 have al:∀(l:List UInt8),(l.any λb=>!ntc c.toNat b)=false->l.takeWhile (ntc c.toNat)=l:=by
  intro l
  induction l with
  | nil=>intro _;rfl
  | cons a l d=>
    intro h;rw[dm,vu] at h;have:ntc c.toNat a=true:=by simpa using h.1
    rw[yf,this,oj rfl,d h.2]
 unfold Lib.cut;rw[Qud];have f:=al s;cases h:(s.any λb=>!ntc c.toNat b);unfold cutC;rw[h,oi (show ¬ false=true by decide),oi (show ¬(0:Int)<=-1 by decide),e,f h];simp;rw[oj rfl,oj om,ue];unfold cutC;rw[h,e,vt];rw[<-tw s];rfl
theorem Jeg(w:World)(n:Nat):Below w.heap.size w (w.drewN n):=⟨rfl,rfl,rfl,ou _,λ_ _=>rfl⟩
theorem Que{x0 d:List UInt8}:∀ r,Qdk x0 d=some r->FnOk Tryz.prog 148 [str x0,str d] [] (str r) []:=by
 intro r hr
 match d,hr with
 | [c],hr=>
   simp only[Qdk] at hr;split at hr
   case isFalse=>cases hr
   rename_i g;cases hr;refine Q87 ⟨_,Tryz.func148,od,rfl⟩ λw S γ vs j=>?_;obtain⟨m,k,f,⟨rfl,i⟩,v2,l,rfl,⟨rfl,_⟩,rfl⟩:=j;have a:vs=#[.string ⟨x0.toArray⟩,.string ⟨#[c]⟩]:=by apply vk;simpa using f
   subst a;refine(Tryz.strings_TrimLeft_one ⟨x0.toArray⟩ c g w).mono ?_;rintro e w' ⟨rfl,rfl⟩;refine⟨_,rfl,rfl,?_⟩;simp only[Lib.trimLeftB];exact⟨oc,xn (List.dropWhile_suffix _).length_le i⟩
theorem Q88(u:Nat):Lib.nDigits u<=u / 10+1:=by
 induction u using Nat.strongRecOn with
 | _ u a=>
   rw[Lib.nDigits];split;omega;have:=a (u / 10) om;omega
theorem Jeh{x:Int}(a:-9223372036854775808<=x)(d:x<=9223372036854775807):(Lib.itoa x).length<=maxLen:=by unfold Lib.itoa maxLen;split;have:=Q88 x.natAbs;rw[oo,Lib.decDigits_length];omega;have:=Q88 x.toNat;rw[Lib.decDigits_length];omega
theorem Jei(w:World)(k:Nat)(os:Array Obj):Below w.heap.size w (Go.Sort.grow (w.drewN k) os):=
 ⟨rfl,rfl,rfl,by simp[Go.Sort.grow,World.drewN],λj a=>by
  show(w.heap++os)[j]?=_
  rw[Array.getElem?_append,oj a]⟩
theorem Qls{x0:Int}:∀ r,Zy x0=some r->FnOk Tryz.prog 86 [i64 x0] [] (str r) []:=by
 intro r hr;cases hr;refine Qq3 ⟨_,Tryz.func86,od,rfl⟩ λw S γ vs l i j=>?_;obtain⟨n,m,g,⟨rfl,a,d⟩,rfl⟩:=j;have f:vs=#[.int .i64 x0]:=by apply vk;simpa using g
 subst f;refine(Tryz.strconv_Itoa x0 a d w (Jh3 i)).mono ?_;rintro e w' ⟨rfl,k,os,rfl⟩;exact⟨_,rfl,Jei w k os,rfl,Jeh a d⟩
theorem Qjq{x0 d:List UInt8}:∀ r,Ym x0 d=some r->FnOk Tryz.prog 157 [str x0,str d] [] (.tup [str r.1,str r.2.1,bl r.2.2]) []:=by
 intro r hr
 match d,hr with
 | [c],hr=>
   simp only[Ym] at hr;split at hr
   case isFalse=>cases hr
   rename_i j;cases hr;refine Qq3 ⟨_,Tryz.func157,od,rfl⟩ λw S γ vs q l p=>?_;obtain⟨u,s,g,⟨rfl,f⟩,v2,t,rfl,⟨rfl,_⟩,rfl⟩:=p;have a:vs=#[.string ⟨x0.toArray⟩,.string ⟨#[c]⟩]:=by apply vk;simpa using g
   subst a;obtain⟨m,n⟩:=l.1;refine(Tryz.strings_Cut ⟨x0.toArray⟩ ⟨#[c]⟩ m w j n).mono ?_;rintro e w' ⟨rfl,k,rfl⟩;refine⟨_,rfl,Jeg w k,?_⟩;have i:Lib.cut (ByteArray.mk x0.toArray).data.toList (ByteArray.mk #[c]).data.toList=cutC c.toNat x0:=Jf4 c x0;rw[i];have k1:(cutC c.toNat x0).1.length<=maxLen:=xn (List.takeWhile_sublist _).length_le f;have k2:(cutC c.toNat x0).2.1.length<=maxLen:=by
    refine xn ?_ f;unfold cutC;simp only[ua];exact xn (Nat.sub_le _ _) (List.dropWhile_suffix _).length_le
   exact⟨_,rfl,_,_,rfl,⟨rfl,k1⟩,_,_,rfl,⟨rfl,k2⟩,_,_,rfl,rfl,rfl⟩
theorem Jad(c:UInt8):∀(k:Nat) (s:List UInt8),Lib.count s [c]=k->Lib.splitK [c] 0 k s=splitC c.toNat s:=by
 have e:∀(s:List UInt8),splitC c.toNat s=if (s.any λb=>!ntc c.toNat b)=true then s.takeWhile (ntc c.toNat)::splitC c.toNat (s.drop ((s.takeWhile (ntc c.toNat)).length+1)) else [s]:=by
  intro s
  induction s with
  | nil=>rfl
  | cons b s d=>
    rw[splitC,dm,yf];cases h:ntc c.toNat b;simp;simp only[ow,Bool.false_or,uf,oo,uv];rw[d];by_cases g:(s.any λb=>!ntc c.toNat b)=true;rw[oj g,oj g];rw[oi g,oi g]
 intro k
 induction k with
 | zero=>
   intro s hk;rw[e,oi];rfl;intro g;have:=Lib.count_hit (s:=s) (sub:=[c]) (i:=(s.takeWhile (ntc c.toNat)).length) oc (by rw[Qud,oj g]);omega
 | succ k d=>
   intro s hk;rw[e];unfold Lib.splitK;rw[Qud];by_cases g:(s.any λb=>!ntc c.toNat b)=true;have:=Lib.count_hit (s:=s) (sub:=[c]) (i:=(s.takeWhile (ntc c.toNat)).length) oc (by rw[Qud,oj g]);rw[oj g,oj g,oi (by simp<;>omega),ue,xp];rw[show([c]:List UInt8).length=1 from rfl] at this |-;rw[d _ om];congr 1;have tw:∀(l:List UInt8),l.takeWhile (ntc c.toNat)=l.take (l.takeWhile (ntc c.toNat)).length:=by
    intro l
    induction l with
    | nil=>rfl
    | cons a l d=>
      rw[yf];cases ntc c.toNat a;rfl;simp only[uf,oo,ui];rw[<-d]
   exact(tw s).symm;rw[oi g,oi g,oj oz]
theorem Qpi(c:Nat):∀(s w:List UInt8),w∈splitC c s->w.length<=s.length
 | [],w,h=>by simp[splitC] at h;subst h;simp
 | y::s,w,h=>by
   unfold splitC at h;split at h;cases hs:splitC c s with
   | nil=>
     rw[hs] at h;rcases xc.1 h with rfl | h;simp;cases h
   | cons v r=>
     rw[hs] at h;rcases xc.1 h with rfl | h;have:=Qpi c s v (hs ▸ List.Mem.head _);simp;omega;have:=Qpi c s w (hs ▸ List.Mem.tail _ h);simp;omega
   rcases xc.1 h with rfl | h;simp;have:=Qpi c s w h;simp;omega
theorem Qyc{x0 d:List UInt8}:∀ r,Qdl x0 d=some r->FnOk Tryz.prog 215 [str x0,str d] [] (sli 1 (List.map str r)) []:=by
 intro r hr
 match d,hr with
 | [c],hr=>
   simp only[Qdl] at hr;split at hr
   case isFalse=>cases hr
   rename_i i;cases hr;refine Qq3 ⟨_,Tryz.func215,od,rfl⟩ λw S γ vs n q u=>?_;obtain⟨C,A,j,⟨rfl,s⟩,v2,B,rfl,⟨rfl,_⟩,rfl⟩:=u;have a:vs=#[.string ⟨x0.toArray⟩,.string ⟨#[c]⟩]:=by apply vk;simpa using j
   subst a;obtain⟨m,t⟩:=q.1;refine(Tryz.strings_Split ⟨x0.toArray⟩ ⟨#[c]⟩ m w i t (ou 1)).mono ?_;rintro e w' ⟨rfl,rfl⟩;refine⟨_,rfl,Below.alloc (Below.refl _ w) (ou _) _,?_⟩;have f:(Lib.splitB ⟨#[c]⟩ 0 (Lib.countB ⟨x0.toArray⟩ ⟨#[c]⟩) ⟨x0.toArray⟩).map (·.data.toList)=splitC c.toNat x0:=by rw[Lib.splitB_data];exact Jad c _ x0 rfl
   have k:(Lib.splitB ⟨#[c]⟩ 0 (Lib.countB ⟨x0.toArray⟩ ⟨#[c]⟩) ⟨x0.toArray⟩).map Value.string=(splitC c.toNat x0).map λl=>Value.string ⟨l.toArray⟩:=by rw[<-f,wi];rfl
   have g:Lib.countB ⟨x0.toArray⟩ ⟨#[c]⟩+1=(splitC c.toNat x0).length:=by rw[<-f,xa,Lib.splitB_all ⟨#[c]⟩ (ou 1) 0 _ _ rfl]
   rw[k,g]
   exact Jf1 n (λy v=>xn (Qpi _ _ _ v) s) (by
    rw[<-g];have x:Lib.countB ⟨x0.toArray⟩ ⟨#[c]⟩<=x0.length:=Lib.countB_le ⟨#[c]⟩ (ou 1) _ ⟨x0.toArray⟩ (ou _);have p:x0.length<4294967281:=i
    unfold maxLen;omega)
theorem Q4o(c:List UInt8):∀ s:List UInt8,Lib.indexAny s c<=s.length
 | []=>by simp[Lib.indexAny]
 | b::s=>by have:=Q4o c s;unfold Lib.indexAny;rw[oo];split;omega;split<;>omega
theorem Quf{x0 d:List UInt8}:∀ r,Qa9 x0 d=some r->FnOk Tryz.prog 255 [str x0,str d] [] (i64 r) []:=by
 intro r hr;simp only[Qa9] at hr;split at hr
 case isFalse=>cases hr
 rename_i f;cases hr;refine Qq3 ⟨_,Tryz.func255,od,rfl⟩ λw S γ vs n p m=>?_;obtain⟨v,t,k,⟨rfl,q⟩,v2,u,rfl,⟨rfl,_⟩,rfl⟩:=m;have i:vs=#[.string ⟨x0.toArray⟩,.string ⟨d.toArray⟩]:=by apply vk;simpa using k
 subst i
 have a:∀ l:List UInt8,asc l=true->∀(j:Nat) b,l[j]?=some b->b.toNat<128:=λl h j b g=>by
  have:=ug.1 h b (gh g)
  simpa using this
 refine(Tryz.strings_IndexAny_laid ⟨x0.toArray⟩ ⟨d.toArray⟩ w f.1 f.2.1 (a _ f.2.2.1) (a _ f.2.2.2)).mono ?_;rintro e w' ⟨rfl,g⟩;have k1:=Lib.indexAny_ge d x0;have k2:=Q4o d x0;have s:=f.1;exact⟨_,rfl,g,rfl,by show(-9223372036854775808:Int)<=_;omega,by show _<=(9223372036854775807:Int);omega⟩
theorem Qug{x0 d:List UInt8}:∀ r,Qba x0 d=some r->FnOk Tryz.prog 158 [str x0,str d] [] (bl r) []:=by
 intro r hr
 match d,hr with
 | [c],hr=>
   simp only[Qba] at hr;cases hr;refine Q87 ⟨_,Tryz.func158,od,rfl⟩ λw S γ vs g=>?_;obtain⟨l,j,f,⟨rfl,i⟩,v2,k,rfl,⟨rfl,_⟩,rfl⟩:=g;have a:vs=#[.string ⟨x0.toArray⟩,.string ⟨#[c]⟩]:=by apply vk;simpa using f
   subst a;refine(Tryz.strings_Contains_one ⟨x0.toArray⟩ c w).mono ?_;rintro e w' ⟨rfl,rfl⟩;exact⟨_,rfl,rfl,rfl⟩
theorem Qyd{w:World}{S:Nat->Prop}{γ:Nm}:∀(l:List (List UInt8)) (cs:List Value),Ly.holds w S γ (l.map str) cs->cs=l.map λx=>Value.string ⟨x.toArray⟩
 | [],cs,h=>h
 | x::l,cs,h=>by obtain⟨c1,c2,rfl,⟨v,rfl,rfl,_⟩,a⟩:=h;rw[Qyd l c2 a];rfl
theorem Qlt{x0:List (List UInt8)}{d:List UInt8}:∀ r,Yo x0 d=some r->FnOk Tryz.prog 36 [sli 1 (List.map str x0),str d] [] (str r) []:=by
 intro r hr;simp only[Yo] at hr;split at hr
 case isFalse=>cases hr
 rename_i k;cases hr;refine Qq3 ⟨_,Tryz.func36,od,rfl⟩ λw S γ vs H m C=>?_;obtain⟨K,I,i,hs,v2,J,rfl,⟨rfl,_⟩,rfl⟩:=C;have B:(Lib.join x0 d).length<=maxLen:=xn k.2 oy;have none':∀(a:Option Addr) (c:Nat),x0=[]->vs=#[.slice a 0 c,.string ⟨d.toArray⟩]->Calls Tryz.prog 36 vs w λe w'=>∃ v,e=.returned v/\Below w.heap.size w w'/\(str (Lib.join x0 d)).val w' S γ v:=by
  intro a c h0 f;subst f h0;refine(Tryz.strings_Join_none a c ⟨d.toArray⟩ w).mono ?_;rintro e w' ⟨rfl,rfl⟩;exact⟨_,rfl,Below.refl _ _,rfl,by simp[Lib.join_nil]⟩
 rcases hs with ⟨rfl,h0⟩ | ⟨b,o,cap,cs,rfl,s,E,t,F,u,y,G⟩ | ⟨h0,p,rfl⟩
 . exact none' none 0 (by simpa using h0) (by apply vk;simpa using i)
 . have q:=Qyd x0 cs y
   subst q;have f:vs=#[.slice (some ⟨b,o,none⟩) x0.length cap,.string ⟨d.toArray⟩]:=by apply vk;simpa using i
   subst f;have l:(x0.map λx=>ByteArray.mk x.toArray).map (·.data.toList)=x0:=by simp[wi,Function.comp_def]
   have n:=Tryz.strings_Join b o cap (x0.map λx=>⟨x.toArray⟩) ⟨d.toArray⟩ w (λj x g=>u j _ (by
    rw[uo] at g |-;cases m:x0[j]?<;>rw[m] at g<;>simp at g
    subst g;rfl)) t (by simpa using k.1) (by simpa using s) (by rw[l];exact k.2)
   rw[l,xa] at n;refine n.mono ?_;rintro e w' ⟨rfl,A⟩;exact⟨_,rfl,A,rfl,B⟩
 . exact none' (some p) 0 (by simpa using h0) (by apply vk;simpa using i)
theorem Q0d{x0:List UInt8}:∀ r,Qep x0=some r->FnOk Tryz.prog 320 [str x0] [] (.tup [i64 r.1,erl r.2]) []:=by
 intro r hr;unfold Qep at hr;split at hr
 case isFalse=>cases hr
 rename_i i;refine Qq3 ⟨_,Tryz.func320,od,rfl⟩ λw S γ vs p k n=>?_;obtain⟨y,s,l,⟨rfl,q⟩,rfl⟩:=n;have j:vs=#[.string ⟨x0.toArray⟩]:=by apply vk;simpa using l
 subst j;have i64v:∀(w:World) (S:Nat->Prop) (γ:Nm) (x:Int),-9223372036854775808<=x->x<=9223372036854775807->(i64 x).val w S γ (.int .i64 x):=λw S γ x f m=>⟨rfl,f,m⟩
 cases a:Lib.atoiAll x0
 . rename_i v
   rw[a] at hr;cases hr;have d:=Lib.atoiAll_bounds a;refine(Tryz.strconv_Atoi_ok ⟨x0.toArray⟩ (xn i oy) v a w).mono ?_;rintro e w' ⟨rfl,h⟩;refine⟨_,rfl,?_,_,rfl,_,_,rfl,i64v _ _ _ _ d.1 d.2,_,_,rfl,.inl ⟨rfl,rfl⟩,rfl⟩;rcases h with rfl | ⟨t,rfl⟩
   . exact Below.refl _ _
   . exact Lib.bytesWorld_below _ _ _
 . rw[a] at hr
   cases hr;obtain⟨t,u,f⟩:=k.2.2.1;refine(Any.strconv_Atoi_syntax Tryz.laysC172 ⟨x0.toArray⟩ i a _ w f (.inr ⟨t,u,rfl⟩)).mono ?_;rintro e w' ⟨N,rfl,_,_,d⟩;exact⟨_,rfl,d,_,rfl,_,_,rfl,i64v _ _ _ _ oy oy,_,_,rfl,.inr ⟨rfl,_,_,rfl⟩,rfl⟩
 . rw[a] at hr
   cases hr;obtain⟨t,u,f⟩:=k.2.2.2;have g:=Lib.atoiSat_bounds x0;refine(Tryz.strconv_Atoi_range ⟨x0.toArray⟩ i a _ w f (.inr ⟨t,u,rfl⟩)).mono ?_;rintro e w' ⟨N,rfl,_,_,d⟩;exact⟨_,rfl,d,_,rfl,_,_,rfl,i64v _ _ _ _ g.1 g.2,_,_,rfl,.inr ⟨rfl,_,_,rfl⟩,rfl⟩
end Go.Proofs.YteejhjpdcefgfaaGreatDoor
