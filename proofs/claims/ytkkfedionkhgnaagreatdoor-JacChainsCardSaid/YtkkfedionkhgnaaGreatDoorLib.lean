import Derived.Test.YtkkfedionkhgnaaGreatDoorChecked
import Derived.Lib.IndexMore
import Derived.Test.YtkkfedionkhgnaaGreatDoorLibM
import Derived.Test.YtkkfedionkhgnaaGreatDoorShelf
namespace Go.Proofs.YtkkfedionkhgnaaGreatDoor
open Go Go.RowKit
theorem Qp4(c:UInt8):∀ s:List UInt8,Lib.index s [c]=if (s.any λb=>!ntc c.toNat b)=true then ((s.takeWhile (ntc c.toNat)).length:Int) else -1
 | []=>rfl
 | b::s=>by
   unfold Lib.index;have e:[c].isPrefixOf (b::s)=!ntc c.toNat b:=by simp only[List.isPrefixOf,Bool.and_true,ntc];by_cases h:c=b;subst h;simp;have:b.toNat≠c.toNat:=λg=>h (UInt8.toNat_inj.1 g).symm;simp[h,this]
   rw[e,Qp4 c s,List.any_cons,List.takeWhile_cons];cases h:ntc c.toNat b;simp;simp only[if_true,List.length_cons];generalize (s.takeWhile (ntc c.toNat)).length=L;cases (s.any λb=>!ntc c.toNat b);rfl;simp only[Bool.not_true,Bool.false_or,if_true,Bool.false_eq_true,if_false];rw[if_neg (by simp<;>omega)];omega
theorem Q4y(c:UInt8)(s:List UInt8):Lib.cut s [c]=cutC c.toNat s:=by
 have dw:∀(l:List UInt8),l.dropWhile (ntc c.toNat)=l.drop (l.takeWhile (ntc c.toNat)).length:=by
  intro l
  induction l with
  | nil=>rfl
  | cons a l ih=>
    rw[List.dropWhile_cons,List.takeWhile_cons];cases ntc c.toNat a;rfl;simp[ih]
 have tw:∀(l:List UInt8),l.takeWhile (ntc c.toNat)=l.take (l.takeWhile (ntc c.toNat)).length:=by
  intro l
  induction l with
  | nil=>rfl
  | cons a l ih=>
    rw[List.takeWhile_cons];cases ntc c.toNat a;rfl;simp only[if_true,List.length_cons,List.take_succ_cons];rw[←ih]
 have al:∀(l:List UInt8),(l.any λb=>!ntc c.toNat b)=false->l.takeWhile (ntc c.toNat)=l:=by
  intro l
  induction l with
  | nil=>intro _;rfl
  | cons a l ih=>
    intro h;rw[List.any_cons,Bool.or_eq_false_iff] at h;have:ntc c.toNat a=true:=by simpa using h.1
    rw[List.takeWhile_cons,this,if_pos rfl,ih h.2]
 unfold Lib.cut;rw[Qp4];have hh:=al s;cases h:(s.any λb=>!ntc c.toNat b);unfold cutC;rw[h,if_neg (show ¬ false=true by decide),if_neg (show ¬(0:Int)≤-1 by decide),dw,hh h];simp;rw[if_pos rfl,if_pos (by omega),Int.toNat_natCast];unfold cutC;rw[h,dw,List.drop_drop];rw[←tw s];rfl
theorem Q3v(w:World)(n:Nat):Below w.heap.size w (w.drewN n):=⟨rfl,rfl,rfl,Nat.le_refl _,λ_ _=>rfl⟩
theorem Qp5{x0 x1:List UInt8}:∀ r,Qdu x0 x1=some r->FnOk Tryz.prog 249 [str x0,str x1] [] (str r) []:=by
 intro r hr
 match x1,hr with
 | [c],hr=>
   simp only[Qdu] at hr;split at hr
   case isFalse=>cases hr
   rename_i hc;cases hr;refine Qz4 ⟨_,Tryz.func249,by kernel_rfl,rfl⟩ λw S γ vs hv=>?_;obtain⟨v1,r1,e1,⟨rfl,hl⟩,v2,r2,rfl,⟨rfl,_⟩,rfl⟩:=hv;have hvs:vs=#[.string ⟨x0.toArray⟩,.string ⟨#[c]⟩]:=by apply Array.ext';simpa using e1
   subst hvs;refine(Tryz.strings_TrimLeft_one ⟨x0.toArray⟩ c hc w).mono ?_;rintro e w' ⟨rfl,rfl⟩;refine⟨_,rfl,rfl,?_⟩;simp only[Lib.trimLeftB];exact⟨by simp,Nat.le_trans (List.dropWhile_suffix _).length_le hl⟩
theorem Qjp{x0 x1:List UInt8}:∀ r,Qcu x0 x1=some r->FnOk Tryz.prog 172 [str x0,str x1] [] (.tup [str r.1,str r.2.1,bl r.2.2]) []:=by
 intro r hr
 match x1,hr with
 | [c],hr=>
   simp only[Qcu] at hr;split at hr
   case isFalse=>cases hr
   rename_i hc;cases hr;refine Qs0 ⟨_,Tryz.func172,by kernel_rfl,rfl⟩ λw S γ vs hS hg hv=>?_;obtain⟨v1,r1,e1,⟨rfl,hl⟩,v2,r2,rfl,⟨rfl,_⟩,rfl⟩:=hv;have hvs:vs=#[.string ⟨x0.toArray⟩,.string ⟨#[c]⟩]:=by apply Array.ext';simpa using e1
   subst hvs;obtain⟨m,hm⟩:=hg.1;refine(Tryz.strings_Cut ⟨x0.toArray⟩ ⟨#[c]⟩ m w hc hm).mono ?_;rintro e w' ⟨rfl,k,rfl⟩;refine⟨_,rfl,Q3v w k,?_⟩;have e2:Lib.cut (ByteArray.mk x0.toArray).data.toList (ByteArray.mk #[c]).data.toList=cutC c.toNat x0:=Q4y c x0;rw[e2];have k1:(cutC c.toNat x0).1.length≤maxLen:=Nat.le_trans (List.takeWhile_sublist _).length_le hl;have k2:(cutC c.toNat x0).2.1.length≤maxLen:=by
    refine Nat.le_trans ?_ hl;unfold cutC;simp only[List.length_drop];exact Nat.le_trans (Nat.sub_le _ _) (List.dropWhile_suffix _).length_le
   exact⟨_,rfl,_,_,rfl,⟨rfl,k1⟩,_,_,rfl,⟨rfl,k2⟩,_,_,rfl,rfl,rfl⟩
theorem Q0t(c:UInt8):∀(k:Nat) (s:List UInt8),Lib.count s [c]=k->Lib.splitK [c] 0 k s=splitC c.toNat s:=by
 have spl:∀(s:List UInt8),splitC c.toNat s=if (s.any λb=>!ntc c.toNat b)=true then s.takeWhile (ntc c.toNat)::splitC c.toNat (s.drop ((s.takeWhile (ntc c.toNat)).length+1)) else [s]:=by
  intro s
  induction s with
  | nil=>rfl
  | cons b s ih=>
    rw[splitC,List.any_cons,List.takeWhile_cons];cases h:ntc c.toNat b;simp;simp only[Bool.not_true,Bool.false_or,if_true,List.length_cons,List.drop_succ_cons];rw[ih];by_cases g:(s.any λb=>!ntc c.toNat b)=true;rw[if_pos g,if_pos g];rw[if_neg g,if_neg g]
 intro k
 induction k with
 | zero=>
   intro s hk;rw[spl,if_neg];rfl;intro g;have:=Lib.count_hit (s:=s) (sub:=[c]) (i:=(s.takeWhile (ntc c.toNat)).length) (by simp) (by rw[Qp4,if_pos g]);omega
 | succ k ih=>
   intro s hk;rw[spl];unfold Lib.splitK;rw[Qp4];by_cases g:(s.any λb=>!ntc c.toNat b)=true;have:=Lib.count_hit (s:=s) (sub:=[c]) (i:=(s.takeWhile (ntc c.toNat)).length) (by simp) (by rw[Qp4,if_pos g]);rw[if_pos g,if_pos g,if_neg (by simp<;>omega),Int.toNat_natCast,Nat.add_zero];rw[show([c]:List UInt8).length=1 from rfl] at this ⊢;rw[ih _ (by omega)];congr 1;have tw:∀(l:List UInt8),l.takeWhile (ntc c.toNat)=l.take (l.takeWhile (ntc c.toNat)).length:=by
    intro l
    induction l with
    | nil=>rfl
    | cons a l ih=>
      rw[List.takeWhile_cons];cases ntc c.toNat a;rfl;simp only[if_true,List.length_cons,List.take_succ_cons];rw[←ih]
   exact(tw s).symm;rw[if_neg g,if_neg g,if_pos (by rfl)]
theorem Ql9(c:Nat):∀(s w:List UInt8),w∈splitC c s->w.length≤s.length
 | [],w,h=>by simp[splitC] at h;subst h;simp
 | y::s,w,h=>by
   unfold splitC at h;split at h;cases hs:splitC c s with
   | nil=>
     rw[hs] at h;rcases List.mem_cons.1 h with rfl | h;simp;cases h
   | cons v r=>
     rw[hs] at h;rcases List.mem_cons.1 h with rfl | h;have:=Ql9 c s v (hs ▸ List.Mem.head _);simp;omega;have:=Ql9 c s w (hs ▸ List.Mem.tail _ h);simp;omega
   rcases List.mem_cons.1 h with rfl | h;simp;have:=Ql9 c s w h;simp;omega
theorem Qs3{x0 x1:List UInt8}:∀ r,Qhg x0 x1=some r->FnOk Tryz.prog 341 [str x0,str x1] [] (sli 1 (List.map str r)) []:=by
 intro r hr
 match x1,hr with
 | [c],hr=>
   simp only[Qhg] at hr;split at hr
   case isFalse=>cases hr
   rename_i hc;cases hr;refine Qs0 ⟨_,Tryz.func341,by kernel_rfl,rfl⟩ λw S γ vs hS hg hv=>?_;obtain⟨v1,r1,e1,⟨rfl,hl⟩,v2,r2,rfl,⟨rfl,_⟩,rfl⟩:=hv;have hvs:vs=#[.string ⟨x0.toArray⟩,.string ⟨#[c]⟩]:=by apply Array.ext';simpa using e1
   subst hvs;obtain⟨m,hm⟩:=hg.1;refine(Tryz.strings_Split ⟨x0.toArray⟩ ⟨#[c]⟩ m w hc hm (Nat.le_refl 1)).mono ?_;rintro e w' ⟨rfl,rfl⟩;refine⟨_,rfl,Below.alloc (Below.refl _ w) (Nat.le_refl _) _,?_⟩;have e2:(Lib.splitB ⟨#[c]⟩ 0 (Lib.countB ⟨x0.toArray⟩ ⟨#[c]⟩) ⟨x0.toArray⟩).map (·.data.toList)=splitC c.toNat x0:=by rw[Lib.splitB_data];exact Q0t c _ x0 rfl
   have e3:(Lib.splitB ⟨#[c]⟩ 0 (Lib.countB ⟨x0.toArray⟩ ⟨#[c]⟩) ⟨x0.toArray⟩).map Value.string=(splitC c.toNat x0).map λl=>Value.string ⟨l.toArray⟩:=by rw[←e2,List.map_map];rfl
   have e4:Lib.countB ⟨x0.toArray⟩ ⟨#[c]⟩+1=(splitC c.toNat x0).length:=by rw[←e2,List.length_map,Lib.splitB_all ⟨#[c]⟩ (Nat.le_refl 1) 0 _ _ rfl]
   rw[e3,e4]
   exact Q4x hS (λy hy=>Nat.le_trans (Ql9 _ _ _ hy) hl) (by
    rw[←e4];have h1:Lib.countB ⟨x0.toArray⟩ ⟨#[c]⟩≤x0.length:=Lib.countB_le ⟨#[c]⟩ (Nat.le_refl 1) _ ⟨x0.toArray⟩ (Nat.le_refl _);have hc':x0.length<4294967281:=hc
    unfold maxLen;omega)
theorem Qxq(c:List UInt8):∀ s:List UInt8,Lib.indexAny s c≤s.length
 | []=>by simp[Lib.indexAny]
 | b::s=>by have:=Qxq c s;unfold Lib.indexAny;rw[List.length_cons];split;omega;split<;>omega
theorem Qp6{x0 x1:List UInt8}:∀ r,Qdv x0 x1=some r->FnOk Tryz.prog 359 [str x0,str x1] [] (i64 r) []:=by
 intro r hr;simp only[Qdv] at hr;split at hr
 case isFalse=>cases hr
 rename_i hc;cases hr;refine Qs0 ⟨_,Tryz.func359,by kernel_rfl,rfl⟩ λw S γ vs hS hg hv=>?_;obtain⟨v1,r1,e1,⟨rfl,hl⟩,v2,r2,rfl,⟨rfl,_⟩,rfl⟩:=hv;have hvs:vs=#[.string ⟨x0.toArray⟩,.string ⟨x1.toArray⟩]:=by apply Array.ext';simpa using e1
 subst hvs
 have hasc:∀ l:List UInt8,asc l=true->∀(j:Nat) b,l[j]?=some b->b.toNat<128:=λl h j b hb=>by
  have:=List.all_eq_true.1 h b (List.mem_of_getElem? hb)
  simpa using this
 refine(Tryz.strings_IndexAny_laid ⟨x0.toArray⟩ ⟨x1.toArray⟩ w hc.1 hc.2.1 (hasc _ hc.2.2.1) (hasc _ hc.2.2.2)).mono ?_;rintro e w' ⟨rfl,hb⟩;have k1:=Lib.indexAny_ge x1 x0;have k2:=Qxq x1 x0;have k3:=hc.1;exact⟨_,rfl,hb,rfl,by show(-9223372036854775808:Int)≤_;omega,by show _≤(9223372036854775807:Int);omega⟩
theorem Qp7{x0 x1:List UInt8}:∀ r,Qdw x0 x1=some r->FnOk Tryz.prog 290 [str x0,str x1] [] (bl r) []:=by
 intro r hr
 match x1,hr with
 | [c],hr=>
   simp only[Qdw] at hr;cases hr;refine Qz4 ⟨_,Tryz.func290,by kernel_rfl,rfl⟩ λw S γ vs hv=>?_;obtain⟨v1,r1,e1,⟨rfl,hl⟩,v2,r2,rfl,⟨rfl,_⟩,rfl⟩:=hv;have hvs:vs=#[.string ⟨x0.toArray⟩,.string ⟨#[c]⟩]:=by apply Array.ext';simpa using e1
   subst hvs;refine(Tryz.strings_Contains_one ⟨x0.toArray⟩ c w).mono ?_;rintro e w' ⟨rfl,rfl⟩;exact⟨_,rfl,rfl,rfl⟩
theorem Qs4{w:World}{S:Nat->Prop}{γ:Nm}:∀(l:List (List UInt8)) (cs:List Value),Ly.holds w S γ (l.map str) cs->cs=l.map λx=>Value.string ⟨x.toArray⟩
 | [],cs,h=>h
 | x::l,cs,h=>by obtain⟨c1,c2,rfl,⟨v,rfl,rfl,_⟩,h2⟩:=h;rw[Qs4 l c2 h2];rfl
theorem Qug{x0:List (List UInt8)}{x1:List UInt8}:∀ r,Qii x0 x1=some r->FnOk Tryz.prog 119 [sli 1 (List.map str x0),str x1] [] (str r) []:=by
 intro r hr;simp only[Qii] at hr;split at hr
 case isFalse=>cases hr
 rename_i hc;cases hr;refine Qs0 ⟨_,Tryz.func119,by kernel_rfl,rfl⟩ λw S γ vs hS hg hv=>?_;obtain⟨v1,r1,e1,hs,v2,r2,rfl,⟨rfl,_⟩,rfl⟩:=hv;have hm:(Lib.join x0 x1).length≤maxLen:=Nat.le_trans hc.2 (by decide);have none':∀(a:Option Addr) (c:Nat),x0=[]->vs=#[.slice a 0 c,.string ⟨x1.toArray⟩]->Calls Tryz.prog 119 vs w λe w'=>∃ v,e=.returned v∧Below w.heap.size w w'∧(str (Lib.join x0 x1)).val w' S γ v:=by
  intro a c h0 hvs;subst hvs h0;refine(Tryz.strings_Join_none a c ⟨x1.toArray⟩ w).mono ?_;rintro e w' ⟨rfl,rfl⟩;exact⟨_,rfl,Below.refl _ _,rfl,by simp[Lib.join_nil]⟩
 rcases hs with ⟨rfl,h0⟩ | ⟨b,o,cap,cs,rfl,h1,h2,h3,h4,h5,h6,h7⟩ | ⟨h0,ad,rfl⟩
 . exact none' none 0 (by simpa using h0) (by apply Array.ext';simpa using e1)
 . have e2:=Qs4 x0 cs h6
   subst e2;have hvs:vs=#[.slice (some ⟨b,o,none⟩) x0.length cap,.string ⟨x1.toArray⟩]:=by apply Array.ext';simpa using e1
   subst hvs;have ed:(x0.map λx=>ByteArray.mk x.toArray).map (·.data.toList)=x0:=by simp[List.map_map,Function.comp_def]
   have hj:=Tryz.strings_Join b o cap (x0.map λx=>⟨x.toArray⟩) ⟨x1.toArray⟩ w (λj x hx=>h5 j _ (by
    rw[List.getElem?_map] at hx ⊢;cases hg:x0[j]?<;>rw[hg] at hx<;>simp at hx
    subst hx;rfl)) h3 (by simpa using hc.1) (by simpa using h1) (by rw[ed];exact hc.2)
   rw[ed,List.length_map] at hj;refine hj.mono ?_;rintro e w' ⟨rfl,hb⟩;exact⟨_,rfl,hb,rfl,hm⟩
 . exact none' (some ad) 0 (by simpa using h0) (by apply Array.ext';simpa using e1)
end Go.Proofs.YtkkfedionkhgnaaGreatDoor
