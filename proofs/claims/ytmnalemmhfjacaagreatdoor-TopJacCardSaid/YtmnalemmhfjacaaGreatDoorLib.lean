import Derived.Test.YtmnalemmhfjacaaGreatDoorChecked
import Derived.Lib.IndexMore
import Derived.Test.YtmnalemmhfjacaaGreatDoorLibM
import Derived.Test.YtmnalemmhfjacaaGreatDoorShelf
namespace Go.Proofs.YtmnalemmhfjacaaGreatDoor
open Go Go.RowKit
theorem Qqh(c:UInt8):∀ s:List UInt8,Lib.index s [c]=if (s.any λb=>!ntc c.toNat b)=true then ((s.takeWhile (ntc c.toNat)).length:Int) else -1
 | []=>rfl
 | b::s=>by
   unfold Lib.index;have e:[c].isPrefixOf (b::s)=!ntc c.toNat b:=by simp only[List.isPrefixOf,Bool.and_true,ntc];by_cases h:c=b;subst h;simp;have:b.toNat≠c.toNat:=λg=>h (UInt8.toNat_inj.1 g).symm;simp[h,this]
   rw[e,Qqh c s,List.any_cons,uh];cases h:ntc c.toNat b;simp;simp only[vh,ow];generalize (s.takeWhile (ntc c.toNat)).length=L;cases (s.any λb=>!ntc c.toNat b);rfl;simp only[ot,Bool.false_or,vh,Bool.false_eq_true,if_false];rw[oh (by simp<;>omega)];omega
theorem Q81(c:UInt8)(s:List UInt8):Lib.cut s [c]=cutC c.toNat s:=by
 have e:∀(l:List UInt8),l.dropWhile (ntc c.toNat)=l.drop (l.takeWhile (ntc c.toNat)).length:=by
  intro l
  induction l with
  | nil=>rfl
  | cons a l d=>
    rw[List.dropWhile_cons,uh];cases ntc c.toNat a;rfl;simp[d]
 have tw:∀(l:List UInt8),l.takeWhile (ntc c.toNat)=l.take (l.takeWhile (ntc c.toNat)).length:=by
  intro l
  induction l with
  | nil=>rfl
  | cons a l d=>
    rw[uh];cases ntc c.toNat a;rfl;simp only[vh,ow,uf];rw[<-d]
 have al:∀(l:List UInt8),(l.any λb=>!ntc c.toNat b)=false->l.takeWhile (ntc c.toNat)=l:=by
  intro l
  induction l with
  | nil=>intro _;rfl
  | cons a l d=>
    intro h;rw[List.any_cons,vu] at h;have:ntc c.toNat a=true:=by simpa using h.1
    rw[uh,this,oi rfl,d h.2]
 unfold Lib.cut;rw[Qqh];have f:=al s;cases h:(s.any λb=>!ntc c.toNat b);unfold cutC;rw[h,oh (show ¬ false=true by decide),oh (show ¬(0:Int)<=-1 by decide),e,f h];simp;rw[oi rfl,oi om,yz];unfold cutC;rw[h,e,List.drop_drop];rw[<-tw s];rfl
theorem Q7c(w:World)(n:Nat):Below w.heap.size w (w.drewN n):=⟨rfl,rfl,rfl,xd _,λ_ _=>rfl⟩
theorem Qkj{x0 d:List UInt8}:∀ r,Qes x0 d=some r->FnOk Tryz.prog 92 [str x0,str d] [] (.tup [str r.1,str r.2.1,bl r.2.2]) []:=by
 intro r hr
 match d,hr with
 | [c],hr=>
   simp only[Qes] at hr;split at hr
   case isFalse=>cases hr
   rename_i j;cases hr;refine Qze ⟨_,Tryz.func92,od,rfl⟩ λw S γ vs q l p=>?_;obtain⟨u,s,g,⟨rfl,f⟩,v,t,rfl,⟨rfl,_⟩,rfl⟩:=p;have a:vs=#[.string ⟨x0.toArray⟩,.string ⟨#[c]⟩]:=by apply Array.ext';simpa using g
   subst a;obtain⟨m,n⟩:=l.1;refine(Tryz.strings_Cut ⟨x0.toArray⟩ ⟨#[c]⟩ m w j n).mono ?_;rintro e w' ⟨rfl,k,rfl⟩;refine⟨_,rfl,Q7c w k,?_⟩;have i:Lib.cut (ByteArray.mk x0.toArray).data.toList (ByteArray.mk #[c]).data.toList=cutC c.toNat x0:=Q81 c x0;rw[i];have k1:(cutC c.toNat x0).1.length<=maxLen:=xx (List.takeWhile_sublist _).length_le f;have k2:(cutC c.toNat x0).2.1.length<=maxLen:=by
    refine xx ?_ f;unfold cutC;simp only[uz];exact xx (Nat.sub_le _ _) (List.dropWhile_suffix _).length_le
   exact⟨_,rfl,_,_,rfl,⟨rfl,k1⟩,_,_,rfl,⟨rfl,k2⟩,_,_,rfl,rfl,rfl⟩
theorem Q3a(c:UInt8):∀(k:Nat) (s:List UInt8),Lib.count s [c]=k->Lib.splitK [c] 0 k s=splitC c.toNat s:=by
 have e:∀(s:List UInt8),splitC c.toNat s=if (s.any λb=>!ntc c.toNat b)=true then s.takeWhile (ntc c.toNat)::splitC c.toNat (s.drop ((s.takeWhile (ntc c.toNat)).length+1)) else [s]:=by
  intro s
  induction s with
  | nil=>rfl
  | cons b s d=>
    rw[splitC,List.any_cons,uh];cases h:ntc c.toNat b;simp;simp only[ot,Bool.false_or,vh,ow,wu];rw[d];by_cases g:(s.any λb=>!ntc c.toNat b)=true;rw[oi g,oi g];rw[oh g,oh g]
 intro k
 induction k with
 | zero=>
   intro s hk;rw[e,oh];rfl;intro g;have:=Lib.count_hit (s:=s) (sub:=[c]) (i:=(s.takeWhile (ntc c.toNat)).length) oa (by rw[Qqh,oi g]);omega
 | succ k d=>
   intro s hk;rw[e];unfold Lib.splitK;rw[Qqh];by_cases g:(s.any λb=>!ntc c.toNat b)=true;have:=Lib.count_hit (s:=s) (sub:=[c]) (i:=(s.takeWhile (ntc c.toNat)).length) oa (by rw[Qqh,oi g]);rw[oi g,oi g,oh (by simp<;>omega),yz,xf];rw[show([c]:List UInt8).length=1 from rfl] at this |-;rw[d _ om];congr 1;have tw:∀(l:List UInt8),l.takeWhile (ntc c.toNat)=l.take (l.takeWhile (ntc c.toNat)).length:=by
    intro l
    induction l with
    | nil=>rfl
    | cons a l d=>
      rw[uh];cases ntc c.toNat a;rfl;simp only[vh,ow,uf];rw[<-d]
   exact(tw s).symm;rw[oh g,oh g,oi oz]
theorem Qme(c:Nat):∀(s w:List UInt8),w∈splitC c s->w.length<=s.length
 | [],w,h=>by simp[splitC] at h;subst h;simp
 | y::s,w,h=>by
   unfold splitC at h;split at h;cases hs:splitC c s with
   | nil=>
     rw[hs] at h;rcases xj.1 h with rfl | h;simp;cases h
   | cons v r=>
     rw[hs] at h;rcases xj.1 h with rfl | h;have:=Qme c s v (hs ▸ List.Mem.head _);simp;omega;have:=Qme c s w (hs ▸ List.Mem.tail _ h);simp;omega
   rcases xj.1 h with rfl | h;simp;have:=Qme c s w h;simp;omega
theorem Qud{x0 d:List UInt8}:∀ r,Qih x0 d=some r->FnOk Tryz.prog 212 [str x0,str d] [] (sli 1 (List.map str r)) []:=by
 intro r hr
 match d,hr with
 | [c],hr=>
   simp only[Qih] at hr;split at hr
   case isFalse=>cases hr
   rename_i i;cases hr;refine Qze ⟨_,Tryz.func212,od,rfl⟩ λw S γ vs n q u=>?_;obtain⟨C,A,j,⟨rfl,s⟩,E,B,rfl,⟨rfl,_⟩,rfl⟩:=u;have a:vs=#[.string ⟨x0.toArray⟩,.string ⟨#[c]⟩]:=by apply Array.ext';simpa using j
   subst a;obtain⟨m,t⟩:=q.1;refine(Tryz.strings_Split ⟨x0.toArray⟩ ⟨#[c]⟩ m w i t (xd 1)).mono ?_;rintro e w' ⟨rfl,rfl⟩;refine⟨_,rfl,Below.alloc (Below.refl _ w) (xd _) _,?_⟩;have f:(Lib.splitB ⟨#[c]⟩ 0 (Lib.countB ⟨x0.toArray⟩ ⟨#[c]⟩) ⟨x0.toArray⟩).map (·.data.toList)=splitC c.toNat x0:=by rw[Lib.splitB_data];exact Q3a c _ x0 rfl
   have k:(Lib.splitB ⟨#[c]⟩ 0 (Lib.countB ⟨x0.toArray⟩ ⟨#[c]⟩) ⟨x0.toArray⟩).map Value.string=(splitC c.toNat x0).map λl=>Value.string ⟨l.toArray⟩:=by rw[<-f,uc];rfl
   have g:Lib.countB ⟨x0.toArray⟩ ⟨#[c]⟩+1=(splitC c.toNat x0).length:=by rw[<-f,xr,Lib.splitB_all ⟨#[c]⟩ (xd 1) 0 _ _ rfl]
   rw[k,g]
   exact Q8y n (λy v=>xx (Qme _ _ _ v) s) (by
    rw[<-g];have x:Lib.countB ⟨x0.toArray⟩ ⟨#[c]⟩<=x0.length:=Lib.countB_le ⟨#[c]⟩ (xd 1) _ ⟨x0.toArray⟩ (xd _);have p:x0.length<4294967281:=i
    unfold maxLen;omega)
theorem Qzj(c:List UInt8):∀ s:List UInt8,Lib.indexAny s c<=s.length
 | []=>by simp[Lib.indexAny]
 | b::s=>by have:=Qzj c s;unfold Lib.indexAny;rw[ow];split;omega;split<;>omega
theorem Qqi{x0 d:List UInt8}:∀ r,Qfl x0 d=some r->FnOk Tryz.prog 228 [str x0,str d] [] (i64 r) []:=by
 intro r hr;simp only[Qfl] at hr;split at hr
 case isFalse=>cases hr
 rename_i f;cases hr;refine Qze ⟨_,Tryz.func228,od,rfl⟩ λw S γ vs m n k=>?_;obtain⟨u,s,i,⟨rfl,p⟩,v,t,rfl,⟨rfl,_⟩,rfl⟩:=k;have g:vs=#[.string ⟨x0.toArray⟩,.string ⟨d.toArray⟩]:=by apply Array.ext';simpa using i
 subst g
 have a:∀ l:List UInt8,asc l=true->∀(j:Nat) b,l[j]?=some b->b.toNat<128:=λl h j b hb=>by
  have:=gc.1 h b (yb hb)
  simpa using this
 refine(Tryz.strings_IndexAny_laid ⟨x0.toArray⟩ ⟨d.toArray⟩ w f.1 f.2.1 (a _ f.2.2.1) (a _ f.2.2.2)).mono ?_;rintro e w' ⟨rfl,hb⟩;have k1:=Lib.indexAny_ge d x0;have k2:=Qzj d x0;have q:=f.1;exact⟨_,rfl,hb,rfl,by show(-9223372036854775808:Int)<=_;omega,by show _<=(9223372036854775807:Int);omega⟩
theorem Qqj{x0 d:List UInt8}:∀ r,Qfm x0 d=some r->FnOk Tryz.prog 163 [str x0,str d] [] (bl r) []:=by
 intro r hr
 match d,hr with
 | [c],hr=>
   simp only[Qfm] at hr;cases hr;refine Q8x ⟨_,Tryz.func163,od,rfl⟩ λw S γ vs g=>?_;obtain⟨l,j,f,⟨rfl,i⟩,m,k,rfl,⟨rfl,_⟩,rfl⟩:=g;have a:vs=#[.string ⟨x0.toArray⟩,.string ⟨#[c]⟩]:=by apply Array.ext';simpa using f
   subst a;refine(Tryz.strings_Contains_one ⟨x0.toArray⟩ c w).mono ?_;rintro e w' ⟨rfl,rfl⟩;exact⟨_,rfl,rfl,rfl⟩
end Go.Proofs.YtmnalemmhfjacaaGreatDoor
