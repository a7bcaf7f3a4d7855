import Derived.Test.YtjmfkenegjhohaaGreatDoorChecked
import Derived.Lib.IndexMore
import Derived.Test.YtjmfkenegjhohaaGreatDoorLibM
import Derived.Test.YtjmfkenegjhohaaGreatDoorShelf
namespace Go.Proofs.YtjmfkenegjhohaaGreatDoor
open Go Go.RowKit
theorem Qy8(c:UInt8):∀ s:List UInt8,Lib.index s [c]=if (s.any λb=>!ntc c.toNat b)=true then ((s.takeWhile (ntc c.toNat)).length:Int) else -1
 | []=>rfl
 | b::s=>by
   unfold Lib.index;have e:[c].isPrefixOf (b::s)=!ntc c.toNat b:=by simp only[List.isPrefixOf,Bool.and_true,ntc];by_cases h:c=b;subst h;simp;have:b.toNat≠c.toNat:=λg=>h (UInt8.toNat_inj.1 g).symm;simp[h,this]
   rw[e,Qy8 c s,List.any_cons,vh];cases h:ntc c.toNat b;simp;simp only[ya,xn];generalize (s.takeWhile (ntc c.toNat)).length=L;cases (s.any λb=>!ntc c.toNat b);rfl;simp only[ov,Bool.false_or,ya,wx,yo];rw[ol (by simp<;>omega)];omega
theorem Jjx(c:UInt8)(s:List UInt8):Lib.cut s [c]=cutC c.toNat s:=by
 have e:∀(l:List UInt8),l.dropWhile (ntc c.toNat)=l.drop (l.takeWhile (ntc c.toNat)).length:=by
  intro l
  induction l with
  | nil=>rfl
  | cons a l d=>
    rw[List.dropWhile_cons,vh];cases ntc c.toNat a;rfl;simp[d]
 have tw:∀(l:List UInt8),l.takeWhile (ntc c.toNat)=l.take (l.takeWhile (ntc c.toNat)).length:=by
  intro l
  induction l with
  | nil=>rfl
  | cons a l d=>
    rw[vh];cases ntc c.toNat a;rfl;simp only[ya,xn,vp];rw[<-d]
 have al:∀(l:List UInt8),(l.any λb=>!ntc c.toNat b)=false->l.takeWhile (ntc c.toNat)=l:=by
  intro l
  induction l with
  | nil=>intro _;rfl
  | cons a l d=>
    intro h;rw[List.any_cons,gh] at h;have:ntc c.toNat a=true:=by simpa using h.1
    rw[vh,this,oq rfl,d h.2]
 unfold Lib.cut;rw[Qy8];have f:=al s;cases h:(s.any λb=>!ntc c.toNat b);unfold cutC;rw[h,ol (show ¬ false=true by decide),ol (show ¬(0:Int)<=-1 by decide),e,f h];simp;rw[oq rfl,oq om,yh];unfold cutC;rw[h,e,List.drop_drop];rw[<-tw s];rfl
theorem Jih(w:World)(n:Nat):Below w.heap.size w (w.drewN n):=⟨rfl,rfl,rfl,xm _,λ_ _=>rfl⟩
theorem Qy9{x0 d:List UInt8}:∀ r,Qk9 x0 d=some r->FnOk Tryz.prog 214 [str x0,str d] [] (str r) []:=by
 intro r hr
 match d,hr with
 | [c],hr=>
   simp only[Qk9] at hr;split at hr
   case isFalse=>cases hr
   rename_i g;cases hr;refine Jdi ⟨_,Tryz.func214,ox,rfl⟩ λw S γ vs j=>?_;obtain⟨m,k,f,⟨rfl,i⟩,n,l,rfl,⟨rfl,_⟩,rfl⟩:=j;have a:vs=#[.string ⟨x0.toArray⟩,.string ⟨#[c]⟩]:=by apply dc;simpa using f
   subst a;refine(Tryz.strings_TrimLeft_one ⟨x0.toArray⟩ c g w).mono ?_;rintro e w' ⟨rfl,rfl⟩;refine⟨_,rfl,rfl,?_⟩;simp only[Lib.trimLeftB];exact⟨oc,xo (List.dropWhile_suffix _).length_le i⟩
theorem Qq9{x0 d:List UInt8}:∀ r,Qkb x0 d=some r->FnOk Tryz.prog 138 [str x0,str d] [] (.tup [str r.1,str r.2.1,bl r.2.2]) []:=by
 intro r hr
 match d,hr with
 | [c],hr=>
   simp only[Qkb] at hr;split at hr
   case isFalse=>cases hr
   rename_i j;cases hr;refine Q33 ⟨_,Tryz.func138,ox,rfl⟩ λw S γ vs q l p=>?_;obtain⟨u,s,g,⟨rfl,f⟩,v,t,rfl,⟨rfl,_⟩,rfl⟩:=p;have a:vs=#[.string ⟨x0.toArray⟩,.string ⟨#[c]⟩]:=by apply dc;simpa using g
   subst a;obtain⟨m,n⟩:=l.1;refine(Tryz.strings_Cut ⟨x0.toArray⟩ ⟨#[c]⟩ m w j n).mono ?_;rintro e w' ⟨rfl,k,rfl⟩;refine⟨_,rfl,Jih w k,?_⟩;have i:Lib.cut (ByteArray.mk x0.toArray).data.toList (ByteArray.mk #[c]).data.toList=cutC c.toNat x0:=Jjx c x0;rw[i];have k1:(cutC c.toNat x0).1.length<=maxLen:=xo (List.takeWhile_sublist _).length_le f;have k2:(cutC c.toNat x0).2.1.length<=maxLen:=by
    refine xo ?_ f;unfold cutC;simp only[uz];exact xo (Nat.sub_le _ _) (List.dropWhile_suffix _).length_le
   exact⟨_,rfl,_,_,rfl,⟨rfl,k1⟩,_,_,rfl,⟨rfl,k2⟩,_,_,rfl,rfl,rfl⟩
theorem Jeh(c:UInt8):∀(k:Nat) (s:List UInt8),Lib.count s [c]=k->Lib.splitK [c] 0 k s=splitC c.toNat s:=by
 have e:∀(s:List UInt8),splitC c.toNat s=if (s.any λb=>!ntc c.toNat b)=true then s.takeWhile (ntc c.toNat)::splitC c.toNat (s.drop ((s.takeWhile (ntc c.toNat)).length+1)) else [s]:=by
  intro s
  induction s with
  | nil=>rfl
  | cons b s d=>
    rw[splitC,List.any_cons,vh];cases h:ntc c.toNat b;simp;simp only[ov,Bool.false_or,ya,xn,dv];rw[d];by_cases g:(s.any λb=>!ntc c.toNat b)=true;rw[oq g,oq g];rw[ol g,ol g]
 intro k
 induction k with
 | zero=>
   intro s hk;rw[e,ol];rfl;intro g;have:=Lib.count_hit (s:=s) (sub:=[c]) (i:=(s.takeWhile (ntc c.toNat)).length) oc (by rw[Qy8,oq g]);omega
 | succ k d=>
   intro s hk;rw[e];unfold Lib.splitK;rw[Qy8];by_cases g:(s.any λb=>!ntc c.toNat b)=true;have:=Lib.count_hit (s:=s) (sub:=[c]) (i:=(s.takeWhile (ntc c.toNat)).length) oc (by rw[Qy8,oq g]);rw[oq g,oq g,ol (by simp<;>omega),yh,xp];rw[show([c]:List UInt8).length=1 from rfl] at this |-;rw[d _ om];congr 1;have tw:∀(l:List UInt8),l.takeWhile (ntc c.toNat)=l.take (l.takeWhile (ntc c.toNat)).length:=by
    intro l
    induction l with
    | nil=>rfl
    | cons a l d=>
      rw[vh];cases ntc c.toNat a;rfl;simp only[ya,xn,vp];rw[<-d]
   exact(tw s).symm;rw[ol g,ol g,oq oa]
theorem Qt5(c:Nat):∀(s w:List UInt8),w∈splitC c s->w.length<=s.length
 | [],w,h=>by simp[splitC] at h;subst h;simp
 | y::s,w,h=>by
   unfold splitC at h;split at h;cases hs:splitC c s with
   | nil=>
     rw[hs] at h;rcases xu.1 h with rfl | h;simp;cases h
   | cons v r=>
     rw[hs] at h;rcases xu.1 h with rfl | h;have:=Qt5 c s v (hs ▸ List.Mem.head _);simp;omega;have:=Qt5 c s w (hs ▸ List.Mem.tail _ h);simp;omega
   rcases xu.1 h with rfl | h;simp;have:=Qt5 c s w h;simp;omega
theorem Q35{x0 d:List UInt8}:∀ r,Qop x0 d=some r->FnOk Tryz.prog 307 [str x0,str d] [] (sli 1 (List.map str r)) []:=by
 intro r hr
 match d,hr with
 | [c],hr=>
   simp only[Qop] at hr;split at hr
   case isFalse=>cases hr
   rename_i i;cases hr;refine Q33 ⟨_,Tryz.func307,ox,rfl⟩ λw S γ vs n q u=>?_;obtain⟨C,A,j,⟨rfl,s⟩,E,B,rfl,⟨rfl,_⟩,rfl⟩:=u;have a:vs=#[.string ⟨x0.toArray⟩,.string ⟨#[c]⟩]:=by apply dc;simpa using j
   subst a;obtain⟨m,t⟩:=q.1;refine(Tryz.strings_Split ⟨x0.toArray⟩ ⟨#[c]⟩ m w i t (xm 1)).mono ?_;rintro e w' ⟨rfl,rfl⟩;refine⟨_,rfl,Below.alloc (Below.refl _ w) (xm _) _,?_⟩;have f:(Lib.splitB ⟨#[c]⟩ 0 (Lib.countB ⟨x0.toArray⟩ ⟨#[c]⟩) ⟨x0.toArray⟩).map (·.data.toList)=splitC c.toNat x0:=by rw[Lib.splitB_data];exact Jeh c _ x0 rfl
   have k:(Lib.splitB ⟨#[c]⟩ 0 (Lib.countB ⟨x0.toArray⟩ ⟨#[c]⟩) ⟨x0.toArray⟩).map Value.string=(splitC c.toNat x0).map λl=>Value.string ⟨l.toArray⟩:=by rw[<-f,yt];rfl
   have g:Lib.countB ⟨x0.toArray⟩ ⟨#[c]⟩+1=(splitC c.toNat x0).length:=by rw[<-f,ot,Lib.splitB_all ⟨#[c]⟩ (xm 1) 0 _ _ rfl]
   rw[k,g]
   exact Jjw n (λy v=>xo (Qt5 _ _ _ v) s) (by
    rw[<-g];have x:Lib.countB ⟨x0.toArray⟩ ⟨#[c]⟩<=x0.length:=Lib.countB_le ⟨#[c]⟩ (xm 1) _ ⟨x0.toArray⟩ (xm _);have p:x0.length<4294967281:=i
    unfold maxLen;omega)
theorem Q93(c:List UInt8):∀ s:List UInt8,Lib.indexAny s c<=s.length
 | []=>by simp[Lib.indexAny]
 | b::s=>by have:=Q93 c s;unfold Lib.indexAny;rw[xn];split;omega;split<;>omega
theorem Qza{x0 d:List UInt8}:∀ r,Qla x0 d=some r->FnOk Tryz.prog 327 [str x0,str d] [] (i64 r) []:=by
 intro r hr;simp only[Qla] at hr;split at hr
 case isFalse=>cases hr
 rename_i f;cases hr;refine Q33 ⟨_,Tryz.func327,ox,rfl⟩ λw S γ vs m n k=>?_;obtain⟨u,s,i,⟨rfl,p⟩,v,t,rfl,⟨rfl,_⟩,rfl⟩:=k;have g:vs=#[.string ⟨x0.toArray⟩,.string ⟨d.toArray⟩]:=by apply dc;simpa using i
 subst g
 have a:∀ l:List UInt8,asc l=true->∀(j:Nat) b,l[j]?=some b->b.toNat<128:=λl h j b hb=>by
  have:=jr.1 h b (uj hb)
  simpa using this
 refine(Tryz.strings_IndexAny_laid ⟨x0.toArray⟩ ⟨d.toArray⟩ w f.1 f.2.1 (a _ f.2.2.1) (a _ f.2.2.2)).mono ?_;rintro e w' ⟨rfl,hb⟩;have k1:=Lib.indexAny_ge d x0;have k2:=Q93 d x0;have q:=f.1;exact⟨_,rfl,hb,rfl,by show(-9223372036854775808:Int)<=_;omega,by show _<=(9223372036854775807:Int);omega⟩
theorem Qzb{x0 d:List UInt8}:∀ r,Qlb x0 d=some r->FnOk Tryz.prog 258 [str x0,str d] [] (bl r) []:=by
 intro r hr
 match d,hr with
 | [c],hr=>
   simp only[Qlb] at hr;cases hr;refine Jdi ⟨_,Tryz.func258,ox,rfl⟩ λw S γ vs g=>?_;obtain⟨l,j,f,⟨rfl,i⟩,m,k,rfl,⟨rfl,_⟩,rfl⟩:=g;have a:vs=#[.string ⟨x0.toArray⟩,.string ⟨#[c]⟩]:=by apply dc;simpa using f
   subst a;refine(Tryz.strings_Contains_one ⟨x0.toArray⟩ c w).mono ?_;rintro e w' ⟨rfl,rfl⟩;exact⟨_,rfl,rfl,rfl⟩
theorem Q36{w:World}{S:Nat->Prop}{γ:Nm}:∀(l:List (List UInt8)) (cs:List Value),Ly.holds w S γ (l.map str) cs->cs=l.map λx=>Value.string ⟨x.toArray⟩
 | [],cs,h=>h
 | x::l,cs,h=>by obtain⟨c1,a,rfl,⟨v,rfl,rfl,_⟩,d⟩:=h;rw[Q36 l a d];rfl
theorem Q5y{x0:List (List UInt8)}{d:List UInt8}:∀ r,Qp4 x0 d=some r->FnOk Tryz.prog 92 [sli 1 (List.map str x0),str d] [] (str r) []:=by
 intro r hr;simp only[Qp4] at hr;split at hr
 case isFalse=>cases hr
 rename_i k;cases hr;refine Q33 ⟨_,Tryz.func92,ox,rfl⟩ λw S γ vs G m B=>?_;obtain⟨J,H,i,hs,K,I,rfl,⟨rfl,_⟩,rfl⟩:=B;have A:(Lib.join x0 d).length<=maxLen:=xo k.2 oz;have none':∀(a:Option Addr) (c:Nat),x0=[]->vs=#[.slice a 0 c,.string ⟨d.toArray⟩]->Calls Tryz.prog 92 vs w λe w'=>∃ v,e=.returned v/\Below w.heap.size w w'/\(str (Lib.join x0 d)).val w' S γ v:=by
  intro a c h0 f;subst f h0;refine(Tryz.strings_Join_none a c ⟨d.toArray⟩ w).mono ?_;rintro e w' ⟨rfl,rfl⟩;exact⟨_,rfl,Below.refl _ _,rfl,by simp[Lib.join_nil]⟩
 rcases hs with ⟨rfl,h0⟩ | ⟨b,o,cap,cs,rfl,s,C,t,E,u,y,F⟩ | ⟨h0,p,rfl⟩
 . exact none' none 0 (by simpa using h0) (by apply dc;simpa using i)
 . have q:=Q36 x0 cs y
   subst q;have f:vs=#[.slice (some ⟨b,o,none⟩) x0.length cap,.string ⟨d.toArray⟩]:=by apply dc;simpa using i
   subst f;have l:(x0.map λx=>ByteArray.mk x.toArray).map (·.data.toList)=x0:=by simp[yt,Function.comp_def]
   have n:=Tryz.strings_Join b o cap (x0.map λx=>⟨x.toArray⟩) ⟨d.toArray⟩ w (λj x g=>u j _ (by
    rw[xr] at g |-;cases m:x0[j]?<;>rw[m] at g<;>simp at g
    subst g;rfl)) t (by simpa using k.1) (by simpa using s) (by rw[l];exact k.2)
   rw[l,ot] at n;refine n.mono ?_;rintro e w' ⟨rfl,hb⟩;exact⟨_,rfl,hb,rfl,A⟩
 . exact none' (some p) 0 (by simpa using h0) (by apply dc;simpa using i)
end Go.Proofs.YtjmfkenegjhohaaGreatDoor
