import Derived.Test.YtgmknbfonlbjfaaGreatDoorChecked
import Derived.Lib.IndexMore
import Derived.Test.YtgmknbfonlbjfaaGreatDoorLibM
import Derived.Test.YtgmknbfonlbjfaaGreatDoorShelf
namespace Go.Proofs.YtgmknbfonlbjfaaGreatDoor
open Go Go.RowKit
theorem Qnr(c:UInt8):∀ s:List UInt8,Lib.index s [c]=if (s.any λb=>!ntc c.toNat b)=true then ((s.takeWhile (ntc c.toNat)).length:Int) else -1
 | []=>rfl
 | b::s=>by
   unfold Lib.index;have e:[c].isPrefixOf (b::s)=!ntc c.toNat b:=by simp only[List.isPrefixOf,Bool.and_true,ntc];by_cases h:c=b;subst h;simp;have:b.toNat≠c.toNat:=λg=>h (UInt8.toNat_inj.1 g).symm;simp[h,this]
   rw[e,Qnr c s,List.any_cons,wn];cases h:ntc c.toNat b;simp;simp only[vb,xp];generalize (s.takeWhile (ntc c.toNat)).length=L;cases (s.any λb=>!ntc c.toNat b);rfl;simp only[xg,Bool.false_or,vb,gm,if_false];rw[ol (by simp<;>omega)];omega
theorem Q08(c:UInt8)(s:List UInt8):Lib.cut s [c]=cutC c.toNat s:=by
 have e:∀(l:List UInt8),l.dropWhile (ntc c.toNat)=l.drop (l.takeWhile (ntc c.toNat)).length:=by
  intro l
  induction l with
  | nil=>rfl
  | cons a l d=>
    rw[List.dropWhile_cons,wn];cases ntc c.toNat a;rfl;simp[d]
 have tw:∀(l:List UInt8),l.takeWhile (ntc c.toNat)=l.take (l.takeWhile (ntc c.toNat)).length:=by
  intro l
  induction l with
  | nil=>rfl
  | cons a l d=>
    rw[wn];cases ntc c.toNat a;rfl;simp only[vb,xp,vi];rw[<-d]
 have al:∀(l:List UInt8),(l.any λb=>!ntc c.toNat b)=false->l.takeWhile (ntc c.toNat)=l:=by
  intro l
  induction l with
  | nil=>intro _;rfl
  | cons a l d=>
    intro h;rw[List.any_cons,vh] at h;have:ntc c.toNat a=true:=by simpa using h.1
    rw[wn,this,oo rfl,d h.2]
 unfold Lib.cut;rw[Qnr];have f:=al s;cases h:(s.any λb=>!ntc c.toNat b);unfold cutC;rw[h,ol (show ¬ false=true by decide),ol (show ¬(0:Int)<=-1 by decide),e,f h];simp;rw[oo rfl,oo om,ut];unfold cutC;rw[h,e,List.drop_drop];rw[<-tw s];rfl
theorem Qz9(w:World)(n:Nat):Below w.heap.size w (w.drewN n):=⟨rfl,rfl,rfl,xn _,λ_ _=>rfl⟩
theorem Qns{d g:List UInt8}:∀ r,Qcs d g=some r->FnOk Tryz.prog 167 [str d,str g] [] (str r) []:=by
 intro r a
 match g,a with
 | [c],a=>
   simp only[Qcs] at a;split at a
   case isFalse=>cases a
   rename_i j;cases a;refine Qw0 ⟨_,Tryz.func167,ox,rfl⟩ λw S γ vs l=>?_;obtain⟨p,m,i,⟨rfl,k⟩,q,n,rfl,⟨rfl,_⟩,rfl⟩:=l;have f:vs=#[.string ⟨d.toArray⟩,.string ⟨#[c]⟩]:=by apply vk;simpa using i
   subst f;refine(Tryz.strings_TrimLeft_one ⟨d.toArray⟩ c j w).mono ?_;rintro e w' ⟨rfl,rfl⟩;refine⟨_,rfl,rfl,?_⟩;simp only[Lib.trimLeftB];exact⟨oc,xm (List.dropWhile_suffix _).length_le k⟩
theorem Qhv{a g:List UInt8}:∀ r,Qbw a g=some r->FnOk Tryz.prog 101 [str a,str g] [] (.tup [str r.1,str r.2.1,bl r.2.2]) []:=by
 intro r d
 match g,d with
 | [c],d=>
   simp only[Qbw] at d;split at d
   case isFalse=>cases d
   rename_i n;cases d;refine Qqd ⟨_,Tryz.func101,ox,rfl⟩ λw S γ vs v p s=>?_;obtain⟨A,x,j,⟨rfl,i⟩,B,y,rfl,⟨rfl,_⟩,rfl⟩:=s;have f:vs=#[.string ⟨a.toArray⟩,.string ⟨#[c]⟩]:=by apply vk;simpa using j
   subst f;obtain⟨m,q⟩:=p.1;refine(Tryz.strings_Cut ⟨a.toArray⟩ ⟨#[c]⟩ m w n q).mono ?_;rintro e w' ⟨rfl,k,rfl⟩;refine⟨_,rfl,Qz9 w k,?_⟩;have l:Lib.cut (ByteArray.mk a.toArray).data.toList (ByteArray.mk #[c]).data.toList=cutC c.toNat a:=Q08 c a;rw[l];have t:(cutC c.toNat a).1.length<=maxLen:=xm (List.takeWhile_sublist _).length_le i;have u:(cutC c.toNat a).2.1.length<=maxLen:=by
    refine xm ?_ i;unfold cutC;simp only[vz];exact xm (Nat.sub_le _ _) (List.dropWhile_suffix _).length_le
   exact⟨_,rfl,_,_,rfl,⟨rfl,t⟩,_,_,rfl,⟨rfl,u⟩,_,_,rfl,rfl,rfl⟩
theorem Qxr(c:UInt8):∀(k:Nat) (s:List UInt8),Lib.count s [c]=k->Lib.splitK [c] 0 k s=splitC c.toNat s:=by
 have e:∀(s:List UInt8),splitC c.toNat s=if (s.any λb=>!ntc c.toNat b)=true then s.takeWhile (ntc c.toNat)::splitC c.toNat (s.drop ((s.takeWhile (ntc c.toNat)).length+1)) else [s]:=by
  intro s
  induction s with
  | nil=>rfl
  | cons b s d=>
    rw[splitC,List.any_cons,wn];cases h:ntc c.toNat b;simp;simp only[xg,Bool.false_or,vb,xp,List.drop_succ_cons];rw[d];by_cases g:(s.any λb=>!ntc c.toNat b)=true;rw[oo g,oo g];rw[ol g,ol g]
 intro k
 induction k with
 | zero=>
   intro s hk;rw[e,ol];rfl;intro g;have:=Lib.count_hit (s:=s) (sub:=[c]) (i:=(s.takeWhile (ntc c.toNat)).length) oc (by rw[Qnr,oo g]);omega
 | succ k d=>
   intro s hk;rw[e];unfold Lib.splitK;rw[Qnr];by_cases g:(s.any λb=>!ntc c.toNat b)=true;have:=Lib.count_hit (s:=s) (sub:=[c]) (i:=(s.takeWhile (ntc c.toNat)).length) oc (by rw[Qnr,oo g]);rw[oo g,oo g,ol (by simp<;>omega),ut,xf];rw[show([c]:List UInt8).length=1 from rfl] at this |-;rw[d _ om];congr 1;have tw:∀(l:List UInt8),l.takeWhile (ntc c.toNat)=l.take (l.takeWhile (ntc c.toNat)).length:=by
    intro l
    induction l with
    | nil=>rfl
    | cons a l d=>
      rw[wn];cases ntc c.toNat a;rfl;simp only[vb,xp,vi];rw[<-d]
   exact(tw s).symm;rw[ol g,ol g,oo oa]
theorem Qj6(c:Nat):∀(s w:List UInt8),w∈splitC c s->w.length<=s.length
 | [],w,h=>by simp[splitC] at h;subst h;simp
 | y::s,w,h=>by
   unfold splitC at h;split at h;cases a:splitC c s with
   | nil=>
     rw[a] at h;rcases xl.1 h with rfl | h;simp;cases h
   | cons v r=>
     rw[a] at h;rcases xl.1 h with rfl | h;have:=Qj6 c s v (a ▸ List.Mem.head _);simp;omega;have:=Qj6 c s w (a ▸ List.Mem.tail _ h);simp;omega
   rcases xl.1 h with rfl | h;simp;have:=Qj6 c s w h;simp;omega
theorem Qqf{a g:List UInt8}:∀ r,Qfu a g=some r->FnOk Tryz.prog 245 [str a,str g] [] (sli 1 (List.map str r)) []:=by
 intro r d
 match g,d with
 | [c],d=>
   simp only[Qfu] at d;split at d
   case isFalse=>cases d
   rename_i k;cases d;refine Qqd ⟨_,Tryz.func245,ox,rfl⟩ λw S γ vs q t x=>?_;obtain⟨F,C,n,⟨rfl,u⟩,G,E,rfl,⟨rfl,_⟩,rfl⟩:=x;have f:vs=#[.string ⟨a.toArray⟩,.string ⟨#[c]⟩]:=by apply vk;simpa using n
   subst f;obtain⟨m,v⟩:=t.1;refine(Tryz.strings_Split ⟨a.toArray⟩ ⟨#[c]⟩ m w k v (xn 1)).mono ?_;rintro e w' ⟨rfl,rfl⟩;refine⟨_,rfl,Below.alloc (Below.refl _ w) (xn _) _,?_⟩;have i:(Lib.splitB ⟨#[c]⟩ 0 (Lib.countB ⟨a.toArray⟩ ⟨#[c]⟩) ⟨a.toArray⟩).map (·.data.toList)=splitC c.toNat a:=by rw[Lib.splitB_data];exact Qxr c _ a rfl
   have p:(Lib.splitB ⟨#[c]⟩ 0 (Lib.countB ⟨a.toArray⟩ ⟨#[c]⟩) ⟨a.toArray⟩).map Value.string=(splitC c.toNat a).map λl=>Value.string ⟨l.toArray⟩:=by rw[<-i,yy];rfl
   have j:Lib.countB ⟨a.toArray⟩ ⟨#[c]⟩+1=(splitC c.toNat a).length:=by rw[<-i,ov,Lib.splitB_all ⟨#[c]⟩ (xn 1) 0 _ _ rfl]
   rw[p,j]
   exact Q06 q (λy A=>xm (Qj6 _ _ _ A) u) (by
    rw[<-j];have B:Lib.countB ⟨a.toArray⟩ ⟨#[c]⟩<=a.length:=Lib.countB_le ⟨#[c]⟩ (xn 1) _ ⟨a.toArray⟩ (xn _);have s:a.length<4294967281:=k
    unfold maxLen;omega)
theorem Qun(c:List UInt8):∀ s:List UInt8,Lib.indexAny s c<=s.length
 | []=>by simp[Lib.indexAny]
 | b::s=>by have:=Qun c s;unfold Lib.indexAny;rw[xp];split;omega;split<;>omega
theorem Qnt{d f:List UInt8}:∀ r,Qct d f=some r->FnOk Tryz.prog 267 [str d,str f] [] (i64 r) []:=by
 intro r i;simp only[Qct] at i;split at i
 case isFalse=>cases i
 rename_i g;cases i;refine Qqd ⟨_,Tryz.func267,ox,rfl⟩ λw S γ vs q s p=>?_;obtain⟨B,y,n,⟨rfl,t⟩,C,A,rfl,⟨rfl,_⟩,rfl⟩:=p;have m:vs=#[.string ⟨d.toArray⟩,.string ⟨f.toArray⟩]:=by apply vk;simpa using n
 subst m
 have a:∀ l:List UInt8,asc l=true->∀(j:Nat) b,l[j]?=some b->b.toNat<128:=λl h j b k=>by
  have:=List.all_eq_true.1 h b (wj k)
  simpa using this
 refine(Tryz.strings_IndexAny_laid ⟨d.toArray⟩ ⟨f.toArray⟩ w g.1 g.2.1 (a _ g.2.2.1) (a _ g.2.2.2)).mono ?_;rintro e w' ⟨rfl,k⟩;have u:=Lib.indexAny_ge f d;have v:=Qun f d;have x:=g.1;exact⟨_,rfl,k,rfl,by show(-9223372036854775808:Int)<=_;omega,by show _<=(9223372036854775807:Int);omega⟩
theorem Qnu{d g:List UInt8}:∀ r,Qcu d g=some r->FnOk Tryz.prog 196 [str d,str g] [] (bl r) []:=by
 intro r a
 match g,a with
 | [c],a=>
   simp only[Qcu] at a;cases a;refine Qw0 ⟨_,Tryz.func196,ox,rfl⟩ λw S γ vs j=>?_;obtain⟨n,l,i,⟨rfl,k⟩,p,m,rfl,⟨rfl,_⟩,rfl⟩:=j;have f:vs=#[.string ⟨d.toArray⟩,.string ⟨#[c]⟩]:=by apply vk;simpa using i
   subst f;refine(Tryz.strings_Contains_one ⟨d.toArray⟩ c w).mono ?_;rintro e w' ⟨rfl,rfl⟩;exact⟨_,rfl,rfl,rfl⟩
theorem Qqg{w:World}{S:Nat->Prop}{γ:Nm}:∀(l:List (List UInt8)) (cs:List Value),Ly.holds w S γ (l.map str) cs->cs=l.map λx=>Value.string ⟨x.toArray⟩
 | [],cs,h=>h
 | x::l,cs,h=>by obtain⟨c1,a,rfl,⟨v,rfl,rfl,_⟩,d⟩:=h;rw[Qqg l a d];rfl
theorem Qro{d:List (List UInt8)}{f:List UInt8}:∀ r,Qgu d f=some r->FnOk Tryz.prog 75 [sli 1 (List.map str d),str f] [] (str r) []:=by
 intro r i;simp only[Qgu] at i;split at i
 case isFalse=>cases i
 rename_i m;cases i;refine Qqd ⟨_,Tryz.func75,ox,rfl⟩ λw S γ vs K p G=>?_;obtain⟨N,L,l,F,O,M,rfl,⟨rfl,_⟩,rfl⟩:=G;have E:(Lib.join d f).length<=maxLen:=xm m.2 oz;have none':∀(a:Option Addr) (c:Nat),d=[]->vs=#[.slice a 0 c,.string ⟨f.toArray⟩]->Calls Tryz.prog 75 vs w λe w'=>∃ v,e=.returned v/\Below w.heap.size w w'/\(str (Lib.join d f)).val w' S γ v:=by
  intro a c h0 g;subst g h0;refine(Tryz.strings_Join_none a c ⟨f.toArray⟩ w).mono ?_;rintro e w' ⟨rfl,rfl⟩;exact⟨_,rfl,Below.refl _ _,rfl,by simp[Lib.join_nil]⟩
 rcases F with ⟨rfl,h0⟩ | ⟨b,o,cap,cs,rfl,u,H,y,I,A,B,J⟩ | ⟨h0,s,rfl⟩
 . exact none' none 0 (by simpa using h0) (by apply vk;simpa using l)
 . have t:=Qqg d cs B
   subst t;have g:vs=#[.slice (some ⟨b,o,none⟩) d.length cap,.string ⟨f.toArray⟩]:=by apply vk;simpa using l
   subst g;have n:(d.map λx=>ByteArray.mk x.toArray).map (·.data.toList)=d:=by simp[yy,Function.comp_def]
   have q:=Tryz.strings_Join b o cap (d.map λx=>⟨x.toArray⟩) ⟨f.toArray⟩ w (λj x k=>A j _ (by
    rw[ug] at k |-;cases p:d[j]?<;>rw[p] at k<;>simp at k
    subst k;rfl)) y (by simpa using m.1) (by simpa using u) (by rw[n];exact m.2)
   rw[n,ov] at q;refine q.mono ?_;rintro e w' ⟨rfl,C⟩;exact⟨_,rfl,C,rfl,E⟩
 . exact none' (some s) 0 (by simpa using h0) (by apply vk;simpa using l)
end Go.Proofs.YtgmknbfonlbjfaaGreatDoor
