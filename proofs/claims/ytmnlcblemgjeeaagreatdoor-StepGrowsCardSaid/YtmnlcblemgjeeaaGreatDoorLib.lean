import Derived.Test.YtmnlcblemgjeeaaGreatDoorChecked
import Derived.Lib.IndexMore
import Derived.Test.YtmnlcblemgjeeaaGreatDoorLibM
import Derived.Test.YtmnlcblemgjeeaaGreatDoorShelf
namespace Go.Proofs.YtmnlcblemgjeeaaGreatDoor
open Go Go.RowKit
theorem Qha(c:UInt8):∀ s:List UInt8,Lib.index s [c]=if (s.any λb=>!ntc c.toNat b)=true then ((s.takeWhile (ntc c.toNat)).length:Int) else -1
 | []=>rfl
 | b::s=>by
   unfold Lib.index;have e:[c].isPrefixOf (b::s)=!ntc c.toNat b:=by simp only[List.isPrefixOf,Bool.and_true,ntc];by_cases h:c=b;subst h;simp;have:b.toNat≠c.toNat:=λg=>h (UInt8.toNat_inj.1 g).symm;simp[h,this]
   rw[e,Qha c s,List.any_cons,yp];cases h:ntc c.toNat b;simp;simp only[uq,xy];generalize (s.takeWhile (ntc c.toNat)).length=L;cases (s.any λb=>!ntc c.toNat b);rfl;simp only[xz,Bool.false_or,uq,Bool.false_eq_true,if_false];rw[oh (by simp<;>omega)];omega
theorem Qtv(c:UInt8)(s:List UInt8):Lib.cut s [c]=cutC c.toNat s:=by
 have e:∀(l:List UInt8),l.dropWhile (ntc c.toNat)=l.drop (l.takeWhile (ntc c.toNat)).length:=by
  intro l
  induction l with
  | nil=>rfl
  | cons a l d=>
    rw[List.dropWhile_cons,yp];cases ntc c.toNat a;rfl;simp[d]
 have tw:∀(l:List UInt8),l.takeWhile (ntc c.toNat)=l.take (l.takeWhile (ntc c.toNat)).length:=by
  intro l
  induction l with
  | nil=>rfl
  | cons a l d=>
    rw[yp];cases ntc c.toNat a;rfl;simp only[uq,xy,vn];rw[<-d]
 have al:∀(l:List UInt8),(l.any λb=>!ntc c.toNat b)=false->l.takeWhile (ntc c.toNat)=l:=by
  intro l
  induction l with
  | nil=>intro _;rfl
  | cons a l d=>
    intro h;rw[List.any_cons,uw] at h;have:ntc c.toNat a=true:=by simpa using h.1
    rw[yp,this,oi rfl,d h.2]
 unfold Lib.cut;rw[Qha];have f:=al s;cases h:(s.any λb=>!ntc c.toNat b);unfold cutC;rw[h,oh (show ¬ false=true by decide),oh (show ¬(0:Int)<=-1 by decide),e,f h];simp;rw[oi rfl,oi om,ui];unfold cutC;rw[h,e,List.drop_drop];rw[<-tw s];rfl
theorem Qs1(w:World)(n:Nat):Below w.heap.size w (w.drewN n):=⟨rfl,rfl,rfl,ot _,λ_ _=>rfl⟩
theorem Qhb{d g:List UInt8}:∀ r,Z2 d g=some r->FnOk Tryz.prog 182 [str d,str g] [] (str r) []:=by
 intro r a
 match g,a with
 | [c],a=>
   simp only[Z2] at a;split at a
   case isFalse=>cases a
   rename_i j;cases a;refine Qpy ⟨_,Tryz.func182,od,rfl⟩ λw S γ vs l=>?_;obtain⟨p,m,i,⟨rfl,k⟩,q,n,rfl,⟨rfl,_⟩,rfl⟩:=l;have f:vs=#[.string ⟨d.toArray⟩,.string ⟨#[c]⟩]:=by apply vj;simpa using i
   subst f;refine(Tryz.strings_TrimLeft_one ⟨d.toArray⟩ c j w).mono ?_;rintro e w' ⟨rfl,rfl⟩;refine⟨_,rfl,rfl,?_⟩;simp only[Lib.trimLeftB];exact⟨oa,ov (List.dropWhile_suffix _).length_le k⟩
theorem Qdl{a g:List UInt8}:∀ r,Y5 a g=some r->FnOk Tryz.prog 127 [str a,str g] [] (.tup [str r.1,str r.2.1,bl r.2.2]) []:=by
 intro r d
 match g,d with
 | [c],d=>
   simp only[Y5] at d;split at d
   case isFalse=>cases d
   rename_i n;cases d;refine Qj6 ⟨_,Tryz.func127,od,rfl⟩ λw S γ vs u p q=>?_;obtain⟨y,v,j,⟨rfl,i⟩,A,x,rfl,⟨rfl,_⟩,rfl⟩:=q;have f:vs=#[.string ⟨a.toArray⟩,.string ⟨#[c]⟩]:=by apply vj;simpa using j
   subst f;obtain⟨m,hm⟩:=p.1;refine(Tryz.strings_Cut ⟨a.toArray⟩ ⟨#[c]⟩ m w n hm).mono ?_;rintro e w' ⟨rfl,k,rfl⟩;refine⟨_,rfl,Qs1 w k,?_⟩;have l:Lib.cut (ByteArray.mk a.toArray).data.toList (ByteArray.mk #[c]).data.toList=cutC c.toNat a:=Qtv c a;rw[l];have s:(cutC c.toNat a).1.length<=maxLen:=ov (List.takeWhile_sublist _).length_le i;have t:(cutC c.toNat a).2.1.length<=maxLen:=by
    refine ov ?_ i;unfold cutC;simp only[ug];exact ov (Nat.sub_le _ _) (List.dropWhile_suffix _).length_le
   exact⟨_,rfl,_,_,rfl,⟨rfl,s⟩,_,_,rfl,⟨rfl,t⟩,_,_,rfl,rfl,rfl⟩
theorem Qqj(c:UInt8):∀(k:Nat) (s:List UInt8),Lib.count s [c]=k->Lib.splitK [c] 0 k s=splitC c.toNat s:=by
 have e:∀(s:List UInt8),splitC c.toNat s=if (s.any λb=>!ntc c.toNat b)=true then s.takeWhile (ntc c.toNat)::splitC c.toNat (s.drop ((s.takeWhile (ntc c.toNat)).length+1)) else [s]:=by
  intro s
  induction s with
  | nil=>rfl
  | cons b s d=>
    rw[splitC,List.any_cons,yp];cases h:ntc c.toNat b;simp;simp only[xz,Bool.false_or,uq,xy,List.drop_succ_cons];rw[d];by_cases g:(s.any λb=>!ntc c.toNat b)=true;rw[oi g,oi g];rw[oh g,oh g]
 intro k
 induction k with
 | zero=>
   intro s hk;rw[e,oh];rfl;intro g;have:=Lib.count_hit (s:=s) (sub:=[c]) (i:=(s.takeWhile (ntc c.toNat)).length) oa (by rw[Qha,oi g]);omega
 | succ k d=>
   intro s hk;rw[e];unfold Lib.splitK;rw[Qha];by_cases g:(s.any λb=>!ntc c.toNat b)=true;have:=Lib.count_hit (s:=s) (sub:=[c]) (i:=(s.takeWhile (ntc c.toNat)).length) oa (by rw[Qha,oi g]);rw[oi g,oi g,oh (by simp<;>omega),ui,xa];rw[show([c]:List UInt8).length=1 from rfl] at this |-;rw[d _ om];congr 1;have tw:∀(l:List UInt8),l.takeWhile (ntc c.toNat)=l.take (l.takeWhile (ntc c.toNat)).length:=by
    intro l
    induction l with
    | nil=>rfl
    | cons a l d=>
      rw[yp];cases ntc c.toNat a;rfl;simp only[uq,xy,vn];rw[<-d]
   exact(tw s).symm;rw[oh g,oh g,oi oz]
theorem Qey(c:Nat):∀(s w:List UInt8),w∈splitC c s->w.length<=s.length
 | [],w,h=>by simp[splitC] at h;subst h;simp
 | y::s,w,h=>by
   unfold splitC at h;split at h;cases hs:splitC c s with
   | nil=>
     rw[hs] at h;rcases yh.1 h with rfl | h;simp;cases h
   | cons v r=>
     rw[hs] at h;rcases yh.1 h with rfl | h;have:=Qey c s v (hs ▸ List.Mem.head _);simp;omega;have:=Qey c s w (hs ▸ List.Mem.tail _ h);simp;omega
   rcases yh.1 h with rfl | h;simp;have:=Qey c s w h;simp;omega
theorem Qj8{a g:List UInt8}:∀ r,Qby a g=some r->FnOk Tryz.prog 256 [str a,str g] [] (sli 1 (List.map str r)) []:=by
 intro r d
 match g,d with
 | [c],d=>
   simp only[Qby] at d;split at d
   case isFalse=>cases d
   rename_i k;cases d;refine Qj6 ⟨_,Tryz.func256,od,rfl⟩ λw S γ vs q t v=>?_;obtain⟨C,A,n,⟨rfl,u⟩,E,B,rfl,⟨rfl,_⟩,rfl⟩:=v;have f:vs=#[.string ⟨a.toArray⟩,.string ⟨#[c]⟩]:=by apply vj;simpa using n
   subst f;obtain⟨m,hm⟩:=t.1;refine(Tryz.strings_Split ⟨a.toArray⟩ ⟨#[c]⟩ m w k hm (ot 1)).mono ?_;rintro e w' ⟨rfl,rfl⟩;refine⟨_,rfl,Below.alloc (Below.refl _ w) (ot _) _,?_⟩;have i:(Lib.splitB ⟨#[c]⟩ 0 (Lib.countB ⟨a.toArray⟩ ⟨#[c]⟩) ⟨a.toArray⟩).map (·.data.toList)=splitC c.toNat a:=by rw[Lib.splitB_data];exact Qqj c _ a rfl
   have p:(Lib.splitB ⟨#[c]⟩ 0 (Lib.countB ⟨a.toArray⟩ ⟨#[c]⟩) ⟨a.toArray⟩).map Value.string=(splitC c.toNat a).map λl=>Value.string ⟨l.toArray⟩:=by rw[<-i,va];rfl
   have j:Lib.countB ⟨a.toArray⟩ ⟨#[c]⟩+1=(splitC c.toNat a).length:=by rw[<-i,xb,Lib.splitB_all ⟨#[c]⟩ (ot 1) 0 _ _ rfl]
   rw[p,j]
   exact Qtt q (λy hy=>ov (Qey _ _ _ hy) u) (by
    rw[<-j];have x:Lib.countB ⟨a.toArray⟩ ⟨#[c]⟩<=a.length:=Lib.countB_le ⟨#[c]⟩ (ot 1) _ ⟨a.toArray⟩ (ot _);have s:a.length<4294967281:=k
    unfold maxLen;omega)
theorem Qn6(c:List UInt8):∀ s:List UInt8,Lib.indexAny s c<=s.length
 | []=>by simp[Lib.indexAny]
 | b::s=>by have:=Qn6 c s;unfold Lib.indexAny;rw[xy];split;omega;split<;>omega
theorem Qhc{d f:List UInt8}:∀ r,Z3 d f=some r->FnOk Tryz.prog 264 [str d,str f] [] (i64 r) []:=by
 intro r i;simp only[Z3] at i;split at i
 case isFalse=>cases i
 rename_i g;cases i;refine Qj6 ⟨_,Tryz.func264,od,rfl⟩ λw S γ vs q s p=>?_;obtain⟨B,y,n,⟨rfl,t⟩,C,A,rfl,⟨rfl,_⟩,rfl⟩:=p;have m:vs=#[.string ⟨d.toArray⟩,.string ⟨f.toArray⟩]:=by apply vj;simpa using n
 subst m
 have a:∀ l:List UInt8,asc l=true->∀(j:Nat) b,l[j]?=some b->b.toNat<128:=λl h j b k=>by
  have:=List.all_eq_true.1 h b (List.mem_of_getElem? k)
  simpa using this
 refine(Tryz.strings_IndexAny_laid ⟨d.toArray⟩ ⟨f.toArray⟩ w g.1 g.2.1 (a _ g.2.2.1) (a _ g.2.2.2)).mono ?_;rintro e w' ⟨rfl,k⟩;have u:=Lib.indexAny_ge f d;have v:=Qn6 f d;have x:=g.1;exact⟨_,rfl,k,rfl,by show(-9223372036854775808:Int)<=_;omega,by show _<=(9223372036854775807:Int);omega⟩
theorem Qhd{d g:List UInt8}:∀ r,Z4 d g=some r->FnOk Tryz.prog 218 [str d,str g] [] (bl r) []:=by
 intro r a
 match g,a with
 | [c],a=>
   simp only[Z4] at a;cases a;refine Qpy ⟨_,Tryz.func218,od,rfl⟩ λw S γ vs j=>?_;obtain⟨n,l,i,⟨rfl,k⟩,p,m,rfl,⟨rfl,_⟩,rfl⟩:=j;have f:vs=#[.string ⟨d.toArray⟩,.string ⟨#[c]⟩]:=by apply vj;simpa using i
   subst f;refine(Tryz.strings_Contains_one ⟨d.toArray⟩ c w).mono ?_;rintro e w' ⟨rfl,rfl⟩;exact⟨_,rfl,rfl,rfl⟩
theorem Qj9{w:World}{S:Nat->Prop}{γ:Nm}:∀(l:List (List UInt8)) (cs:List Value),Ly.holds w S γ (l.map str) cs->cs=l.map λx=>Value.string ⟨x.toArray⟩
 | [],cs,h=>h
 | x::l,cs,h=>by obtain⟨c1,a,rfl,⟨v,rfl,rfl,_⟩,d⟩:=h;rw[Qj9 l a d];rfl
theorem Qlf{d:List (List UInt8)}{f:List UInt8}:∀ r,Qcu d f=some r->FnOk Tryz.prog 89 [sli 1 (List.map str d),str f] [] (str r) []:=by
 intro r i;simp only[Qcu] at i;split at i
 case isFalse=>cases i
 rename_i m;cases i;refine Qj6 ⟨_,Tryz.func89,od,rfl⟩ λw S γ vs I p E=>?_;obtain⟨L,J,l,hs,M,K,rfl,⟨rfl,_⟩,rfl⟩:=E;have hm:(Lib.join d f).length<=maxLen:=ov m.2 oy;have none':∀(a:Option Addr) (c:Nat),d=[]->vs=#[.slice a 0 c,.string ⟨f.toArray⟩]->Calls Tryz.prog 89 vs w λe w'=>∃ v,e=.returned v/\Below w.heap.size w w'/\(str (Lib.join d f)).val w' S γ v:=by
  intro a c h0 g;subst g h0;refine(Tryz.strings_Join_none a c ⟨f.toArray⟩ w).mono ?_;rintro e w' ⟨rfl,rfl⟩;exact⟨_,rfl,Below.refl _ _,rfl,by simp[Lib.join_nil]⟩
 rcases hs with ⟨rfl,h0⟩ | ⟨b,o,cap,cs,rfl,u,F,y,G,A,B,H⟩ | ⟨h0,s,rfl⟩
 . exact none' none 0 (by simpa using h0) (by apply vj;simpa using l)
 . have t:=Qj9 d cs B
   subst t;have g:vs=#[.slice (some ⟨b,o,none⟩) d.length cap,.string ⟨f.toArray⟩]:=by apply vj;simpa using l
   subst g;have n:(d.map λx=>ByteArray.mk x.toArray).map (·.data.toList)=d:=by simp[va,Function.comp_def]
   have q:=Tryz.strings_Join b o cap (d.map λx=>⟨x.toArray⟩) ⟨f.toArray⟩ w (λj x k=>A j _ (by
    rw[xo] at k |-;cases p:d[j]?<;>rw[p] at k<;>simp at k
    subst k;rfl)) y (by simpa using m.1) (by simpa using u) (by rw[n];exact m.2)
   rw[n,xb] at q;refine q.mono ?_;rintro e w' ⟨rfl,C⟩;exact⟨_,rfl,C,rfl,hm⟩
 . exact none' (some s) 0 (by simpa using h0) (by apply vj;simpa using l)
end Go.Proofs.YtmnlcblemgjeeaaGreatDoor
