import Derived.Test.YtbdgngdpkdagoaaGreatDoorChecked
import Derived.Lib.IndexMore
import Derived.Test.YtbdgngdpkdagoaaGreatDoorLibM
import Derived.Test.YtbdgngdpkdagoaaGreatDoorShelf
namespace Go.Proofs.YtbdgngdpkdagoaaGreatDoor
open Go Go.RowKit
theorem Q0e(c:UInt8):∀ s:List UInt8,Lib.index s [c]=if (s.any λb=>!ntc c.toNat b)=true then ((s.takeWhile (ntc c.toNat)).length:Int) else -1
 | []=>rfl
 | b::s=>by
   unfold Lib.index;have e:[c].isPrefixOf (b::s)=!ntc c.toNat b:=by simp only[List.isPrefixOf,Bool.and_true,ntc];by_cases h:c=b;subst h;simp;have:b.toNat≠c.toNat:=λg=>h (UInt8.toNat_inj.1 g).symm;simp[h,this]
   rw[e,Q0e c s,List.any_cons,vp];cases h:ntc c.toNat b;simp;simp only[yf,xn];generalize (s.takeWhile (ntc c.toNat)).length=L;cases (s.any λb=>!ntc c.toNat b);rfl;simp only[ou,Bool.false_or,yf,wg,yv];rw[oj (by simp<;>omega)];omega
theorem Jmz(c:UInt8)(s:List UInt8):Lib.cut s [c]=cutC c.toNat s:=by
 have e:∀(l:List UInt8),l.dropWhile (ntc c.toNat)=l.drop (l.takeWhile (ntc c.toNat)).length:=by
  intro l
  induction l with
  | nil=>rfl
  | cons a l d=>
    rw[List.dropWhile_cons,vp];cases ntc c.toNat a;rfl;simp[d]
 have tw:∀(l:List UInt8),l.takeWhile (ntc c.toNat)=l.take (l.takeWhile (ntc c.toNat)).length:=by
  intro l
  induction l with
  | nil=>rfl
  | cons a l d=>
    rw[vp];cases ntc c.toNat a;rfl;simp only[yf,xn,wn];rw[<-d]
 have al:∀(l:List UInt8),(l.any λb=>!ntc c.toNat b)=false->l.takeWhile (ntc c.toNat)=l:=by
  intro l
  induction l with
  | nil=>intro _;rfl
  | cons a l d=>
    intro h;rw[List.any_cons,gt] at h;have:ntc c.toNat a=true:=by simpa using h.1
    rw[vp,this,oq rfl,d h.2]
 unfold Lib.cut;rw[Q0e];have f:=al s;cases h:(s.any λb=>!ntc c.toNat b);unfold cutC;rw[h,oj (show ¬ false=true by decide),oj (show ¬(0:Int)<=-1 by decide),e,f h];simp;rw[oq rfl,oq om,ya];unfold cutC;rw[h,e,List.drop_drop];rw[<-tw s];rfl
theorem Jk3(w:World)(n:Nat):Below w.heap.size w (w.drewN n):=⟨rfl,rfl,rfl,xr _,λ_ _=>rfl⟩
theorem Q0f{x0 d:List UInt8}:∀ r,Qlk x0 d=some r->FnOk Tryz.prog 210 [str x0,str d] [] (str r) []:=by
 intro r hr
 match d,hr with
 | [c],hr=>
   simp only[Qlk] at hr;split at hr
   case isFalse=>cases hr
   rename_i g;cases hr;refine Jfl ⟨_,Tryz.func210,ox,rfl⟩ λw S γ vs j=>?_;obtain⟨m,k,f,⟨rfl,i⟩,n,l,rfl,⟨rfl,_⟩,rfl⟩:=j;have a:vs=#[.string ⟨x0.toArray⟩,.string ⟨#[c]⟩]:=by apply dv;simpa using f
   subst a;refine(Tryz.strings_TrimLeft_one ⟨x0.toArray⟩ c g w).mono ?_;rintro e w' ⟨rfl,rfl⟩;refine⟨_,rfl,rfl,?_⟩;simp only[Lib.trimLeftB];exact⟨oc,xo (List.dropWhile_suffix _).length_le i⟩
theorem Qry{x0 d:List UInt8}:∀ r,Qkl x0 d=some r->FnOk Tryz.prog 134 [str x0,str d] [] (.tup [str r.1,str r.2.1,bl r.2.2]) []:=by
 intro r hr
 match d,hr with
 | [c],hr=>
   simp only[Qkl] at hr;split at hr
   case isFalse=>cases hr
   rename_i j;cases hr;refine Q47 ⟨_,Tryz.func134,ox,rfl⟩ λw S γ vs q l p=>?_;obtain⟨u,s,g,⟨rfl,f⟩,v,t,rfl,⟨rfl,_⟩,rfl⟩:=p;have a:vs=#[.string ⟨x0.toArray⟩,.string ⟨#[c]⟩]:=by apply dv;simpa using g
   subst a;obtain⟨m,n⟩:=l.1;refine(Tryz.strings_Cut ⟨x0.toArray⟩ ⟨#[c]⟩ m w j n).mono ?_;rintro e w' ⟨rfl,k,rfl⟩;refine⟨_,rfl,Jk3 w k,?_⟩;have i:Lib.cut (ByteArray.mk x0.toArray).data.toList (ByteArray.mk #[c]).data.toList=cutC c.toNat x0:=Jmz c x0;rw[i];have k1:(cutC c.toNat x0).1.length<=maxLen:=xo (List.takeWhile_sublist _).length_le f;have k2:(cutC c.toNat x0).2.1.length<=maxLen:=by
    refine xo ?_ f;unfold cutC;simp only[uc];exact xo (Nat.sub_le _ _) (List.dropWhile_suffix _).length_le
   exact⟨_,rfl,_,_,rfl,⟨rfl,k1⟩,_,_,rfl,⟨rfl,k2⟩,_,_,rfl,rfl,rfl⟩
theorem Jgt(c:UInt8):∀(k:Nat) (s:List UInt8),Lib.count s [c]=k->Lib.splitK [c] 0 k s=splitC c.toNat s:=by
 have e:∀(s:List UInt8),splitC c.toNat s=if (s.any λb=>!ntc c.toNat b)=true then s.takeWhile (ntc c.toNat)::splitC c.toNat (s.drop ((s.takeWhile (ntc c.toNat)).length+1)) else [s]:=by
  intro s
  induction s with
  | nil=>rfl
  | cons b s d=>
    rw[splitC,List.any_cons,vp];cases h:ntc c.toNat b;simp;simp only[ou,Bool.false_or,yf,xn,jb];rw[d];by_cases g:(s.any λb=>!ntc c.toNat b)=true;rw[oq g,oq g];rw[oj g,oj g]
 intro k
 induction k with
 | zero=>
   intro s hk;rw[e,oj];rfl;intro g;have:=Lib.count_hit (s:=s) (sub:=[c]) (i:=(s.takeWhile (ntc c.toNat)).length) oc (by rw[Q0e,oq g]);omega
 | succ k d=>
   intro s hk;rw[e];unfold Lib.splitK;rw[Q0e];by_cases g:(s.any λb=>!ntc c.toNat b)=true;have:=Lib.count_hit (s:=s) (sub:=[c]) (i:=(s.takeWhile (ntc c.toNat)).length) oc (by rw[Q0e,oq g]);rw[oq g,oq g,oj (by simp<;>omega),ya,xp];rw[show([c]:List UInt8).length=1 from rfl] at this |-;rw[d _ om];congr 1;have tw:∀(l:List UInt8),l.takeWhile (ntc c.toNat)=l.take (l.takeWhile (ntc c.toNat)).length:=by
    intro l
    induction l with
    | nil=>rfl
    | cons a l d=>
      rw[vp];cases ntc c.toNat a;rfl;simp only[yf,xn,wn];rw[<-d]
   exact(tw s).symm;rw[oj g,oj g,oq oa]
theorem Qu7(c:Nat):∀(s w:List UInt8),w∈splitC c s->w.length<=s.length
 | [],w,h=>by simp[splitC] at h;subst h;simp
 | y::s,w,h=>by
   unfold splitC at h;split at h;cases hs:splitC c s with
   | nil=>
     rw[hs] at h;rcases xu.1 h with rfl | h;simp;cases h
   | cons v r=>
     rw[hs] at h;rcases xu.1 h with rfl | h;have:=Qu7 c s v (hs ▸ List.Mem.head _);simp;omega;have:=Qu7 c s w (hs ▸ List.Mem.tail _ h);simp;omega
   rcases xu.1 h with rfl | h;simp;have:=Qu7 c s w h;simp;omega
theorem Q49{x0 d:List UInt8}:∀ r,Qo7 x0 d=some r->FnOk Tryz.prog 303 [str x0,str d] [] (sli 1 (List.map str r)) []:=by
 intro r hr
 match d,hr with
 | [c],hr=>
   simp only[Qo7] at hr;split at hr
   case isFalse=>cases hr
   rename_i i;cases hr;refine Q47 ⟨_,Tryz.func303,ox,rfl⟩ λw S γ vs n q u=>?_;obtain⟨C,A,j,⟨rfl,s⟩,E,B,rfl,⟨rfl,_⟩,rfl⟩:=u;have a:vs=#[.string ⟨x0.toArray⟩,.string ⟨#[c]⟩]:=by apply dv;simpa using j
   subst a;obtain⟨m,t⟩:=q.1;refine(Tryz.strings_Split ⟨x0.toArray⟩ ⟨#[c]⟩ m w i t (xr 1)).mono ?_;rintro e w' ⟨rfl,rfl⟩;refine⟨_,rfl,Below.alloc (Below.refl _ w) (xr _) _,?_⟩;have f:(Lib.splitB ⟨#[c]⟩ 0 (Lib.countB ⟨x0.toArray⟩ ⟨#[c]⟩) ⟨x0.toArray⟩).map (·.data.toList)=splitC c.toNat x0:=by rw[Lib.splitB_data];exact Jgt c _ x0 rfl
   have k:(Lib.splitB ⟨#[c]⟩ 0 (Lib.countB ⟨x0.toArray⟩ ⟨#[c]⟩) ⟨x0.toArray⟩).map Value.string=(splitC c.toNat x0).map λl=>Value.string ⟨l.toArray⟩:=by rw[<-f,yo];rfl
   have g:Lib.countB ⟨x0.toArray⟩ ⟨#[c]⟩+1=(splitC c.toNat x0).length:=by rw[<-f,ov,Lib.splitB_all ⟨#[c]⟩ (xr 1) 0 _ _ rfl]
   rw[k,g]
   exact Jmy n (λy v=>xo (Qu7 _ _ _ v) s) (by
    rw[<-g];have x:Lib.countB ⟨x0.toArray⟩ ⟨#[c]⟩<=x0.length:=Lib.countB_le ⟨#[c]⟩ (xr 1) _ ⟨x0.toArray⟩ (xr _);have p:x0.length<4294967281:=i
    unfold maxLen;omega)
theorem Jbu(c:List UInt8):∀ s:List UInt8,Lib.indexAny s c<=s.length
 | []=>by simp[Lib.indexAny]
 | b::s=>by have:=Jbu c s;unfold Lib.indexAny;rw[xn];split;omega;split<;>omega
theorem Q0g{x0 d:List UInt8}:∀ r,Qll x0 d=some r->FnOk Tryz.prog 325 [str x0,str d] [] (i64 r) []:=by
 intro r hr;simp only[Qll] at hr;split at hr
 case isFalse=>cases hr
 rename_i f;cases hr;refine Q47 ⟨_,Tryz.func325,ox,rfl⟩ λw S γ vs m n k=>?_;obtain⟨u,s,i,⟨rfl,p⟩,v,t,rfl,⟨rfl,_⟩,rfl⟩:=k;have g:vs=#[.string ⟨x0.toArray⟩,.string ⟨d.toArray⟩]:=by apply dv;simpa using i
 subst g
 have a:∀ l:List UInt8,asc l=true->∀(j:Nat) b,l[j]?=some b->b.toNat<128:=λl h j b hb=>by
  have:=jf.1 h b (ud hb)
  simpa using this
 refine(Tryz.strings_IndexAny_laid ⟨x0.toArray⟩ ⟨d.toArray⟩ w f.1 f.2.1 (a _ f.2.2.1) (a _ f.2.2.2)).mono ?_;rintro e w' ⟨rfl,hb⟩;have k1:=Lib.indexAny_ge d x0;have k2:=Jbu d x0;have q:=f.1;exact⟨_,rfl,hb,rfl,by show(-9223372036854775808:Int)<=_;omega,by show _<=(9223372036854775807:Int);omega⟩
theorem Q0h{x0 d:List UInt8}:∀ r,Qlm x0 d=some r->FnOk Tryz.prog 254 [str x0,str d] [] (bl r) []:=by
 intro r hr
 match d,hr with
 | [c],hr=>
   simp only[Qlm] at hr;cases hr;refine Jfl ⟨_,Tryz.func254,ox,rfl⟩ λw S γ vs g=>?_;obtain⟨l,j,f,⟨rfl,i⟩,m,k,rfl,⟨rfl,_⟩,rfl⟩:=g;have a:vs=#[.string ⟨x0.toArray⟩,.string ⟨#[c]⟩]:=by apply dv;simpa using f
   subst a;refine(Tryz.strings_Contains_one ⟨x0.toArray⟩ c w).mono ?_;rintro e w' ⟨rfl,rfl⟩;exact⟨_,rfl,rfl,rfl⟩
theorem Q5a{w:World}{S:Nat->Prop}{γ:Nm}:∀(l:List (List UInt8)) (cs:List Value),Ly.holds w S γ (l.map str) cs->cs=l.map λx=>Value.string ⟨x.toArray⟩
 | [],cs,h=>h
 | x::l,cs,h=>by obtain⟨c1,a,rfl,⟨v,rfl,rfl,_⟩,d⟩:=h;rw[Q5a l a d];rfl
theorem Q7b{x0:List (List UInt8)}{d:List UInt8}:∀ r,Qqq x0 d=some r->FnOk Tryz.prog 79 [sli 1 (List.map str x0),str d] [] (str r) []:=by
 intro r hr;simp only[Qqq] at hr;split at hr
 case isFalse=>cases hr
 rename_i k;cases hr;refine Q47 ⟨_,Tryz.func79,ox,rfl⟩ λw S γ vs G m B=>?_;obtain⟨J,H,i,hs,K,I,rfl,⟨rfl,_⟩,rfl⟩:=B;have A:(Lib.join x0 d).length<=maxLen:=xo k.2 oz;have none':∀(a:Option Addr) (c:Nat),x0=[]->vs=#[.slice a 0 c,.string ⟨d.toArray⟩]->Calls Tryz.prog 79 vs w λe w'=>∃ v,e=.returned v/\Below w.heap.size w w'/\(str (Lib.join x0 d)).val w' S γ v:=by
  intro a c h0 f;subst f h0;refine(Tryz.strings_Join_none a c ⟨d.toArray⟩ w).mono ?_;rintro e w' ⟨rfl,rfl⟩;exact⟨_,rfl,Below.refl _ _,rfl,by simp[Lib.join_nil]⟩
 rcases hs with ⟨rfl,h0⟩ | ⟨b,o,cap,cs,rfl,s,C,t,E,u,y,F⟩ | ⟨h0,p,rfl⟩
 . exact none' none 0 (by simpa using h0) (by apply dv;simpa using i)
 . have q:=Q5a x0 cs y
   subst q;have f:vs=#[.slice (some ⟨b,o,none⟩) x0.length cap,.string ⟨d.toArray⟩]:=by apply dv;simpa using i
   subst f;have l:(x0.map λx=>ByteArray.mk x.toArray).map (·.data.toList)=x0:=by simp[yo,Function.comp_def]
   have n:=Tryz.strings_Join b o cap (x0.map λx=>⟨x.toArray⟩) ⟨d.toArray⟩ w (λj x g=>u j _ (by
    rw[xm] at g |-;cases m:x0[j]?<;>rw[m] at g<;>simp at g
    subst g;rfl)) t (by simpa using k.1) (by simpa using s) (by rw[l];exact k.2)
   rw[l,ov] at n;refine n.mono ?_;rintro e w' ⟨rfl,hb⟩;exact⟨_,rfl,hb,rfl,A⟩
 . exact none' (some p) 0 (by simpa using h0) (by apply dv;simpa using i)
end Go.Proofs.YtbdgngdpkdagoaaGreatDoor
