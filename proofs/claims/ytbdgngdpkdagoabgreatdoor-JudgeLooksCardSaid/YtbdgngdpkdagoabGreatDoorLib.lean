import Derived.Test.YtbdgngdpkdagoabGreatDoorChecked
import Derived.Lib.IndexMore
import Derived.Test.YtbdgngdpkdagoabGreatDoorLibM
import Derived.Test.YtbdgngdpkdagoabGreatDoorShelf
namespace Go.Proofs.YtbdgngdpkdagoabGreatDoor
open Go Go.RowKit
theorem Q1f(c:UInt8):∀ s:List UInt8,Lib.index s [c]=if (s.any λb=>!ntc c.toNat b)=true then ((s.takeWhile (ntc c.toNat)).length:Int) else -1
 | []=>rfl
 | b::s=>by
   unfold Lib.index;have e:[c].isPrefixOf (b::s)=!ntc c.toNat b:=by simp only[List.isPrefixOf,Bool.and_true,ntc];by_cases h:c=b;subst h;simp;have:b.toNat≠c.toNat:=λg=>h (UInt8.toNat_inj.1 g).symm;simp[h,this]
   rw[e,Q1f c s,List.any_cons,vz];cases h:ntc c.toNat b;simp;simp only[yn,xm];generalize (s.takeWhile (ntc c.toNat)).length=L;cases (s.any λb=>!ntc c.toNat b);rfl;simp only[ot,Bool.false_or,yn,vg,yd];rw[ol (by simp<;>omega)];omega
theorem Jj8(c:UInt8)(s:List UInt8):Lib.cut s [c]=cutC c.toNat s:=by
 have e:∀(l:List UInt8),l.dropWhile (ntc c.toNat)=l.drop (l.takeWhile (ntc c.toNat)).length:=by
  intro l
  induction l with
  | nil=>rfl
  | cons a l d=>
    rw[List.dropWhile_cons,vz];cases ntc c.toNat a;rfl;simp[d]
 have tw:∀(l:List UInt8),l.takeWhile (ntc c.toNat)=l.take (l.takeWhile (ntc c.toNat)).length:=by
  intro l
  induction l with
  | nil=>rfl
  | cons a l d=>
    rw[vz];cases ntc c.toNat a;rfl;simp only[yn,xm,ge];rw[<-d]
 have al:∀(l:List UInt8),(l.any λb=>!ntc c.toNat b)=false->l.takeWhile (ntc c.toNat)=l:=by
  intro l
  induction l with
  | nil=>intro _;rfl
  | cons a l d=>
    intro h;rw[List.any_cons,gh] at h;have:ntc c.toNat a=true:=by simpa using h.1
    rw[vz,this,oo rfl,d h.2]
 unfold Lib.cut;rw[Q1f];have f:=al s;cases h:(s.any λb=>!ntc c.toNat b);unfold cutC;rw[h,ol (show ¬ false=true by decide),ol (show ¬(0:Int)<=-1 by decide),e,f h];simp;rw[oo rfl,oo om,yo];unfold cutC;rw[h,e,List.drop_drop];rw[<-tw s];rfl
theorem Jiv(w:World)(n:Nat):Below w.heap.size w (w.drewN n):=⟨rfl,rfl,rfl,xn _,λ_ _=>rfl⟩
theorem Q1g{a f:List UInt8}:∀ r,Qm6 a f=some r->FnOk Tryz.prog 246 [str a,str f] [] (str r) []:=by
 intro r hr
 match f,hr with
 | [c],hr=>
   simp only[Qm6] at hr;split at hr
   case isFalse=>cases hr
   rename_i i;cases hr;refine Jem ⟨_,Tryz.func246,ox,rfl⟩ λw S γ vs k=>?_;obtain⟨n,l,g,⟨rfl,j⟩,p,m,rfl,⟨rfl,_⟩,rfl⟩:=k;have d:vs=#[.string ⟨a.toArray⟩,.string ⟨#[c]⟩]:=by apply gu;simpa using g
   subst d;refine(Tryz.strings_TrimLeft_one ⟨a.toArray⟩ c i w).mono ?_;rintro e w' ⟨rfl,rfl⟩;refine⟨_,rfl,rfl,?_⟩;simp only[Lib.trimLeftB];exact⟨oc,xe (List.dropWhile_suffix _).length_le j⟩
theorem Qs8{a f:List UInt8}:∀ r,Ql7 a f=some r->FnOk Tryz.prog 160 [str a,str f] [] (.tup [str r.1,str r.2.1,bl r.2.2]) []:=by
 intro r hr
 match f,hr with
 | [c],hr=>
   simp only[Ql7] at hr;split at hr
   case isFalse=>cases hr
   rename_i l;cases hr;refine Q5x ⟨_,Tryz.func160,ox,rfl⟩ λw S γ vs s n q=>?_;obtain⟨v,t,i,⟨rfl,g⟩,x,u,rfl,⟨rfl,_⟩,rfl⟩:=q;have d:vs=#[.string ⟨a.toArray⟩,.string ⟨#[c]⟩]:=by apply gu;simpa using i
   subst d;obtain⟨m,p⟩:=n.1;refine(Tryz.strings_Cut ⟨a.toArray⟩ ⟨#[c]⟩ m w l p).mono ?_;rintro e w' ⟨rfl,k,rfl⟩;refine⟨_,rfl,Jiv w k,?_⟩;have j:Lib.cut (ByteArray.mk a.toArray).data.toList (ByteArray.mk #[c]).data.toList=cutC c.toNat a:=Jj8 c a;rw[j];have k1:(cutC c.toNat a).1.length<=maxLen:=xe (List.takeWhile_sublist _).length_le g;have k2:(cutC c.toNat a).2.1.length<=maxLen:=by
    refine xe ?_ g;unfold cutC;simp only[uy];exact xe (Nat.sub_le _ _) (List.dropWhile_suffix _).length_le
   exact⟨_,rfl,_,_,rfl,⟨rfl,k1⟩,_,_,rfl,⟨rfl,k2⟩,_,_,rfl,rfl,rfl⟩
theorem Jfj(c:UInt8):∀(k:Nat) (s:List UInt8),Lib.count s [c]=k->Lib.splitK [c] 0 k s=splitC c.toNat s:=by
 have e:∀(s:List UInt8),splitC c.toNat s=if (s.any λb=>!ntc c.toNat b)=true then s.takeWhile (ntc c.toNat)::splitC c.toNat (s.drop ((s.takeWhile (ntc c.toNat)).length+1)) else [s]:=by
  intro s
  induction s with
  | nil=>rfl
  | cons b s d=>
    rw[splitC,List.any_cons,vz];cases h:ntc c.toNat b;simp;simp only[ot,Bool.false_or,yn,xm,List.drop_succ_cons];rw[d];by_cases g:(s.any λb=>!ntc c.toNat b)=true;rw[oo g,oo g];rw[ol g,ol g]
 intro k
 induction k with
 | zero=>
   intro s hk;rw[e,ol];rfl;intro g;have:=Lib.count_hit (s:=s) (sub:=[c]) (i:=(s.takeWhile (ntc c.toNat)).length) oc (by rw[Q1f,oo g]);omega
 | succ k d=>
   intro s hk;rw[e];unfold Lib.splitK;rw[Q1f];by_cases g:(s.any λb=>!ntc c.toNat b)=true;have:=Lib.count_hit (s:=s) (sub:=[c]) (i:=(s.takeWhile (ntc c.toNat)).length) oc (by rw[Q1f,oo g]);rw[oo g,oo g,ol (by simp<;>omega),yo,xq];rw[show([c]:List UInt8).length=1 from rfl] at this |-;rw[d _ om];congr 1;have tw:∀(l:List UInt8),l.takeWhile (ntc c.toNat)=l.take (l.takeWhile (ntc c.toNat)).length:=by
    intro l
    induction l with
    | nil=>rfl
    | cons a l d=>
      rw[vz];cases ntc c.toNat a;rfl;simp only[yn,xm,ge];rw[<-d]
   exact(tw s).symm;rw[ol g,ol g,oo oa]
theorem Qv8(c:Nat):∀(s w:List UInt8),w∈splitC c s->w.length<=s.length
 | [],w,h=>by simp[splitC] at h;subst h;simp
 | y::s,w,h=>by
   unfold splitC at h;split at h;cases a:splitC c s with
   | nil=>
     rw[a] at h;rcases xg.1 h with rfl | h;simp;cases h
   | cons v r=>
     rw[a] at h;rcases xg.1 h with rfl | h;have:=Qv8 c s v (a ▸ List.Mem.head _);simp;omega;have:=Qv8 c s w (a ▸ List.Mem.tail _ h);simp;omega
   rcases xg.1 h with rfl | h;simp;have:=Qv8 c s w h;simp;omega
theorem Q5z{a f:List UInt8}:∀ r,Qqn a f=some r->FnOk Tryz.prog 338 [str a,str f] [] (sli 1 (List.map str r)) []:=by
 intro r hr
 match f,hr with
 | [c],hr=>
   simp only[Qqn] at hr;split at hr
   case isFalse=>cases hr
   rename_i j;cases hr;refine Q5x ⟨_,Tryz.func338,ox,rfl⟩ λw S γ vs p s v=>?_;obtain⟨E,B,k,⟨rfl,t⟩,F,C,rfl,⟨rfl,_⟩,rfl⟩:=v;have d:vs=#[.string ⟨a.toArray⟩,.string ⟨#[c]⟩]:=by apply gu;simpa using k
   subst d;obtain⟨m,u⟩:=s.1;refine(Tryz.strings_Split ⟨a.toArray⟩ ⟨#[c]⟩ m w j u (xn 1)).mono ?_;rintro e w' ⟨rfl,rfl⟩;refine⟨_,rfl,Below.alloc (Below.refl _ w) (xn _) _,?_⟩;have g:(Lib.splitB ⟨#[c]⟩ 0 (Lib.countB ⟨a.toArray⟩ ⟨#[c]⟩) ⟨a.toArray⟩).map (·.data.toList)=splitC c.toNat a:=by rw[Lib.splitB_data];exact Jfj c _ a rfl
   have n:(Lib.splitB ⟨#[c]⟩ 0 (Lib.countB ⟨a.toArray⟩ ⟨#[c]⟩) ⟨a.toArray⟩).map Value.string=(splitC c.toNat a).map λl=>Value.string ⟨l.toArray⟩:=by rw[<-g,vo];rfl
   have i:Lib.countB ⟨a.toArray⟩ ⟨#[c]⟩+1=(splitC c.toNat a).length:=by rw[<-g,ou,Lib.splitB_all ⟨#[c]⟩ (xn 1) 0 _ _ rfl]
   rw[n,i]
   exact Jj7 p (λy x=>xe (Qv8 _ _ _ x) t) (by
    rw[<-i];have A:Lib.countB ⟨a.toArray⟩ ⟨#[c]⟩<=a.length:=Lib.countB_le ⟨#[c]⟩ (xn 1) _ ⟨a.toArray⟩ (xn _);have q:a.length<4294967281:=j
    unfold maxLen;omega)
theorem Jbo(c:List UInt8):∀ s:List UInt8,Lib.indexAny s c<=s.length
 | []=>by simp[Lib.indexAny]
 | b::s=>by have:=Jbo c s;unfold Lib.indexAny;rw[xm];split;omega;split<;>omega
theorem Q1h{d f:List UInt8}:∀ r,Qm7 d f=some r->FnOk Tryz.prog 363 [str d,str f] [] (i64 r) []:=by
 intro r hr;simp only[Qm7] at hr;split at hr
 case isFalse=>cases hr
 rename_i g;cases hr;refine Q5x ⟨_,Tryz.func363,ox,rfl⟩ λw S γ vs p q n=>?_;obtain⟨x,u,m,⟨rfl,s⟩,y,v,rfl,⟨rfl,_⟩,rfl⟩:=n;have k:vs=#[.string ⟨d.toArray⟩,.string ⟨f.toArray⟩]:=by apply gu;simpa using m
 subst k
 have a:∀ l:List UInt8,asc l=true->∀(j:Nat) b,l[j]?=some b->b.toNat<128:=λl h j b i=>by
  have:=List.all_eq_true.1 h b (gm i)
  simpa using this
 refine(Tryz.strings_IndexAny_laid ⟨d.toArray⟩ ⟨f.toArray⟩ w g.1 g.2.1 (a _ g.2.2.1) (a _ g.2.2.2)).mono ?_;rintro e w' ⟨rfl,i⟩;have k1:=Lib.indexAny_ge f d;have k2:=Jbo f d;have t:=g.1;exact⟨_,rfl,i,rfl,by show(-9223372036854775808:Int)<=_;omega,by show _<=(9223372036854775807:Int);omega⟩
theorem Q1i{a f:List UInt8}:∀ r,Qm8 a f=some r->FnOk Tryz.prog 285 [str a,str f] [] (bl r) []:=by
 intro r hr
 match f,hr with
 | [c],hr=>
   simp only[Qm8] at hr;cases hr;refine Jem ⟨_,Tryz.func285,ox,rfl⟩ λw S γ vs i=>?_;obtain⟨m,k,g,⟨rfl,j⟩,n,l,rfl,⟨rfl,_⟩,rfl⟩:=i;have d:vs=#[.string ⟨a.toArray⟩,.string ⟨#[c]⟩]:=by apply gu;simpa using g
   subst d;refine(Tryz.strings_Contains_one ⟨a.toArray⟩ c w).mono ?_;rintro e w' ⟨rfl,rfl⟩;exact⟨_,rfl,rfl,rfl⟩
theorem Q50{w:World}{S:Nat->Prop}{γ:Nm}:∀(l:List (List UInt8)) (cs:List Value),Ly.holds w S γ (l.map str) cs->cs=l.map λx=>Value.string ⟨x.toArray⟩
 | [],cs,h=>h
 | x::l,cs,h=>by obtain⟨c1,a,rfl,⟨v,rfl,rfl,_⟩,d⟩:=h;rw[Q50 l a d];rfl
theorem Q7r{d:List (List UInt8)}{f:List UInt8}:∀ r,Qr4 d f=some r->FnOk Tryz.prog 108 [sli 1 (List.map str d),str f] [] (str r) []:=by
 intro r hr;simp only[Qr4] at hr;split at hr
 case isFalse=>cases hr
 rename_i l;cases hr;refine Q5x ⟨_,Tryz.func108,ox,rfl⟩ λw S γ vs J n F=>?_;obtain⟨M,K,k,E,N,L,rfl,⟨rfl,_⟩,rfl⟩:=F;have C:(Lib.join d f).length<=maxLen:=xe l.2 oz;have none':∀(a:Option Addr) (c:Nat),d=[]->vs=#[.slice a 0 c,.string ⟨f.toArray⟩]->Calls Tryz.prog 108 vs w λe w'=>∃ v,e=.returned v/\Below w.heap.size w w'/\(str (Lib.join d f)).val w' S γ v:=by
  intro a c h0 g;subst g h0;refine(Tryz.strings_Join_none a c ⟨f.toArray⟩ w).mono ?_;rintro e w' ⟨rfl,rfl⟩;exact⟨_,rfl,Below.refl _ _,rfl,by simp[Lib.join_nil]⟩
 rcases E with ⟨rfl,h0⟩ | ⟨b,o,cap,cs,rfl,t,G,u,H,y,A,I⟩ | ⟨h0,q,rfl⟩
 . exact none' none 0 (by simpa using h0) (by apply gu;simpa using k)
 . have s:=Q50 d cs A
   subst s;have g:vs=#[.slice (some ⟨b,o,none⟩) d.length cap,.string ⟨f.toArray⟩]:=by apply gu;simpa using k
   subst g;have m:(d.map λx=>ByteArray.mk x.toArray).map (·.data.toList)=d:=by simp[vo,Function.comp_def]
   have p:=Tryz.strings_Join b o cap (d.map λx=>⟨x.toArray⟩) ⟨f.toArray⟩ w (λj x i=>y j _ (by
    rw[yr] at i |-;cases n:d[j]?<;>rw[n] at i<;>simp at i
    subst i;rfl)) u (by simpa using l.1) (by simpa using t) (by rw[m];exact l.2)
   rw[m,ou] at p;refine p.mono ?_;rintro e w' ⟨rfl,B⟩;exact⟨_,rfl,B,rfl,C⟩
 . exact none' (some q) 0 (by simpa using h0) (by apply gu;simpa using k)
end Go.Proofs.YtbdgngdpkdagoabGreatDoor
