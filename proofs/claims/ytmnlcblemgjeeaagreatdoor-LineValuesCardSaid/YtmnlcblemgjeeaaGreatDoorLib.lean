import Derived.Test.YtmnlcblemgjeeaaGreatDoorChecked
import Derived.Lib.IndexMore
import Derived.Test.YtmnlcblemgjeeaaGreatDoorLibM
import Derived.Test.YtmnlcblemgjeeaaGreatDoorShelf
namespace Go.Proofs.YtmnlcblemgjeeaaGreatDoor
open Go Go.RowKit
theorem Qod(c:UInt8):∀ s:List UInt8,Lib.index s [c]=if (s.any λb=>!ntc c.toNat b)=true then ((s.takeWhile (ntc c.toNat)).length:Int) else -1
 | []=>rfl
 | b::s=>by
   unfold Lib.index;have e:[c].isPrefixOf (b::s)=!ntc c.toNat b:=by simp only[List.isPrefixOf,Bool.and_true,ntc];by_cases h:c=b;subst h;simp;have:b.toNat≠c.toNat:=λg=>h (UInt8.toNat_inj.1 g).symm;simp[h,this]
   rw[e,Qod c s,List.any_cons,wg];cases h:ntc c.toNat b;simp;simp only[uv,xl];generalize (s.takeWhile (ntc c.toNat)).length=L;cases (s.any λb=>!ntc c.toNat b);rfl;simp only[yj,Bool.false_or,uv,vw,if_false];rw[oi (by simp<;>omega)];omega
theorem Q2h(c:UInt8)(s:List UInt8):Lib.cut s [c]=cutC c.toNat s:=by
 have e:∀(l:List UInt8),l.dropWhile (ntc c.toNat)=l.drop (l.takeWhile (ntc c.toNat)).length:=by
  intro l
  induction l with
  | nil=>rfl
  | cons a l d=>
    rw[List.dropWhile_cons,wg];cases ntc c.toNat a;rfl;simp[d]
 have tw:∀(l:List UInt8),l.takeWhile (ntc c.toNat)=l.take (l.takeWhile (ntc c.toNat)).length:=by
  intro l
  induction l with
  | nil=>rfl
  | cons a l d=>
    rw[wg];cases ntc c.toNat a;rfl;simp only[uv,xl,vf];rw[<-d]
 have al:∀(l:List UInt8),(l.any λb=>!ntc c.toNat b)=false->l.takeWhile (ntc c.toNat)=l:=by
  intro l
  induction l with
  | nil=>intro _;rfl
  | cons a l d=>
    intro h;rw[List.any_cons,vb] at h;have:ntc c.toNat a=true:=by simpa using h.1
    rw[wg,this,oj rfl,d h.2]
 unfold Lib.cut;rw[Qod];have f:=al s;cases h:(s.any λb=>!ntc c.toNat b);unfold cutC;rw[h,oi (show ¬ false=true by decide),oi (show ¬(0:Int)<=-1 by decide),e,f h];simp;rw[oj rfl,oj om,yp];unfold cutC;rw[h,e,List.drop_drop];rw[<-tw s];rfl
theorem Q1c(w:World)(n:Nat):Below w.heap.size w (w.drewN n):=⟨rfl,rfl,rfl,ol _,λ_ _=>rfl⟩
theorem Qoe{x0 x1:List UInt8}:∀ r,Qdh x0 x1=some r->FnOk Tryz.prog 182 [str x0,str x1] [] (str r) []:=by
 intro r a
 match x1,a with
 | [c],a=>
   simp only[Qdh] at a;split at a
   case isFalse=>cases a
   rename_i g;cases a;refine Qxj ⟨_,Tryz.func182,ox,rfl⟩ λw S γ vs j=>?_;obtain⟨m,k,f,⟨rfl,i⟩,n,l,rfl,⟨rfl,_⟩,rfl⟩:=j;have d:vs=#[.string ⟨x0.toArray⟩,.string ⟨#[c]⟩]:=by apply wd;simpa using f
   subst d;refine(Tryz.strings_TrimLeft_one ⟨x0.toArray⟩ c g w).mono ?_;rintro e w' ⟨rfl,rfl⟩;refine⟨_,rfl,rfl,?_⟩;simp only[Lib.trimLeftB];exact⟨oc,xn (List.dropWhile_suffix _).length_le i⟩
theorem Qin{x0 x1:List UInt8}:∀ r,Qci x0 x1=some r->FnOk Tryz.prog 127 [str x0,str x1] [] (.tup [str r.1,str r.2.1,bl r.2.2]) []:=by
 intro r a
 match x1,a with
 | [c],a=>
   simp only[Qci] at a;split at a
   case isFalse=>cases a
   rename_i j;cases a;refine Qqv ⟨_,Tryz.func127,ox,rfl⟩ λw S γ vs t l p=>?_;obtain⟨x,u,g,⟨rfl,f⟩,y,v,rfl,⟨rfl,_⟩,rfl⟩:=p;have d:vs=#[.string ⟨x0.toArray⟩,.string ⟨#[c]⟩]:=by apply wd;simpa using g
   subst d;obtain⟨m,n⟩:=l.1;refine(Tryz.strings_Cut ⟨x0.toArray⟩ ⟨#[c]⟩ m w j n).mono ?_;rintro e w' ⟨rfl,k,rfl⟩;refine⟨_,rfl,Q1c w k,?_⟩;have i:Lib.cut (ByteArray.mk x0.toArray).data.toList (ByteArray.mk #[c]).data.toList=cutC c.toNat x0:=Q2h c x0;rw[i];have q:(cutC c.toNat x0).1.length<=maxLen:=xn (List.takeWhile_sublist _).length_le f;have s:(cutC c.toNat x0).2.1.length<=maxLen:=by
    refine xn ?_ f;unfold cutC;simp only[va];exact xn (Nat.sub_le _ _) (List.dropWhile_suffix _).length_le
   exact⟨_,rfl,_,_,rfl,⟨rfl,q⟩,_,_,rfl,⟨rfl,s⟩,_,_,rfl,rfl,rfl⟩
theorem Qyh(c:UInt8):∀(k:Nat) (s:List UInt8),Lib.count s [c]=k->Lib.splitK [c] 0 k s=splitC c.toNat s:=by
 have e:∀(s:List UInt8),splitC c.toNat s=if (s.any λb=>!ntc c.toNat b)=true then s.takeWhile (ntc c.toNat)::splitC c.toNat (s.drop ((s.takeWhile (ntc c.toNat)).length+1)) else [s]:=by
  intro s
  induction s with
  | nil=>rfl
  | cons b s d=>
    rw[splitC,List.any_cons,wg];cases h:ntc c.toNat b;simp;simp only[yj,Bool.false_or,uv,xl,List.drop_succ_cons];rw[d];by_cases g:(s.any λb=>!ntc c.toNat b)=true;rw[oj g,oj g];rw[oi g,oi g]
 intro k
 induction k with
 | zero=>
   intro s hk;rw[e,oi];rfl;intro g;have:=Lib.count_hit (s:=s) (sub:=[c]) (i:=(s.takeWhile (ntc c.toNat)).length) oc (by rw[Qod,oj g]);omega
 | succ k d=>
   intro s hk;rw[e];unfold Lib.splitK;rw[Qod];by_cases g:(s.any λb=>!ntc c.toNat b)=true;have:=Lib.count_hit (s:=s) (sub:=[c]) (i:=(s.takeWhile (ntc c.toNat)).length) oc (by rw[Qod,oj g]);rw[oj g,oj g,oi (by simp<;>omega),yp,xk];rw[show([c]:List UInt8).length=1 from rfl] at this |-;rw[d _ om];congr 1;have tw:∀(l:List UInt8),l.takeWhile (ntc c.toNat)=l.take (l.takeWhile (ntc c.toNat)).length:=by
    intro l
    induction l with
    | nil=>rfl
    | cons a l d=>
      rw[wg];cases ntc c.toNat a;rfl;simp only[uv,xl,vf];rw[<-d]
   exact(tw s).symm;rw[oi g,oi g,oj oa]
theorem Qkg(c:Nat):∀(s w:List UInt8),w∈splitC c s->w.length<=s.length
 | [],w,h=>by simp[splitC] at h;subst h;simp
 | y::s,w,h=>by
   unfold splitC at h;split at h;cases a:splitC c s with
   | nil=>
     rw[a] at h;rcases ud.1 h with rfl | h;simp;cases h
   | cons v r=>
     rw[a] at h;rcases ud.1 h with rfl | h;have:=Qkg c s v (a ▸ List.Mem.head _);simp;omega;have:=Qkg c s w (a ▸ List.Mem.tail _ h);simp;omega
   rcases ud.1 h with rfl | h;simp;have:=Qkg c s w h;simp;omega
theorem Qqx{x0 x1:List UInt8}:∀ r,Qgp x0 x1=some r->FnOk Tryz.prog 256 [str x0,str x1] [] (sli 1 (List.map str r)) []:=by
 intro r a
 match x1,a with
 | [c],a=>
   simp only[Qgp] at a;split at a
   case isFalse=>cases a
   rename_i i;cases a;refine Qqv ⟨_,Tryz.func256,ox,rfl⟩ λw S γ vs n q u=>?_;obtain⟨C,A,j,⟨rfl,s⟩,E,B,rfl,⟨rfl,_⟩,rfl⟩:=u;have d:vs=#[.string ⟨x0.toArray⟩,.string ⟨#[c]⟩]:=by apply wd;simpa using j
   subst d;obtain⟨m,t⟩:=q.1;refine(Tryz.strings_Split ⟨x0.toArray⟩ ⟨#[c]⟩ m w i t (ol 1)).mono ?_;rintro e w' ⟨rfl,rfl⟩;refine⟨_,rfl,Below.alloc (Below.refl _ w) (ol _) _,?_⟩;have f:(Lib.splitB ⟨#[c]⟩ 0 (Lib.countB ⟨x0.toArray⟩ ⟨#[c]⟩) ⟨x0.toArray⟩).map (·.data.toList)=splitC c.toNat x0:=by rw[Lib.splitB_data];exact Qyh c _ x0 rfl
   have k:(Lib.splitB ⟨#[c]⟩ 0 (Lib.countB ⟨x0.toArray⟩ ⟨#[c]⟩) ⟨x0.toArray⟩).map Value.string=(splitC c.toNat x0).map λl=>Value.string ⟨l.toArray⟩:=by rw[<-f,uw];rfl
   have g:Lib.countB ⟨x0.toArray⟩ ⟨#[c]⟩+1=(splitC c.toNat x0).length:=by rw[<-f,xy,Lib.splitB_all ⟨#[c]⟩ (ol 1) 0 _ _ rfl]
   rw[k,g]
   exact Q2g n (λy v=>xn (Qkg _ _ _ v) s) (by
    rw[<-g];have x:Lib.countB ⟨x0.toArray⟩ ⟨#[c]⟩<=x0.length:=Lib.countB_le ⟨#[c]⟩ (ol 1) _ ⟨x0.toArray⟩ (ol _);have p:x0.length<4294967281:=i
    unfold maxLen;omega)
theorem Qvh(c:List UInt8):∀ s:List UInt8,Lib.indexAny s c<=s.length
 | []=>by simp[Lib.indexAny]
 | b::s=>by have:=Qvh c s;unfold Lib.indexAny;rw[xl];split;omega;split<;>omega
theorem Qof{x0 x1:List UInt8}:∀ r,Qdi x0 x1=some r->FnOk Tryz.prog 264 [str x0,str x1] [] (i64 r) []:=by
 intro r f;simp only[Qdi] at f;split at f
 case isFalse=>cases f
 rename_i d;cases f;refine Qqv ⟨_,Tryz.func264,ox,rfl⟩ λw S γ vs n p m=>?_;obtain⟨y,v,k,⟨rfl,q⟩,A,x,rfl,⟨rfl,_⟩,rfl⟩:=m;have i:vs=#[.string ⟨x0.toArray⟩,.string ⟨x1.toArray⟩]:=by apply wd;simpa using k
 subst i
 have a:∀ l:List UInt8,asc l=true->∀(j:Nat) b,l[j]?=some b->b.toNat<128:=λl h j b g=>by
  have:=List.all_eq_true.1 h b (List.mem_of_getElem? g)
  simpa using this
 refine(Tryz.strings_IndexAny_laid ⟨x0.toArray⟩ ⟨x1.toArray⟩ w d.1 d.2.1 (a _ d.2.2.1) (a _ d.2.2.2)).mono ?_;rintro e w' ⟨rfl,g⟩;have s:=Lib.indexAny_ge x1 x0;have t:=Qvh x1 x0;have u:=d.1;exact⟨_,rfl,g,rfl,by show(-9223372036854775808:Int)<=_;omega,by show _<=(9223372036854775807:Int);omega⟩
theorem Qog{x0 x1:List UInt8}:∀ r,Qdj x0 x1=some r->FnOk Tryz.prog 218 [str x0,str x1] [] (bl r) []:=by
 intro r a
 match x1,a with
 | [c],a=>
   simp only[Qdj] at a;cases a;refine Qxj ⟨_,Tryz.func218,ox,rfl⟩ λw S γ vs g=>?_;obtain⟨l,j,f,⟨rfl,i⟩,m,k,rfl,⟨rfl,_⟩,rfl⟩:=g;have d:vs=#[.string ⟨x0.toArray⟩,.string ⟨#[c]⟩]:=by apply wd;simpa using f
   subst d;refine(Tryz.strings_Contains_one ⟨x0.toArray⟩ c w).mono ?_;rintro e w' ⟨rfl,rfl⟩;exact⟨_,rfl,rfl,rfl⟩
theorem Qqy{w:World}{S:Nat->Prop}{γ:Nm}:∀(l:List (List UInt8)) (cs:List Value),Ly.holds w S γ (l.map str) cs->cs=l.map λx=>Value.string ⟨x.toArray⟩
 | [],cs,h=>h
 | x::l,cs,h=>by obtain⟨c1,a,rfl,⟨v,rfl,rfl,_⟩,d⟩:=h;rw[Qqy l a d];rfl
theorem Qr9{x0:List (List UInt8)}{x1:List UInt8}:∀ r,Qhl x0 x1=some r->FnOk Tryz.prog 89 [sli 1 (List.map str x0),str x1] [] (str r) []:=by
 intro r f;simp only[Qhl] at f;split at f
 case isFalse=>cases f
 rename_i k;cases f;refine Qqv ⟨_,Tryz.func89,ox,rfl⟩ λw S γ vs I m E=>?_;obtain⟨L,J,i,C,M,K,rfl,⟨rfl,_⟩,rfl⟩:=E;have B:(Lib.join x0 x1).length<=maxLen:=xn k.2 oz;have none':∀(a:Option Addr) (c:Nat),x0=[]->vs=#[.slice a 0 c,.string ⟨x1.toArray⟩]->Calls Tryz.prog 89 vs w λe w'=>∃ v,e=.returned v/\Below w.heap.size w w'/\(str (Lib.join x0 x1)).val w' S γ v:=by
  intro a c h0 d;subst d h0;refine(Tryz.strings_Join_none a c ⟨x1.toArray⟩ w).mono ?_;rintro e w' ⟨rfl,rfl⟩;exact⟨_,rfl,Below.refl _ _,rfl,by simp[Lib.join_nil]⟩
 rcases C with ⟨rfl,h0⟩ | ⟨b,o,cap,cs,rfl,s,F,t,G,u,y,H⟩ | ⟨h0,p,rfl⟩
 . exact none' none 0 (by simpa using h0) (by apply wd;simpa using i)
 . have q:=Qqy x0 cs y
   subst q;have d:vs=#[.slice (some ⟨b,o,none⟩) x0.length cap,.string ⟨x1.toArray⟩]:=by apply wd;simpa using i
   subst d;have l:(x0.map λx=>ByteArray.mk x.toArray).map (·.data.toList)=x0:=by simp[uw,Function.comp_def]
   have n:=Tryz.strings_Join b o cap (x0.map λx=>⟨x.toArray⟩) ⟨x1.toArray⟩ w (λj x g=>u j _ (by
    rw[xi] at g |-;cases m:x0[j]?<;>rw[m] at g<;>simp at g
    subst g;rfl)) t (by simpa using k.1) (by simpa using s) (by rw[l];exact k.2)
   rw[l,xy] at n;refine n.mono ?_;rintro e w' ⟨rfl,A⟩;exact⟨_,rfl,A,rfl,B⟩
 . exact none' (some p) 0 (by simpa using h0) (by apply wd;simpa using i)
end Go.Proofs.YtmnlcblemgjeeaaGreatDoor
