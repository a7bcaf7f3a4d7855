import Derived.Test.YthdbapalogijdaaGreatDoorChecked
import Derived.Lib.IndexMore
import Derived.Lib.AtoiAllCases
import Derived.Lib.AtoiErrMem
import Derived.Test.YthdbapalogijdaaGreatDoorLibM
import Derived.Test.YthdbapalogijdaaGreatDoorShelf
import Derived.Test.YthdbapalogijdaaGreatDoorIxA
namespace Go.Proofs.YthdbapalogijdaaGreatDoor
open Go Go.RowKit
theorem yW(c:UInt8):∀ s:Be,Lib.index s [c]=if (s.any λb=>!bw c.toNat b)=true then ((s.takeWhile (bw c.toNat)).length:Int) else -1
 | []=>rfl
 | b::s=>by
   unfold Lib.index;have e:[c].isPrefixOf (b::s)=!bw c.toNat b:=by simp only[List.isPrefixOf,Bool.and_true,bw];by_cases h:c=b;subst h;simp;have:b.toNat≠c.toNat:=λg=>h (ya.1 g).symm;simp[h,this]
   rw[e,yW c s,wq,xj];cases h:bw c.toNat b;simp;simp only[yt,xd];generalize (s.takeWhile (bw c.toNat)).length=L;cases (s.any λb=>!bw c.toNat b);rfl;simp only[ow,Bool.false_or,yt,Bool.false_eq_true,if_false];rw[oq (by simp<;>omega)];omega
theorem Jk7(c:UInt8)(s:Be):Lib.cut s [c]=cJ c.toNat s:=by
 have e:∀(l:Be),l.dropWhile (bw c.toNat)=l.drop (l.takeWhile (bw c.toNat)).length:=by
  intro l
  induction l with
  | nil=>rfl
  | cons a l d=>
    rw[vp,xj];cases bw c.toNat a;rfl;simp[d]
 have tw:∀(l:Be),l.takeWhile (bw c.toNat)=l.take (l.takeWhile (bw c.toNat)).length:=by
  intro l
  induction l with
  | nil=>rfl
  | cons a l d=>
    rw[xj];cases bw c.toNat a;rfl;simp only[yt,xd,yv];rw[<-d]
 have al:∀(l:Be),(l.any λb=>!bw c.toNat b)=false->l.takeWhile (bw c.toNat)=l:=by
  intro l
  induction l with
  | nil=>intro _;rfl
  | cons a l d=>
    intro h;rw[wq,vz] at h;have:bw c.toNat a=true:=by simpa using h.1
    rw[xj,this,ot rfl,d h.2]
 unfold Lib.cut;rw[yW];have f:=al s;cases h:(s.any λb=>!bw c.toNat b);unfold cJ;rw[h,oq (show ¬ false=true by decide),oq (show ¬(0:Int)<=-1 by decide),e,f h];simp;rw[ot rfl,ot om,ur];unfold cJ;rw[h,e,ue];rw[<-tw s];rfl
theorem Jji(w:World)(n:Nat):Below w.heap.size w (w.drewN n):=⟨rfl,rfl,rfl,xe _,λ_ _=>rfl⟩
theorem Qzm{d g:Be}:∀ r,ES d g=some r->bo Tryz.prog 298 [am d,am g] [] (am r) []:=by
 intro r a
 match g,a with
 | [c],a=>
   simp only[ES] at a;split at a
   case isFalse=>cases a
   rename_i j;cases a;refine WD ⟨_,Tryz.func298,ox,rfl⟩ λw S γ vs l=>?_;obtain⟨p,m,i,⟨rfl,k⟩,v2,n,rfl,⟨rfl,_⟩,rfl⟩:=l;have f:vs=#[.string ⟨d.toArray⟩,.string ⟨#[c]⟩]:=by apply vr;simpa using i
   subst f;refine(Tryz.strings_TrimLeft_one ⟨d.toArray⟩ c j w).mono ?_;rintro e w' ⟨rfl,rfl⟩;refine⟨_,rfl,rfl,?_⟩;simp only[Lib.trimLeftB];exact⟨oh,xz (List.dropWhile_suffix _).length_le k⟩
theorem PV(u:Nat):Lib.nDigits u<=u / 10+1:=by
 induction u using Nat.strongRecOn with
 | _ u a=>
   rw[Lib.nDigits];split;omega;have:=a (u / 10) om;omega
theorem Jjj{x:Int}(a:-9223372036854775808<=x)(d:x<=9223372036854775807):(Lib.itoa x).length<=maxLen:=by unfold Lib.itoa maxLen;split;have:=PV x.natAbs;rw[xd,Lib.decDigits_length];omega;have:=PV x.toNat;rw[Lib.decDigits_length];omega
theorem Jjk(w:World)(k:Nat)(os:Array Obj):Below w.heap.size w (Go.Sort.grow (w.drewN k) os):=
 ⟨rfl,rfl,rfl,by simp[Go.Sort.grow,World.drewN],λj a=>by
  show(w.heap++os)[j]?=_
  rw[Array.getElem?_append,ot a]⟩
theorem yX{f:Int}:∀ r,uJ f=some r->bo Tryz.prog 192 [ab f] [] (am r) []:=by
 intro r l;cases l;refine xY ⟨_,Tryz.func192,ox,rfl⟩ λw S γ vs n j m=>?_;obtain⟨q,p,i,⟨rfl,a,d⟩,rfl⟩:=m;have g:vs=#[.int .i64 f]:=by apply vr;simpa using i
 subst g;refine(Tryz.strconv_Itoa f a d w (Jm3 j)).mono ?_;rintro e w' ⟨rfl,k,os,rfl⟩;exact⟨_,rfl,Jjk w k os,rfl,Jjj a d⟩
theorem uI{a g:Be}:∀ r,Yv a g=some r->bo Tryz.prog 108 [am a,am g] [] (.tup [am r.1,am r.2.1,bl r.2.2]) []:=by
 intro r d
 match g,d with
 | [c],d=>
   simp only[Yv] at d;split at d
   case isFalse=>cases d
   rename_i n;cases d;refine xY ⟨_,Tryz.func108,ox,rfl⟩ λw S γ vs v p s=>?_;obtain⟨A,x,j,⟨rfl,i⟩,v2,y,rfl,⟨rfl,_⟩,rfl⟩:=s;have f:vs=#[.string ⟨a.toArray⟩,.string ⟨#[c]⟩]:=by apply vr;simpa using j
   subst f;obtain⟨m,q⟩:=p.1;refine(Tryz.strings_Cut ⟨a.toArray⟩ ⟨#[c]⟩ m w n q).mono ?_;rintro e w' ⟨rfl,k,rfl⟩;refine⟨_,rfl,Jji w k,?_⟩;have l:Lib.cut (ByteArray.mk a.toArray).data.toList (ByteArray.mk #[c]).data.toList=cJ c.toNat a:=Jk7 c a;rw[l];have t:(cJ c.toNat a).1.length<=maxLen:=xz (List.takeWhile_sublist _).length_le i;have u:(cJ c.toNat a).2.1.length<=maxLen:=by
    refine xz ?_ i;unfold cJ;simp only[yh];exact xz (Nat.sub_le _ _) (List.dropWhile_suffix _).length_le
   exact⟨_,rfl,_,_,rfl,⟨rfl,t⟩,_,_,rfl,⟨rfl,u⟩,_,_,rfl,rfl,rfl⟩
theorem Jfw(c:UInt8):∀(k:Nat) (s:Be),Lib.count s [c]=k->Lib.splitK [c] 0 k s=aF c.toNat s:=by
 have e:∀(s:Be),aF c.toNat s=if (s.any λb=>!bw c.toNat b)=true then s.takeWhile (bw c.toNat)::aF c.toNat (s.drop ((s.takeWhile (bw c.toNat)).length+1)) else [s]:=by
  intro s
  induction s with
  | nil=>rfl
  | cons b s d=>
    rw[aF,wq,xj];cases h:bw c.toNat b;simp;simp only[ow,Bool.false_or,yt,xd,vo];rw[d];by_cases g:(s.any λb=>!bw c.toNat b)=true;rw[ot g,ot g];rw[oq g,oq g]
 intro k
 induction k with
 | zero=>
   intro s hk;rw[e,oq];rfl;intro g;have:=Lib.count_hit (s:=s) (sub:=[c]) (i:=(s.takeWhile (bw c.toNat)).length) oh (by rw[yW,ot g]);omega
 | succ k d=>
   intro s hk;rw[e];unfold Lib.splitK;rw[yW];by_cases g:(s.any λb=>!bw c.toNat b)=true;have:=Lib.count_hit (s:=s) (sub:=[c]) (i:=(s.takeWhile (bw c.toNat)).length) oh (by rw[yW,ot g]);rw[ot g,ot g,oq (by simp<;>omega),ur,xg];rw[show([c]:Be).length=1 from rfl] at this |-;rw[d _ om];congr 1;have tw:∀(l:Be),l.takeWhile (bw c.toNat)=l.take (l.takeWhile (bw c.toNat)).length:=by
    intro l
    induction l with
    | nil=>rfl
    | cons a l d=>
      rw[xj];cases bw c.toNat a;rfl;simp only[yt,xd,yv];rw[<-d]
   exact(tw s).symm;rw[oq g,oq g,ot oe]
theorem ER(c:Nat):∀(s w:Be),w∈aF c s->w.length<=s.length
 | [],w,h=>by simp[aF] at h;subst h;simp
 | y::s,w,h=>by
   unfold aF at h;split at h;cases a:aF c s with
   | nil=>
     rw[a] at h;rcases xk.1 h with rfl | h;simp;cases h
   | cons v r=>
     rw[a] at h;rcases xk.1 h with rfl | h;have:=ER c s v (a ▸ List.Mem.head _);simp;omega;have:=ER c s w (a ▸ List.Mem.tail _ h);simp;omega
   rcases xk.1 h with rfl | h;simp;have:=ER c s w h;simp;omega
theorem Q32{a g:Be}:∀ r,uK a g=some r->bo Tryz.prog 211 [am a,am g] [] (bA 1 (List.map am r)) []:=by
 intro r d
 match g,d with
 | [c],d=>
   simp only[uK] at d;split at d
   case isFalse=>cases d
   rename_i k;cases d;refine xY ⟨_,Tryz.func211,ox,rfl⟩ λw S γ vs q t x=>?_;obtain⟨F,C,n,⟨rfl,u⟩,v2,E,rfl,⟨rfl,_⟩,rfl⟩:=x;have f:vs=#[.string ⟨a.toArray⟩,.string ⟨#[c]⟩]:=by apply vr;simpa using n
   subst f;obtain⟨m,v⟩:=t.1;refine(Tryz.strings_Split ⟨a.toArray⟩ ⟨#[c]⟩ m w k v (xe 1)).mono ?_;rintro e w' ⟨rfl,rfl⟩;refine⟨_,rfl,Below.alloc (Below.refl _ w) (xe _) _,?_⟩;have i:(Lib.splitB ⟨#[c]⟩ 0 (Lib.countB ⟨a.toArray⟩ ⟨#[c]⟩) ⟨a.toArray⟩).map (·.data.toList)=aF c.toNat a:=by rw[Lib.splitB_data];exact Jfw c _ a rfl
   have p:(Lib.splitB ⟨#[c]⟩ 0 (Lib.countB ⟨a.toArray⟩ ⟨#[c]⟩) ⟨a.toArray⟩).map Value.string=(aF c.toNat a).map λl=>Value.string ⟨l.toArray⟩:=by rw[<-i,va];rfl
   have j:Lib.countB ⟨a.toArray⟩ ⟨#[c]⟩+1=(aF c.toNat a).length:=by rw[<-i,xf,Lib.splitB_all ⟨#[c]⟩ (xe 1) 0 _ _ rfl]
   rw[p,j]
   exact Jk5 q (λy A=>xz (ER _ _ _ A) u) (by
    rw[<-j];have B:Lib.countB ⟨a.toArray⟩ ⟨#[c]⟩<=a.length:=Lib.countB_le ⟨#[c]⟩ (xe 1) _ ⟨a.toArray⟩ (xe _);have s:a.length<4294967281:=k
    unfold maxLen;omega)
theorem PW(c:Be):∀ s:Be,Lib.indexAny s c<=s.length
 | []=>by simp[Lib.indexAny]
 | b::s=>by have:=PW c s;unfold Lib.indexAny;rw[xd];split;omega;split<;>omega
theorem Qzn{a d:Be}:∀ r,uL a d=some r->bo Tryz.prog 212 [am a,am d] [] (ab r) []:=by
 intro r i;simp only[uL] at i;split at i
 case isFalse=>cases i
 rename_i g;cases i;refine xY ⟨_,Tryz.func212,ox,rfl⟩ λw S γ vs q s p=>?_;obtain⟨B,y,n,⟨rfl,t⟩,v2,A,rfl,⟨rfl,_⟩,rfl⟩:=p;have m:vs=#[.string ⟨a.toArray⟩,.string ⟨d.toArray⟩]:=by apply vr;simpa using n
 subst m
 have f:∀ l:Be,PY l=true->∀(j:Nat) b,l[j]?=some b->b.toNat<128:=λl h j b k=>by
  have:=uv.1 h b (List.mem_of_getElem? k)
  simpa using this
 refine(Any.strings_IndexAny_two Tryz.lays153 ox ⟨a.toArray⟩ ⟨d.toArray⟩ w g.2.1 g.1 (f _ g.2.2)).mono ?_;rintro e w' ⟨rfl,k⟩;have u:=Lib.indexAny_ge d a;have v:=PW d a;have x:=g.1;exact⟨_,rfl,k,rfl,by show(-9223372036854775808:Int)<=_;omega,by show _<=(9223372036854775807:Int);omega⟩
theorem Qzo{d g:Be}:∀ r,uM d g=some r->bo Tryz.prog 483 [am d,am g] [] (bl r) []:=by
 intro r a
 match g,a with
 | [c],a=>
   simp only[uM] at a;cases a;refine WD ⟨_,Tryz.func483,ox,rfl⟩ λw S γ vs j=>?_;obtain⟨n,l,i,⟨rfl,k⟩,v2,m,rfl,⟨rfl,_⟩,rfl⟩:=j;have f:vs=#[.string ⟨d.toArray⟩,.string ⟨#[c]⟩]:=by apply vr;simpa using i
   subst f;refine(Tryz.strings_Contains_one ⟨d.toArray⟩ c w).mono ?_;rintro e w' ⟨rfl,rfl⟩;exact⟨_,rfl,rfl,rfl⟩
theorem PX{w:World}{S:Nat->Prop}{γ:Nm}:∀(l:List Be) (cs:List Value),Ly.holds w S γ (l.map am) cs->cs=l.map λx=>Value.string ⟨x.toArray⟩
 | [],cs,h=>h
 | x::l,cs,h=>by obtain⟨c1,c2,rfl,⟨v,rfl,rfl,_⟩,a⟩:=h;rw[PX l c2 a];rfl
theorem Q6f{d:List Be}{f:Be}:∀ r,Iz9 d f=some r->bo Tryz.prog 170 [bA 1 (List.map am d),am f] [] (am r) []:=by
 intro r i;simp only[Iz9] at i;split at i
 case isFalse=>cases i
 rename_i m;cases i;refine xY ⟨_,Tryz.func170,ox,rfl⟩ λw S γ vs K p G=>?_;obtain⟨N,L,l,F,v2,M,rfl,⟨rfl,_⟩,rfl⟩:=G;have E:(Lib.join d f).length<=maxLen:=xz m.2 oc;have none':∀(a:Option Addr) (c:Nat),d=[]->vs=#[.slice a 0 c,.string ⟨f.toArray⟩]->Calls Tryz.prog 170 vs w λe w'=>∃ v,e=.returned v/\Below w.heap.size w w'/\(am (Lib.join d f)).val w' S γ v:=by
  intro a c h0 g;subst g h0;refine(Tryz.strings_Join_none a c ⟨f.toArray⟩ w).mono ?_;rintro e w' ⟨rfl,rfl⟩;exact⟨_,rfl,Below.refl _ _,rfl,by simp[Lib.join_nil]⟩
 rcases F with ⟨rfl,h0⟩ | ⟨b,o,cap,cs,rfl,u,H,y,I,A,B,J⟩ | ⟨h0,s,rfl⟩
 . exact none' none 0 (by simpa using h0) (by apply vr;simpa using l)
 . have t:=PX d cs B
   subst t;have g:vs=#[.slice (some ⟨b,o,none⟩) d.length cap,.string ⟨f.toArray⟩]:=by apply vr;simpa using l
   subst g;have n:(d.map λx=>ByteArray.mk x.toArray).map (·.data.toList)=d:=by simp[va,Function.comp_def]
   have q:=Tryz.strings_Join b o cap (d.map λx=>⟨x.toArray⟩) ⟨f.toArray⟩ w (λj x k=>A j _ (by
    rw[uq] at k |-;cases p:d[j]?<;>rw[p] at k<;>simp at k
    subst k;rfl)) y (by simpa using m.1) (by simpa using u) (by rw[n];exact m.2)
   rw[n,xf] at q;refine q.mono ?_;rintro e w' ⟨rfl,C⟩;exact⟨_,rfl,C,rfl,E⟩
 . exact none' (some s) 0 (by simpa using h0) (by apply vr;simpa using l)
theorem Q6g{d:Be}:∀ r,yY d=some r->bo Tryz.prog 502 [am d] [] (.tup [ab r.1,NK r.2]) []:=by
 intro r a;unfold yY at a;split at a
 case isFalse=>cases a
 rename_i k;refine xY ⟨_,Tryz.func502,ox,rfl⟩ λw S γ vs s m q=>?_;obtain⟨B,A,n,⟨rfl,y⟩,rfl⟩:=q;have l:vs=#[.string ⟨d.toArray⟩]:=by apply vr;simpa using n
 subst l;have i64v:∀(w:World) (S:Nat->Prop) (γ:Nm) (x:Int),-9223372036854775808<=x->x<=9223372036854775807->(ab x).val w S γ (.int .i64 x):=λw S γ x i p=>⟨rfl,i,p⟩
 cases f:Lib.atoiAll d
 . rename_i v
   rw[f] at a;cases a;have g:=Lib.atoiAll_bounds f;refine(Tryz.strconv_Atoi_ok ⟨d.toArray⟩ (xz k oc) v f w).mono ?_;rintro e w' ⟨rfl,h⟩;refine⟨_,rfl,?_,_,rfl,_,_,rfl,i64v _ _ _ _ g.1 g.2,_,_,rfl,.inl ⟨rfl,rfl⟩,rfl⟩;rcases h with rfl | ⟨t,rfl⟩
   . exact Below.refl _ _
   . exact Lib.bytesWorld_below _ _ _
 . rw[f] at a
   cases a;obtain⟨t,u,i⟩:=m.2.2.1;refine(Any.strconv_Atoi_syntax Tryz.laysC172 ⟨d.toArray⟩ k f _ w i (.inr ⟨t,u,rfl⟩)).mono ?_;rintro e w' ⟨N,rfl,_,_,g⟩;exact⟨_,rfl,g,_,rfl,_,_,rfl,i64v _ _ _ _ oc oc,_,_,rfl,.inr ⟨rfl,_,_,rfl⟩,rfl⟩
 . rw[f] at a
   cases a;obtain⟨t,u,i⟩:=m.2.2.2;have j:=Lib.atoiSat_bounds d;refine(Tryz.strconv_Atoi_range ⟨d.toArray⟩ k f _ w i (.inr ⟨t,u,rfl⟩)).mono ?_;rintro e w' ⟨N,rfl,_,_,g⟩;exact⟨_,rfl,g,_,rfl,_,_,rfl,i64v _ _ _ _ j.1 j.2,_,_,rfl,.inr ⟨rfl,_,_,rfl⟩,rfl⟩
end Go.Proofs.YthdbapalogijdaaGreatDoor
