import Derived.Shelf.Strings.IndexAnyAll
import Derived.Laws.RangeAny
import Derived.Lib.OthersKept
import Derived.LoopTactic
import Derived.WalkMore
import Derived.Shelf.RegionOpenPlain
import Derived.Shelf.Small.Utf8
namespace Go.Proofs
open Go.Shelf Go.RowKit Go.Lib
variable {P:Program}{ρ:Ren}
theorem of_hi{n:Nat}(h:128≤n)(h2:n<256):128≤(UInt8.ofNat n).toNat:=by rw[UInt8.toNat_ofNat'];omega
theorem Jnb{r:Int}(h:128≤r):2≤(Utf8.encode r).size∧∀ i (hi:i<(Utf8.encode r).size),128≤((Utf8.encode r)[i]'hi).toNat:=by
 obtain⟨c,hc⟩:∃ c,(if Utf8.valid r then r.toNat else Utf8.runeError)=c:=⟨_,rfl⟩
 have h1:128≤c:=by rw[←hc];(split;omega;simp[Utf8.runeError])
 have h2:c≤1114111:=by rw[←hc];split;rename_i hv;unfold Utf8.valid at hv;simp only[Bool.or_eq_true,Bool.and_eq_true,decide_eq_true_eq] at hv;omega;simp[Utf8.runeError]
 have key:∀ l:List UInt8,Utf8.encode r=⟨l.toArray⟩->2≤l.length->(∀ x∈l,128≤x.toNat)->2≤(Utf8.encode r).size∧∀ i (hi:i<(Utf8.encode r).size),128≤((Utf8.encode r)[i]'hi).toNat:=by
  intro l e h3 h4;rw[e];refine⟨by simpa [ByteArray.size] using h3,λi hi=>h4 _ ?_⟩;have hi':i<l.length:=by simpa [ByteArray.size] using hi
  have:(⟨l.toArray⟩:ByteArray)[i]'hi=l[i]'hi':=rfl;rw[this];exact List.getElem_mem _
 have e:Utf8.encode r=if c<128 then ⟨#[UInt8.ofNat c]⟩ else if c<2048 then ⟨#[UInt8.ofNat (192+c / 64),UInt8.ofNat (128+c%64)]⟩ else if c<65536 then ⟨#[UInt8.ofNat (224+c / 4096),UInt8.ofNat (128+c / 64%64),UInt8.ofNat (128+c%64)]⟩ else ⟨#[UInt8.ofNat (240+c / 262144),UInt8.ofNat (128+c / 4096%64),UInt8.ofNat (128+c / 64%64),UInt8.ofNat (128+c%64)]⟩:=by rw[←hc];rfl
 rw[if_neg (by omega)] at e;by_cases c1:c<2048;rw[if_pos c1] at e;refine key [_,_] e (by simp) λx hx=>?_;simp only[List.mem_cons,List.not_mem_nil,or_false] at hx;rcases hx with rfl | rfl<;>exact of_hi (by omega) (by omega);rw[if_neg c1] at e;by_cases c2:c<65536;rw[if_pos c2] at e;refine key [_,_,_] e (by simp) λx hx=>?_;simp only[List.mem_cons,List.not_mem_nil,or_false] at hx;rcases hx with rfl | rfl | rfl<;>exact of_hi (by omega) (by omega);rw[if_neg c2] at e;refine key [_,_,_,_] e (by simp) λx hx=>?_;simp only[List.mem_cons,List.not_mem_nil,or_false] at hx;rcases hx with rfl | rfl | rfl | rfl<;>exact of_hi (by omega) (by omega)
theorem Jnc(r:Int):(Utf8.encode r).size≤4:=by
 obtain⟨c,hc⟩:∃ c,(if Utf8.valid r then r.toNat else Utf8.runeError)=c:=⟨_,rfl⟩
 have e:Utf8.encode r=if c<128 then ⟨#[UInt8.ofNat c]⟩ else if c<2048 then ⟨#[UInt8.ofNat (192+c / 64),UInt8.ofNat (128+c%64)]⟩ else if c<65536 then ⟨#[UInt8.ofNat (224+c / 4096),UInt8.ofNat (128+c / 64%64),UInt8.ofNat (128+c%64)]⟩ else ⟨#[UInt8.ofNat (240+c / 262144),UInt8.ofNat (128+c / 4096%64),UInt8.ofNat (128+c / 64%64),UInt8.ofNat (128+c%64)]⟩:=by rw[←hc];rfl
 rw[e];split;simp[ByteArray.size];split;simp[ByteArray.size];split<;>simp[ByteArray.size]
set_option maxHeartbeats 2000000 in
set_option maxRecDepth 1000000 in
theorem Any.strings_IndexRune_wide(L:Lays.n152 P ρ)(chars:ByteArray)(r:Int)(w:World)(h0:128≤r)(h2:chars.size=2)(hr:¬ r=65533)(hv:Go.Lib.validRune r=true)(HA:Aside (∀(j:Nat) b,chars.data.toList[j]?=some b->b.toNat<128)):
 Calls P (ρ.f 152) #[.string chars,.int .i32 r] w λe w'=>e=.returned (.int .i64 (-1))∧Below w.heap.size w w':=by
 have HB:Aside (2≤(Utf8.encode r).size∧∀ i (hi:i<(Utf8.encode r).size),128≤((Utf8.encode r)[i]'hi).toNat):=Jnb h0;have H2:Aside (chars.size=2):=h2;clear h2;have mixed:=L.mixed;have t3:=L.t3;have a3:=L.a3;have z3:=L.z3;have v3:=L.v3;have t4:=L.t4;have a4:=L.a4;have z4:=L.z4;have v4:=L.v4;have t5:=L.t5;have a5:=L.a5;have z5:=L.z5;have v5:=L.v5;have t9:=L.t9;have a9:=L.a9;have z9:=L.z9;have v9:=L.v9;have t21:=L.t21;have a21:=L.a21;have z21:=L.z21;have v21:=L.v21;have e137:∀ args w,(callFunc (ρ.f 137) args).run P w=.ok (.enter (ρ.f 137) args) w:=enters_of L.f137 (by kernel_rfl) rfl;have e119:∀ args w,(callFunc (ρ.f 119) args).run P w=.ok (.enter (ρ.f 119) args) w:=enters_of L.f119 (by kernel_rfl) rfl;have l0:decide ((0:Int)≤r)=true:=decide_eq_true (by omega);have l1:decide (r<(128:Int))=false:=decide_eq_false (by omega);have hrb:(r == 65533)=false:=beq_eq_false_iff_ne.2 hr
 go_enter L.f152,Body.n152_ntmps ρ
 go_wp2_with (go_at_fn (ρ.f 119);refine(Any.utf8_ValidRune { L with } _ _).mono ?_;rintro e w' ⟨rfl,hw⟩;rw[hw,hv])
 subst hw;apply wp_scope_straight;clear hv;obtain⟨B,hB⟩:∃ B,Utf8.encode r=B:=⟨_,rfl⟩
 rw[hB] at HB;obtain⟨kb,hkb⟩:∃ kb:Nat,B.size=kb:=⟨_,rfl⟩
 have hk2:2≤kb:=by rw[←hkb];exact HB.out.1
 have hk4:kb≤4:=by rw[←hkb,←hB];exact Jnc r
 go_wp2
 go_loopg [9] 1 (λg s9 wx=>wx=w'∧s9=.int .i64 ((kb:Int) - 1))
 case atStart=>exact⟨rfl,rfl⟩
 case round=>
  obtain⟨rfl,rfl⟩:=hrel;by_cases h1:kb=2
  . subst h1
    have hc2:chars.size=2:=H2.out;obtain⟨y,hy⟩:∃ y:UInt8,chars[1]'(by omega)=y:=⟨_,rfl⟩
    obtain⟨z,hz⟩:∃ z:UInt8,B[1]'(by omega)=z:=⟨_,rfl⟩
    have hy1:y.toNat<128:=HA.out 1 y (by rw[←hy];exact Lib.data_getElem? chars 1 (by omega));have hz1:128≤z.toNat:=by rw[←hz];exact HB.out.2 1 (by omega)
    have hne:((y.toNat:Int) == (z.toNat:Int))=false:=beq_eq_false_iff_ne.2 (by omega)
    have hsl:∀ W,(Instr.slice (ρ.t 9) (.string chars) (some (.int .i64 2)) none none).run P W=.ok (.string (chars.extract 2 2)) W:=λW=>by
     have:=run_slice_string_l W (ρ.t 9) chars L.t9 .i64 2 (by omega) (by omega)
     simpa [hc2] using this
    go_wp2
    apply wp_scope_straight
    go_wp2
    go_region_o
    go_wp2
    go_region_with_o (go_at_fn (ρ.f 137);refine(Any.strings_IndexByte { L with } _ _ _).mono ?_;rintro e w' ⟨rfl,hw⟩;rw[hw])
    have hlt:decide (Go.Lib.indexByte [] z<0)=true:=rfl
    go_wp2
    all_goals (simp only[Exit.noGoto,Exit.inBlock,Exit.then];go_ret;exact⟨rfl,((Below.refl _ wr).drew).drew⟩)
  . have hc:decide (((kb:Int) - 1)<(chars.size:Int))=false:=decide_eq_false (by rw[H2.out];omega)
    go_wp2
    simp only[Exit.noGoto,Exit.inBlock]
    go_ret
    exact⟨rfl,Below.refl _ _⟩
set_option maxHeartbeats 8000000 in
set_option maxRecDepth 1000000 in
theorem Any.strings_IndexRune_far(L:Lays.n152 P ρ)(chars:ByteArray)(r:Int)(w:World)(h0:128≤r)(h1:r≤2147483647)(h2:chars.size=2)(hascii:∀(j:Nat) b,chars.data.toList[j]?=some b->b.toNat<128):
 Calls P (ρ.f 152) #[.string chars,.int .i32 r] w λe w'=>e=.returned (.int .i64 (-1))∧Below w.heap.size w w':=by
 have HA:Aside (∀(j:Nat) b,chars.data.toList[j]?=some b->b.toNat<128):=hascii;clear hascii;have t3:=L.t3;have a3:=L.a3;have z3:=L.z3;have v3:=L.v3;have t4:=L.t4;have a4:=L.a4;have z4:=L.z4;have v4:=L.v4;have t5:=L.t5;have a5:=L.a5;have z5:=L.z5;have v5:=L.v5;have t9:=L.t9;have a9:=L.a9;have z9:=L.z9;have v9:=L.v9;have t21:=L.t21;have a21:=L.a21;have z21:=L.z21;have v21:=L.v21;have e137:∀ args w,(callFunc (ρ.f 137) args).run P w=.ok (.enter (ρ.f 137) args) w:=enters_of L.f137 (by kernel_rfl) rfl;have e119:∀ args w,(callFunc (ρ.f 119) args).run P w=.ok (.enter (ρ.f 119) args) w:=enters_of L.f119 (by kernel_rfl) rfl;have l0:decide ((0:Int)≤r)=true:=decide_eq_true (by omega);have l1:decide (r<(128:Int))=false:=decide_eq_false (by omega);by_cases hr:r=65533
 . subst hr
   clear h2
   go_enter L.f152,Body.n152_ntmps ρ
   go_wp2
   go_loopg [5,6] chars.size (λg _ _ wx=>∃ i:Nat,i+g=chars.size∧wx=w.iter chars i)
   case atStart=>exact⟨0,by omega,rfl⟩
   case round=>
    obtain⟨i,hig,rfl⟩:=hrel;cases gk with
    | zero=>
      obtain rfl:i=chars.size:=by omega
      have hnx:=run_next_end (P:=P) w chars chars.size
      go_wp2
      go_ret
      exact⟨rfl,(Below.refl _ w).alloc (Nat.le_refl _) _⟩
    | succ g=>
      have hi:i<chars.size:=by omega
      obtain⟨x,hx⟩:∃ x:UInt8,chars[i]'hi=x:=⟨_,rfl⟩
      have hxl:chars.data.toList[i]?=some x:=by rw[←hx];exact Lib.data_getElem? chars i hi
      have hx128:x.toNat<128:=HA.out i x hxl;have hnx:=λty=>run_next_ascii (P:=P) w chars i ty hi (by rw[hx];exact hx128);rw[hx] at hnx;clear hxl hx;have hne:((x.toNat:Int) == 65533)=false:=beq_eq_false_iff_ne.2 (by omega)
      go_wp2
      go_roundg g
      case measure=>omega
      case rel=>exact⟨i+1,by omega,rfl⟩
 . have hrb:(r == 65533)=false:=beq_eq_false_iff_ne.2 hr
   cases hv:Go.Lib.validRune r
   . go_enter L.f152,Body.n152_ntmps ρ
     go_wp2_with (go_at_fn (ρ.f 119);refine(Any.utf8_ValidRune { L with } _ _).mono ?_;rintro e w' ⟨rfl,hw⟩;rw[hw,hv])
     go_ret
     exact⟨rfl,Below.refl _ w⟩
   . exact Any.strings_IndexRune_wide L chars r w h0 h2 hr hv HA
theorem Jdo(s:ByteArray)(pos:Nat)(h:pos<s.size)(ha:128≤(s[pos]'h).toNat):pos+(Utf8.decode s pos).2≤s.size∧∀ k,k<(Utf8.decode s pos).2->128≤(s.get! (pos+k)).toNat:=by
 have hn:¬(s[pos]'h).toNat<128:=by omega
 have g0:=get_at s pos h;simp only[Utf8.decode,g0,hn,if_false]
 have ct:∀ k,(decide (pos+k<s.size) && (s.get! (pos+k)).toNat / 64 == 2)=true->pos+k<s.size∧128≤(s.get! (pos+k)).toNat:=λk hk=>by simp only[Bool.and_eq_true,decide_eq_true_eq,beq_iff_eq] at hk;exact⟨hk.1,by omega⟩
 have z0:128≤(s.get! (pos+0)).toNat:=by rw[g0];exact ha
 have one:pos+1≤s.size∧∀ k,k<1->128≤(s.get! (pos+k)).toNat:=⟨by omega,λk hk=>by
  have hk:k=0:=by omega
  rw[hk];exact z0⟩
 split;rename_i c;simp only[Bool.and_eq_true] at c;obtain⟨q1,q2⟩:=ct 1 (by simp only[Bool.and_eq_true];exact c.2);split
 exact⟨by show pos+2≤_;omega,λk hk=>by
  have hk:k<2:=hk;rcases(by omega:k=0∨k=1) with rfl | rfl;exact z0
  exact q2⟩
 exact one;split;rename_i c;simp only[Bool.and_eq_true] at c;obtain⟨q1,q2⟩:=ct 1 (by simp only[Bool.and_eq_true];exact c.1.2);obtain⟨q3,q4⟩:=ct 2 (by simp only[Bool.and_eq_true];exact c.2);split
 exact⟨by show pos+3≤_;omega,λk hk=>by
  have hk:k<3:=hk;rcases(by omega:k=0∨k=1∨k=2) with rfl | rfl | rfl;exact z0;exact q2
  exact q4⟩
 exact one;split;rename_i c;simp only[Bool.and_eq_true] at c;obtain⟨q1,q2⟩:=ct 1 (by simp only[Bool.and_eq_true];exact c.1.1.2);obtain⟨q3,q4⟩:=ct 2 (by simp only[Bool.and_eq_true];exact c.1.2);obtain⟨q5,q6⟩:=ct 3 (by simp only[Bool.and_eq_true];exact c.2);split
 exact⟨by show pos+4≤_;omega,λk hk=>by
  have hk:k<4:=hk;rcases(by omega:k=0∨k=1∨k=2∨k=3) with rfl | rfl | rfl | rfl;exact z0;exact q2;exact q4
  exact q6⟩
 exact one;exact one
theorem Jg7{s:ByteArray}{chars:List UInt8}(hac:∀ b∈chars,b.toNat<128){i K:Nat}(h:Go.Lib.NoAny s.data.toList chars i)(hk:∀ k,k<K->128≤(s.get! (i+k)).toNat)(hs:i+K≤s.size):Go.Lib.NoAny s.data.toList chars (i+K):=by
 intro j b hj hb;by_cases c:j<i;exact h j b c hb;have h1:=hk (j - i) (by omega);rw[show i+(j - i)=j by omega] at h1;have hjs:j<s.size:=by omega
 have e:s.get! j=b:=by have g:=get_at s j hjs;rw[Nat.add_zero] at g;rw[g];have:=Go.Lib.data_getElem? s j hjs;rw[hb] at this;exact(Option.some.inj this).symm
 rw[e] at h1;rw[List.contains_eq_mem,decide_eq_false];intro m;have:=hac b m;omega
set_option maxHeartbeats 8000000 in
set_option maxRecDepth 1000000 in
theorem Any.strings_IndexAny_short2(L:Lays.n153 P ρ)(s chars:ByteArray)(w:World)(h2:chars.size=2)(h8:s.size≤8)(hac:∀(j:Nat) b,chars.data.toList[j]?=some b->b.toNat<128):
 Calls P (ρ.f 153) #[.string s,.string chars] w λe w'=>e=.returned (.int .i64 (Lib.indexAny s.data.toList chars.data.toList))∧Below w.heap.size w w':=by
 have HA:Aside (∀(j:Nat) b,chars.data.toList[j]?=some b->b.toNat<128):=hac;have HM:Aside (∀ b∈chars.data.toList,b.toNat<128):=λb hb=>by obtain⟨j,hj⟩:=List.getElem?_of_mem hb;exact hac j b hj
 have H2:Aside (chars.size=2):=h2;clear hac;have hemp:chars.toList.isEmpty=false:=by
  rw[Lib.toList_data];cases h:chars.data.toList with
  | nil=>have:=Lib.size_eq chars;rw[h,List.length_nil] at this;omega
  | cons _ _=>rfl
 have hn1:((chars.size:Int) == 1)=false:=beq_eq_false_iff_ne.2 (by omega);have h8z:decide ((8:Int)<(s.size:Int))=false:=decide_eq_false (by omega);clear h2;have t3:=L.t3;have a3:=L.a3;have z3:=L.z3;have v3:=L.v3;have t4:=L.t4;have a4:=L.a4;have z4:=L.z4;have v4:=L.v4;have t5:=L.t5;have a5:=L.a5;have z5:=L.z5;have v5:=L.v5;have t9:=L.t9;have a9:=L.a9;have z9:=L.z9;have v9:=L.v9;have t21:=L.t21;have a21:=L.a21;have z21:=L.z21;have v21:=L.v21;have e152:∀ args w,(callFunc (ρ.f 152) args).run P w=.ok (.enter (ρ.f 152) args) w:=enters_of L.f152 (by kernel_rfl) rfl;have e226:∀ args w,(callFunc (ρ.f 226) args).run P w=.ok (.enter (ρ.f 226) args) w:=enters_of L.f226 (by kernel_rfl) rfl
 go_enter L.f153,Body.n153_ntmps ρ
 go_wp2_with (go_at_fn (ρ.f 226);refine(Any.strings_shouldUseASCIISet { L with } _ _).mono ?_;rintro e w' ⟨rfl,hw⟩;rw[hw,h8z])
 go_loopg [9,10] s.size (λg _ _ wx=>∃ i:Nat,i≤s.size∧s.size≤i+g∧wx.heap[w.heap.size]?=some (.stringIter s i)∧Below w.heap.size w wx∧Lib.NoAny s.data.toList chars.data.toList i)
 case atStart=>exact⟨0,Nat.zero_le _,by omega,World.iter_heap w s 0,(Below.refl _ w).alloc (Nat.le_refl _) _,Lib.NoAny.zero _ _⟩
 case round=>
  obtain⟨i,hi1,hi2,hit,hbw,hno⟩:=hrel;have HN:Aside (Lib.NoAny s.data.toList chars.data.toList i):=hno;clear hno;by_cases hps:i<s.size
  . obtain⟨g',rfl⟩:∃ g',gk=g'+1:=⟨gk - 1,by omega⟩
    have hnx:∀ ty,(Instr.next (.pointer (some ⟨w.heap.size,0,none⟩)) true ty).run P wr=_:=λty=>Lib.run_next_any_at wr w.heap.size s i ty hit hps;obtain⟨x,hx⟩:∃ x:UInt8,s[i]'hps=x:=⟨_,rfl⟩
    have hxl:s.data.toList[i]?=some x:=by rw[←hx];exact Lib.data_getElem? s i hps
    have Hx:Aside (s.data.toList[i]?=some x):=hxl;clear hxl;by_cases hx128:x.toNat<128
    . have hdec:=decode_ascii s i hps (by rw[hx];exact hx128)
      rw[hx] at hdec;rw[hdec] at hnx;have hit2:=Lib.iterAt_heap wr w.heap.size s i (i+1) hit;have hbw2:=Lib.below_iterAt hbw (k:=w.heap.size) (Nat.le_refl _) s (i+1);obtain⟨W,hWd⟩:∃ W,wr.iterAt w.heap.size s (i+1)=W:=⟨_,rfl⟩
      simp only[hWd] at hnx hit2 hbw2;have hltW:w.heap.size<W.heap.size:=(Array.getElem?_eq_some_iff.1 hit2).1;clear hdec hx hWd;have hcon:=Lib.contains_iff_indexByte chars.data.toList x;have hback:((x.toNat:Int)).toNat.toUInt8=x:=by simp
      cases hin:chars.data.toList.contains x
      . rw[hin] at hcon
        have hlt:¬((0:Int)≤Lib.indexByte chars.data.toList x):=of_decide_eq_false hcon.symm;clear hcon
        go_wp2_with (go_at_fn (ρ.f 152);refine(Any.strings_IndexRune_ascii { L with } _ _ _ (by omega) (by omega)).mono ?_;rintro e w' ⟨rfl,hw⟩;rw[hw,hback])
        go_roundg g'
        case measure=>omega
        case rel=>exact⟨i+1,by omega,by omega,hit2,hbw2,HN.out.succ Hx.out hin⟩
      . rw[hin] at hcon
        have hge:(0:Int)≤Lib.indexByte chars.data.toList x:=of_decide_eq_true hcon.symm;clear hcon
        go_wp2_with (go_at_fn (ρ.f 152);refine(Any.strings_IndexRune_ascii { L with } _ _ _ (by omega) (by omega)).mono ?_;rintro e w' ⟨rfl,hw⟩;rw[hw,hback])
        go_ret
        exact⟨by rw[Lib.indexAny_hit HN.out Hx.out hin];rfl,hbw2⟩
    . obtain⟨d1,d2⟩:=decode_high s i hps (by rw[hx];omega)
      have d3:=decode_le s i;obtain⟨d4,d5⟩:=Jdo s i hps (by rw[hx];omega);obtain⟨R,hR⟩:∃ R,(Utf8.decode s i).1=R:=⟨_,rfl⟩
      obtain⟨K,hK⟩:∃ K,(Utf8.decode s i).2=K:=⟨_,rfl⟩
      rw[hR] at d1 d3;rw[hK] at d2 d4;simp only[hK] at d5;rw[hR,hK] at hnx;have HF:Aside (Lib.NoAny s.data.toList chars.data.toList (i+K)):=Jg7 HM.out HN.out d5 d4;clear d5 hR hK hx;have hit2:=Lib.iterAt_heap wr w.heap.size s i (i+K) hit;have hbw2:=Lib.below_iterAt hbw (k:=w.heap.size) (Nat.le_refl _) s (i+K);obtain⟨W,hWd⟩:∃ W,wr.iterAt w.heap.size s (i+K)=W:=⟨_,rfl⟩
      simp only[hWd] at hnx hit2 hbw2;clear hWd;have hltW:w.heap.size<W.heap.size:=(Array.getElem?_eq_some_iff.1 hit2).1
      go_wp2_with (go_at_fn (ρ.f 152);refine(Any.strings_IndexRune_far { L with } _ _ _ (by omega) (by omega) H2.out HA.out).mono ?_;rintro e W' ⟨rfl,hbc⟩)
      go_roundg g'
      case measure=>omega
      case rel=>exact⟨i+K,d4,by omega,(hbc.block _ hltW).trans hit2,(hbw2.trans (hbc.mono hbw2.size)),HF.out⟩
  . have hnx:∀ ty,(Instr.next (.pointer (some ⟨w.heap.size,0,none⟩)) true ty).run P wr=_:=λty=>Lib.run_next_end_at wr w.heap.size s i ty hit hps
    go_wp2
    go_ret
    exact⟨by rw[Lib.indexAny_none (by rw[←Lib.size_eq,show s.size=i by omega];exact HN.out)];rfl,hbw⟩
theorem Any.strings_IndexAny_two(L:Lays.n153 P ρ)(h116:(P.info? (ρ.t 116)).map (λi=>(i.zero,i.size))=some (some (.agg (Array.replicate 256 (.bool false))),256))(s chars:ByteArray)(w:World)(h2:chars.size=2)(hs:s.size<4294967281)
 (hac:∀(j:Nat) b,chars.data.toList[j]?=some b->b.toNat<128) :
 Calls P (ρ.f 153) #[.string s,.string chars] w λe w'=>e=.returned (.int .i64 (Lib.indexAny s.data.toList chars.data.toList))∧Below w.heap.size w w':=by
 by_cases h8:s.size≤8;exact Any.strings_IndexAny_short2 L s chars w h2 h8 hac;refine(Any.strings_IndexAny_long L (zero_of_info h116).1 (zero_of_info h116).2 s chars w (by omega) (by omega) hs (by omega) hac).mono ?_;rintro e w' ⟨rfl,rfl⟩;exact⟨rfl,((Below.refl _ w).alloc (Nat.le_refl _) _).alloc (by simp) _⟩
#print axioms Any.strings_IndexAny_two
end Go.Proofs
