import Derived.Test.YthdbapalogijdaaGreatDoorCards
import Derived.Lay
import Derived.Stop.Joined
import Derived.SevenTiedAt
import Derived.Test.YthdbapalogijdaaGreatDoorGs
import Derived.Test.YthdbapalogijdaaGreatDoorGenL1
import Derived.Test.YthdbapalogijdaaGreatDoorP4
namespace Go.Proofs.YthdbapalogijdaaGreatDoor
open Go Go.RowKit Go.ChangeShapes Go.WideShapes Go.ChangeAt
set_option maxRecDepth 100000
set_option maxHeartbeats 8000000
theorem Ed:H8 Tryz.prog 9 am (λs=>s.length<=maxLen):=X3 Tryz.underlying9
theorem Q0w(os:Os)(started:os.Started)(H:Type)(enc:TypeId×Value->H):
 ReturnsInHanded {} Tryz.checked os 3 .any (λw args=>(Rows.engineReadsSpec.pre enc Tryz.prog Tryz.f3 [] false w args/\laidMetH Tryz.prog Rows.engineReadsRow.laid w)/\sizedMet enc Tryz.prog Tryz.f3 (OpenSpec.ofChange Rows.engineReadsSpec) false w args) (Rows.engineReadsSpec.post enc Tryz.prog Tryz.f3 false true false false):=by
 refine mM (C:=Tryz.checked) (X:=λw _=>laidMetH Tryz.prog Rows.engineReadsRow.laid w) (λ_ _ _ hh h=>h.of_heap hh) H9 started oz Tryz.func3
  (ChangeSpec.witness_shaped (enc:=enc) (C:=Tryz.checked) (os:=os) (X:=λw _=>laidMetH Tryz.prog Rows.engineReadsRow.laid w) false (World.laidAll Tryz.prog os Rows.engineReadsRow.laid) #[.string ⟨#[]⟩] 40 (World.laidAll_os _ _ _)
   (World.shaped_of_ZipB oz oz) oz oz oz
   (by rw[MakeChecks.laidMetH_plain _ _ _ oz];exact laidMet_laidAll _ oz oz)) ?_
 intro W base args ds gs before hval0 hW hc hwt hL hsh _;have hval:∀(j:Nat) t v,Tryz.f3.params[j]?=some t->args[j]?=some v->Value.okWide Tryz.prog W .any base t v:=hval0;have hW':=hW;obtain⟨p,q,hA0,hV,rfl,_,_⟩:=hW;have hA:DataW.TrodAll enc Tryz.prog W 0 (λ_=>true) true Tryz.f3.params.toList args.toList ds p:=hA0;rw[Tryz.params3] at hA hval;obtain⟨v0,d0,rfl,rfl,h0⟩:=trodAll_one hA;obtain⟨rfl,rfl⟩:=trodVars_none hV;obtain⟨y0,hy0,b0⟩:=YA Ed (λ_=>rfl) (λ_ _ _=>⟨by rw[Tryz.underlying9];simp,by rw[Tryz.underlying9];simp⟩) (hval 0 9 v0 rfl rfl) h0;obtain⟨n,hn⟩:∃ n,Xx n y0=some true:=Q6b y0 b0;have hF:=Qpq _ hn;have hL1:laidMet Tryz.prog Rows.engineReadsRow.laid W:=by rw[MakeChecks.laidMetH_plain _ _ _ oz] at hL;exact hL
 have hL2:laidMet Tryz.prog [("internal/strconv.uint64pow10",Rows.laid_internal_strconv_uint64pow10),("math/bits.deBruijn32tab",Rows.laid_math_bits_deBruijn32tab),("math/bits.deBruijn64tab",Rows.laid_math_bits_deBruijn64tab)] W:=(laidMet.tail (x:=("strconv.ErrRange",Rows.laid_strconv_ErrRange)) (laidMet.tail (x:=("strconv.ErrSyntax",Rows.laid_strconv_ErrSyntax)) (laidMet.tail (x:=("unicode/utf8.acceptRanges",Rows.laid_unicode_utf8_acceptRanges)) (laidMet.tail (x:=("unicode/utf8.first",Rows.laid_unicode_utf8_first)) hL1))))
 have hL3:laidMet Tryz.prog [("strconv.ErrRange",Rows.laid_strconv_ErrRange),("internal/strconv.uint64pow10",Rows.laid_internal_strconv_uint64pow10),("math/bits.deBruijn32tab",Rows.laid_math_bits_deBruijn32tab),("math/bits.deBruijn64tab",Rows.laid_math_bits_deBruijn64tab)] W:=(laidMet.tail (x:=("strconv.ErrSyntax",Rows.laid_strconv_ErrSyntax)) (laidMet.tail (x:=("unicode/utf8.acceptRanges",Rows.laid_unicode_utf8_acceptRanges)) (laidMet.tail (x:=("unicode/utf8.first",Rows.laid_unicode_utf8_first)) hL1)))
 have hL4:laidMet Tryz.prog [("strconv.ErrSyntax",Rows.laid_strconv_ErrSyntax),("strconv.ErrRange",Rows.laid_strconv_ErrRange),("internal/strconv.uint64pow10",Rows.laid_internal_strconv_uint64pow10),("math/bits.deBruijn32tab",Rows.laid_math_bits_deBruijn32tab),("math/bits.deBruijn64tab",Rows.laid_math_bits_deBruijn64tab)] W:=(laidMet.tail (x:=("unicode/utf8.acceptRanges",Rows.laid_unicode_utf8_acceptRanges)) (laidMet.tail (x:=("unicode/utf8.first",Rows.laid_unicode_utf8_first)) hL1))
 have hS:∀ b,Sx yD Ef [] b->yD b:=λb h=>by rcases h with h | ⟨_,_,_,h,_⟩;exact h;cases h
 refine(hF.2 W yD Ef #[v0] (λ_ h=>h.elim) (λ_ _=>rfl) (λ_ _ h=>by cases h) (λ_ _ _ _ _ _ _ h=>by cases h) (λ_ ⟨_,_,_,h,_⟩=>by cases h) ⟨v0,[],rfl,Ly.val_mono (Kp.refl _ _) (λb h=>.inl (hS b h)) (Ng.refl _) _ _ hy0,rfl⟩ (Jjm (λb h=>hS b h) hsh hL2 hL3 hL4)).mono ?_;rintro e W' ⟨v,γ',rfl,hb⟩;have hv:v=.bool true:=hb.res;subst hv;have hbel:Below W.heap.size W W':=⟨hb.os,hb.tape,hb.output,hb.grow,λk hk=>hb.old k hk (λ⟨_,_,_,h,_⟩=>by cases h)⟩
 simp only[vj] at hW';refine⟨_,rfl,YB (pa:=p) (pv:=[]) hW' hbel (λ_ _ _=>trodAll_mk1 (shut_bool Tryz.underlying4 _)) (λsp hsp=>trodAll_mk1 (WideElems.Trod_stays mJ oz (wd oz) h0 (λx hx=>hbel.same (hW'.lt x hx)) (hsp))) (λ_ _=>rfl) oh (ok_one oz rfl (okWide_bool_mk Tryz.underlying4 _))⟩
end Go.Proofs.YthdbapalogijdaaGreatDoor
