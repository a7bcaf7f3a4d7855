import Derived.Test.YtmnlcblemgjeeaaGreatDoorTie
import Derived.Test.YtmnlcblemgjeeaaGreatDoorCards
import Derived.Lay
import Derived.Stop.Joined
import Derived.SevenTiedAt
import Derived.Test.YtmnlcblemgjeeaaGreatDoorGs
import Derived.Test.YtmnlcblemgjeeaaGreatDoorGenL1
import Derived.Test.YtmnlcblemgjeeaaGreatDoorP2
namespace Go.Proofs.YtmnlcblemgjeeaaGreatDoor
open Go Go.RowKit Go.ChangeShapes Go.WideShapes Go.ChangeAt
set_option maxRecDepth 100000
set_option maxHeartbeats 8000000
theorem Quy:Opn Tryz.prog 124 u32 (λx=>(x<4294967296)):=Qvb uk32 Tryz.underlying124
theorem Qsw:Opn Tryz.prog 26 (λxs:List Nat=>sli 1 (xs.map u32)) Qlh:=Qn4 Tryz.underlying26 ox rfl (λ_=>rfl) Quy
theorem opn_4:Opn Tryz.prog 4 bl (λ_=>True):=Qvc Tryz.underlying4
theorem Qk8:Opn Tryz.prog 28 (λx:Qi=>.agg [bl x.Neg,Xp x.N,Xp x.D]) Kv:=Qj7 (fl:=[(4,0,1),(26,1,1),(26,2,1)]) (λy=>(⟨y.1,y.2.1,y.2.2.1⟩:Qi)) Tryz.underlying28 ox ox (Wl opn_4 (Wl Qsw (Wl Qsw (Qjh)))) (λ_=>rfl) (λy h=>⟨h.1,h.2.1,h.2.2.1,trivial⟩)
theorem Qk9:Opn Tryz.prog 22 (λxs:List Qi=>sli 3 (xs.map Qv)) Kb:=Qn4 Tryz.underlying22 ox rfl (λ_=>rfl) Qk8
theorem Qwk:Opn Tryz.prog 23 (λxs:List (List Qi)=>sli 1 (xs.map Q7)) Y6:=Qn4 Tryz.underlying23 ox rfl (λ_=>rfl) Qk9
theorem opn_9:Opn Tryz.prog 9 str (λs=>s.length<=maxLen):=Qtu Tryz.underlying9
theorem Qwl:Opn Tryz.prog 25 (λx:Q6=>.agg [str x.Name,Q7 x.C,Za x.A,Q7 x.B,Q7 x.E]) Z5:=Qj7 (fl:=[(9,0,1),(22,1,1),(23,2,1),(22,3,1),(22,4,1)]) (λy=>(⟨y.1,y.2.1,y.2.2.1,y.2.2.2.1,y.2.2.2.2.1⟩:Q6)) Tryz.underlying25 ox ox (Wl opn_9 (Wl Qk9 (Wl Qwk (Wl Qk9 (Wl Qk9 (Qjh)))))) (λ_=>rfl) (λy h=>⟨h.1,h.2.1,h.2.2.1,h.2.2.2.1,h.2.2.2.2.1,trivial⟩)
theorem Qwm:Opn Tryz.prog 29 (λx:J6=>.agg [Qv x.a0,Qv x.a1,Qv x.a2]) Zs:=Qrm (fl:=[(28,0,3),(28,3,3),(28,6,3)]) (λy=>(⟨y.1,y.2.1,y.2.2.1⟩:J6)) Tryz.underlying29 ox ox (Wl Qk8 (Wl Qk8 (Wl Qk8 (Qjh)))) (λ_=>rfl) (λy h=>⟨h.1,h.2.1,h.2.2.1,trivial⟩)
theorem Qjw(os:Os)(started:os.Started)(H:Type)(enc:TypeId×Value->H):
 ReturnsInHanded {} Tryz.checked os 3 .any (λw args=>(Rows.stepGrowsSpec.pre enc Tryz.prog Tryz.f3 [] false w args/\laidMetH Tryz.prog Rows.stepGrowsRow.laid w)/\sizedMet enc Tryz.prog Tryz.f3 (OpenSpec.ofChange Rows.stepGrowsSpec) false w args) (Rows.stepGrowsSpec.post enc Tryz.prog Tryz.f3 false true false false):=by
 refine returnsS (C:=Tryz.checked) (X:=λw _=>laidMetH Tryz.prog Rows.stepGrowsRow.laid w) (λ_ _ _ hh h=>h.of_heap hh) ownK started ox Tryz.func3
  (ChangeSpec.witness_shaped (enc:=enc) (C:=Tryz.checked) (os:=os) (X:=λw _=>laidMetH Tryz.prog Rows.stepGrowsRow.laid w) false (World.laidAll Tryz.prog os Rows.stepGrowsRow.laid) #[.agg #[.string ⟨#[]⟩,.slice none 0 0,.slice none 0 0,.slice none 0 0,.slice none 0 0],.agg #[.bool false,.slice none 0 0,.slice none 0 0,.bool false,.slice none 0 0,.slice none 0 0,.bool false,.slice none 0 0,.slice none 0 0]] 40 (World.laidAll_os _ _ _)
   (World.shaped_of_ZipB ox ox) ox ox ox
   (by rw[MakeChecks.laidMetH_plain _ _ _ ox];exact laidMet_laidAll _ ox ox)) ?_
 intro W base args ds gs before hval0 hW hc hwt hL hsh _;have hval:∀(j:Nat) t v,Tryz.f3.params[j]?=some t->args[j]?=some v->Value.okWide Tryz.prog W .any base t v:=hval0;have hW':=hW;obtain⟨p,q,hA0,hV,rfl,_,_⟩:=hW;have hA:DataW.TrodAll enc Tryz.prog W 0 (λ_=>true) true Tryz.f3.params.toList args.toList ds p:=hA0;rw[Tryz.params3] at hA hval;obtain⟨v0,v1,d0,d1,p0,p1,rfl,rfl,rfl,h0,h1⟩:=trodAll_two hA;obtain⟨rfl,rfl⟩:=trodVars_none hV;obtain⟨y0,hy0,b0⟩:=Qn5 Qwl (.inl ⟨_,Tryz.underlying25⟩) (hval 0 25 v0 rfl rfl) h0;obtain⟨y1,hy1,b1⟩:=Qn5 Qwm (.inr ⟨_,_,Tryz.underlying29⟩) (hval 1 29 v1 rfl rfl) h1;obtain⟨n,hn⟩:∃ n,Kh n y0 y1=some true:=Qnq y0 y1 b0 b1;have hF:=Qdg _ hn;have hS:∀ b,Sx S0n g0n [] b->S0n b:=λb h=>by rcases h with h | ⟨_,_,_,h,_⟩;exact h;cases h
 refine(hF.2 W S0n g0n #[v0,v1] (λ_ h=>h.elim) (λ_ _=>rfl) (λ_ _ h=>by cases h) (λ_ _ _ _ _ _ _ h=>by cases h) (λ_ ⟨_,_,_,h,_⟩=>by cases h) ⟨v0,[v1],rfl,Ly.val_mono (Kp.refl _ _) (λb h=>.inl (hS b h)) (Ng.refl _) _ _ hy0,⟨v1,[],rfl,Ly.val_mono (Kp.refl _ _) (λb h=>.inl (hS b h)) (Ng.refl _) _ _ hy1,rfl⟩⟩ (Qs2 (λb h=>hS b h) hsh)).mono ?_;rintro e W' ⟨v,γ',rfl,hb⟩;have hv:v=.bool true:=hb.res;subst hv;have hbel:Below W.heap.size W W':=⟨hb.os,hb.tape,hb.output,hb.grow,λk hk=>hb.old k hk (λ⟨_,_,_,h,_⟩=>by cases h)⟩
 simp only[vu] at hW';refine⟨_,rfl,Qle (pa:=p0++p1) (pv:=[]) hW' hbel (λ_ _ _=>trodAll_mk1 (shut_bool Tryz.underlying4 _)) (λsp hsp=>trodAll_mk2 (WideElems.Trod_stays laidOutK ox (vo ox) h0 (λx hx=>hbel.same (hW'.lt x (List.mem_append_left _ (hx)))) (λx hx=>hsp x (List.mem_append_left _ (hx)))) (WideElems.Trod_stays laidOutK ox (vo ox) h1 (λx hx=>hbel.same (hW'.lt x (List.mem_append_right _ (hx)))) (λx hx=>hsp x (List.mem_append_right _ (hx))))) (λ_ _=>rfl) oa (ok_one ox rfl (okWide_bool_mk Tryz.underlying4 _))⟩
end Go.Proofs.YtmnlcblemgjeeaaGreatDoor
