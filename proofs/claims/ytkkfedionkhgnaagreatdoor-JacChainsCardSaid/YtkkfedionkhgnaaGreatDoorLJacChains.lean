import Derived.Test.YtkkfedionkhgnaaGreatDoorTie
import Derived.Test.YtkkfedionkhgnaaGreatDoorCards
import Derived.Lay
import Derived.Stop.Joined
import Derived.SevenTiedAt
import Derived.Test.YtkkfedionkhgnaaGreatDoorGs
import Derived.Test.YtkkfedionkhgnaaGreatDoorGenL1
import Derived.Test.YtkkfedionkhgnaaGreatDoorP2
namespace Go.Proofs.YtkkfedionkhgnaaGreatDoor
open Go Go.RowKit Go.ChangeShapes Go.WideShapes Go.ChangeAt
set_option maxRecDepth 100000
theorem Q5v:Opn Tryz.prog 286 u32 (λx=>(x<4294967296)):=Q6a uk32 Tryz.underlying286
theorem Q3p:Opn Tryz.prog 32 (λxs:List Nat=>sli 1 (xs.map u32)) Quk:=Qxn Tryz.underlying32 (by as_aux_lemma=>kernel_rfl) rfl (λ_=>rfl) Q5v
theorem opn_4:Opn Tryz.prog 4 bl (λ_=>True):=Q6b Tryz.underlying4
theorem Q70:Opn Tryz.prog 34 (λx:Qc=>.agg [bl x.Neg,Qae x.N,Qae x.D]) Qfl:=Qs2 (fl:=[(4,0,1),(32,1,1),(32,2,1)]) (λy=>(⟨y.1,y.2.1,y.2.2.1⟩:Qc)) Tryz.underlying34 (by as_aux_lemma=>kernel_rfl) (by as_aux_lemma=>kernel_rfl) (Qjf opn_4 (Qjf Q3p (Qjf Q3p (Qxo)))) (λ_=>rfl) (λy h=>⟨h.1,h.2.1,h.2.2.1,trivial⟩)
theorem Q71:Opn Tryz.prog 26 (λxs:List Qc=>sli 3 (xs.map Qg)) Qah:=Qxn Tryz.underlying26 (by as_aux_lemma=>kernel_rfl) rfl (λ_=>rfl) Q70
theorem Q3q:Opn Tryz.prog 27 (λxs:List (List Qc)=>sli 1 (xs.map Qf)) Yb:=Qxn Tryz.underlying27 (by as_aux_lemma=>kernel_rfl) rfl (λ_=>rfl) Q71
theorem Q0q:Opn Tryz.prog 123 (λx:Qy=>.agg [K2 x.Y,K2 x.P]) Qbi:=Qs2 (fl:=[(27,0,1),(27,1,1)]) (λy=>(⟨y.1,y.2.1⟩:Qy)) Tryz.underlying123 (by as_aux_lemma=>kernel_rfl) (by as_aux_lemma=>kernel_rfl) (Qjf Q3q (Qjf Q3q (Qxo))) (λ_=>rfl) (λy h=>⟨h.1,h.2.1,trivial⟩)
theorem Qst(os:Os)(started:os.Started)(H:Type)(enc:TypeId×Value->H):
 ReturnsInHanded {} Tryz.checked os 9 .any (λw args=>(Rows.jacChainsSpec.pre enc Tryz.prog Tryz.f9 [] false w args∧laidMetH Tryz.prog Rows.jacChainsRow.laid w)∧sizedMet enc Tryz.prog Tryz.f9 (OpenSpec.ofChange Rows.jacChainsSpec) false w args) (Rows.jacChainsSpec.post enc Tryz.prog Tryz.f9 false true false false):=by
 refine returnsS (C:=Tryz.checked) (X:=λw _=>laidMetH Tryz.prog Rows.jacChainsRow.laid w) (λ_ _ _ hh h=>h.of_heap hh) ownK started (by as_aux_lemma=>kernel_rfl) Tryz.func9
  (ChangeSpec.witness_shaped (enc:=enc) (C:=Tryz.checked) (os:=os) (X:=λw _=>laidMetH Tryz.prog Rows.jacChainsRow.laid w) false (World.laidAll Tryz.prog os Rows.jacChainsRow.laid) #[.agg #[.slice none 0 0,.slice none 0 0],.agg #[.slice none 0 0,.slice none 0 0]] 40 (World.laidAll_os _ _ _)
   (World.shaped_of_ZipB (by as_aux_lemma=>kernel_rfl) (by as_aux_lemma=>kernel_rfl)) (by as_aux_lemma=>kernel_rfl) (by as_aux_lemma=>kernel_rfl) (by as_aux_lemma=>kernel_rfl)
   (by rw[MakeChecks.laidMetH_plain _ _ _ (by as_aux_lemma=>kernel_rfl)];exact laidMet_laidAll _ (by as_aux_lemma=>kernel_rfl) (by as_aux_lemma=>kernel_rfl))) ?_
 intro W base args ds gs before hval0 hW hc _ hL hsh _;have hval:∀(j:Nat) t v,Tryz.f9.params[j]?=some t->args[j]?=some v->Value.okWide Tryz.prog W .any base t v:=hval0;have hW':=hW;obtain⟨p,q,hA0,hV,rfl,_,_⟩:=hW;have hA:DataW.TrodAll enc Tryz.prog W 0 (λ_=>true) true Tryz.f9.params.toList args.toList ds p:=hA0;rw[Tryz.params9] at hA hval;obtain⟨v0,v1,d0,d1,p0,p1,rfl,rfl,rfl,h0,h1⟩:=trodAll_two hA;obtain⟨rfl,rfl⟩:=trodVars_none hV;obtain⟨y0,hy0,b0⟩:=Qxp Q0q (.inl ⟨_,Tryz.underlying123⟩) (hval 0 123 v0 rfl rfl) h0;obtain⟨y1,hy1,b1⟩:=Qxp Q0q (.inl ⟨_,Tryz.underlying123⟩) (hval 1 123 v1 rfl rfl) h1;obtain⟨n,hn⟩:∃ n,Wg n y0 y1=some true:=Qw8 y0 y1 b0 b1;have hF:=Qjl _ hn;have hS:∀ b,Sx S0n g0n [] b->S0n b:=λb h=>by rcases h with h | ⟨_,_,_,h,_⟩;exact h;cases h
 refine(hF.2 W S0n g0n #[v0,v1] (λ_ h=>h.elim) (λ_ _=>rfl) (λ_ _ h=>by cases h) (λ_ _ _ _ _ _ _ h=>by cases h) (λ_ ⟨_,_,_,h,_⟩=>by cases h) ⟨v0,[v1],rfl,Ly.val_mono (Kp.refl _ _) (λb h=>.inl (hS b h)) (Ng.refl _) _ _ hy0,⟨v1,[],rfl,Ly.val_mono (Kp.refl _ _) (λb h=>.inl (hS b h)) (Ng.refl _) _ _ hy1,rfl⟩⟩ (Q3w (λb h=>hS b h) hsh)).mono ?_;rintro e W' ⟨v,γ',rfl,hb⟩;have hv:v=.bool true:=hb.res;subst hv;have hbel:Below W.heap.size W W':=⟨hb.os,hb.tape,hb.output,hb.grow,λk hk=>hb.old k hk (λ⟨_,_,_,h,_⟩=>by cases h)⟩
 simp only[List.append_nil] at hW';refine⟨_,rfl,Quf (pa:=p0++p1) (pv:=[]) hW' hbel (λ_ _ _=>trodAll_mk1 (shut_bool Tryz.underlying4 _)) (λsp hsp=>trodAll_mk2 (WideElems.Trod_stays laidOutK (by as_aux_lemma=>kernel_rfl) (of_decide_eq_true (by as_aux_lemma=>kernel_rfl)) h0 (λx hx=>hbel.same (hW'.lt x (List.mem_append_left _ (hx)))) (λx hx=>hsp x (List.mem_append_left _ (hx)))) (WideElems.Trod_stays laidOutK (by as_aux_lemma=>kernel_rfl) (of_decide_eq_true (by as_aux_lemma=>kernel_rfl)) h1 (λx hx=>hbel.same (hW'.lt x (List.mem_append_right _ (hx)))) (λx hx=>hsp x (List.mem_append_right _ (hx))))) (λ_ _=>rfl) (by simp) (ok_one (by as_aux_lemma=>kernel_rfl) rfl (okWide_bool_mk Tryz.underlying4 _))⟩
end Go.Proofs.YtkkfedionkhgnaaGreatDoor
