import Derived.Test.YtlfphifbmoccgaaGreatDoorTie
import Derived.Test.YtlfphifbmoccgaaGreatDoorCards
import Derived.Lay
import Derived.Stop.Joined
import Derived.SevenTiedAt
import Derived.Test.YtlfphifbmoccgaaGreatDoorFrame
import Derived.Test.YtlfphifbmoccgaaGreatDoorGs
import Derived.Test.YtlfphifbmoccgaaGreatDoorGen0
import Derived.Test.YtlfphifbmoccgaaGreatDoorGenA1
import Derived.Test.YtlfphifbmoccgaaGreatDoorGenA2
import Derived.Test.YtlfphifbmoccgaaGreatDoorGenA3
import Derived.Test.YtlfphifbmoccgaaGreatDoorGenA4
import Derived.Test.YtlfphifbmoccgaaGreatDoorGenA5
import Derived.Test.YtlfphifbmoccgaaGreatDoorGenR1
import Derived.Test.YtlfphifbmoccgaaGreatDoorGenL1
import Derived.Test.YtlfphifbmoccgaaGreatDoorGencA1
import Derived.Test.YtlfphifbmoccgaaGreatDoorGencR1
import Derived.Test.YtlfphifbmoccgaaGreatDoorGencL1
import Derived.Test.YtlfphifbmoccgaaGreatDoorP1
import Derived.Test.YtlfphifbmoccgaaGreatDoorP2
import Derived.Test.YtlfphifbmoccgaaGreatDoorPc1
namespace Go.Proofs.YtlfphifbmoccgaaGreatDoor
open Go Go.RowKit Go.ChangeShapes Go.WideShapes Go.ChangeAt
set_option maxRecDepth 100000
theorem Qi2:Opn Tryz.prog 184 u32 (λx=>(x<4294967296)):=Qtv uk32 Tryz.underlying184
theorem Qe5:Opn Tryz.prog 32 (λxs:List Nat=>sli 1 (xs.map u32)) Qmb:=Z2 Tryz.underlying32 (by as_aux_lemma=>kernel_rfl) rfl (λ_=>rfl) Qi2
theorem opn_4:Opn Tryz.prog 4 bl (λ_=>True):=Qtw Tryz.underlying4
theorem Yz:Opn Tryz.prog 34 (λx:Qc=>.agg [bl x.Neg,Zo x.N,Zo x.D]) J1:=Ko (fl:=[(4,0,1),(32,1,1),(32,2,1)]) (λy=>(⟨y.1,y.2.1,y.2.2.1⟩:Qc)) Tryz.underlying34 (by as_aux_lemma=>kernel_rfl) (by as_aux_lemma=>kernel_rfl) (Qp opn_4 (Qp Qe5 (Qp Qe5 (K6)))) (λ_=>rfl) (λy h=>⟨h.1,h.2.1,h.2.2.1,trivial⟩)
theorem V4:Opn Tryz.prog 26 (λxs:List Qc=>sli 3 (xs.map Qe)) Q6:=Z2 Tryz.underlying26 (by as_aux_lemma=>kernel_rfl) rfl (λ_=>rfl) Yz
theorem Q9v:Opn Tryz.prog 95 (λx:Jw=>.agg [Ql x.Y,Ql x.P]) Qfb:=Ko (fl:=[(26,0,1),(26,1,1)]) (λy=>(⟨y.1,y.2.1⟩:Jw)) Tryz.underlying95 (by as_aux_lemma=>kernel_rfl) (by as_aux_lemma=>kernel_rfl) (Qp V4 (Qp V4 (K6))) (λ_=>rfl) (λy h=>⟨h.1,h.2.1,trivial⟩)
theorem opn_3:Opn Tryz.prog 3 i64 (λx=>(-9223372036854775808≤x∧x≤9223372036854775807)):=Qq9 Tryz.underlying3
theorem Jci:Opn Tryz.prog 104 (λx:Qh0=>.agg [i64 x.a0,i64 x.a1]) Q2z:=Qp4 (fl:=[(3,0,1),(3,1,1)]) (λy=>(⟨y.1,y.2.1⟩:Qh0)) Tryz.underlying104 (by as_aux_lemma=>kernel_rfl) (by as_aux_lemma=>kernel_rfl) (Qp opn_3 (Qp opn_3 (K6))) (λ_=>rfl) (λy h=>⟨h.1,h.2.1,trivial⟩)
theorem Qzc(os:Os)(started:os.Started)(H:Type)(enc:TypeId×Value->H):
 ReturnsInHanded {} Tryz.checked os 7 .any (λw args=>(Rows.backSumsSpec.pre enc Tryz.prog Tryz.f7 [] false w args∧laidMetH Tryz.prog Rows.backSumsRow.laid w)∧sizedMet enc Tryz.prog Tryz.f7 (OpenSpec.ofChange Rows.backSumsSpec) false w args) (Rows.backSumsSpec.post enc Tryz.prog Tryz.f7 false true false false):=by
 refine returnsS (C:=Tryz.checked) (X:=λw _=>laidMetH Tryz.prog Rows.backSumsRow.laid w) (λ_ _ _ hh h=>h.of_heap hh) ownK started (by as_aux_lemma=>kernel_rfl) Tryz.func7
  (ChangeSpec.witness_shaped (enc:=enc) (C:=Tryz.checked) (os:=os) (X:=λw _=>laidMetH Tryz.prog Rows.backSumsRow.laid w) false (World.laidAll Tryz.prog os Rows.backSumsRow.laid) #[.agg #[.slice none 0 0,.slice none 0 0],.agg #[.slice none 0 0,.slice none 0 0],.agg #[.int .i64 0,.int .i64 0]] 40 (World.laidAll_os _ _ _)
   (World.shaped_of_ZipB (by as_aux_lemma=>kernel_rfl) (by as_aux_lemma=>kernel_rfl)) (by as_aux_lemma=>kernel_rfl) (by as_aux_lemma=>kernel_rfl) (by as_aux_lemma=>kernel_rfl)
   (by rw[MakeChecks.laidMetH_plain _ _ _ (by as_aux_lemma=>kernel_rfl)];exact laidMet_laidAll _ (by as_aux_lemma=>kernel_rfl) (by as_aux_lemma=>kernel_rfl))) ?_
 intro W base args ds gs before hval0 hW hc _ hL hsh _;have hval:∀(j:Nat) t v,Tryz.f7.params[j]?=some t->args[j]?=some v->Value.okWide Tryz.prog W .any base t v:=hval0;have hW':=hW;obtain⟨p,q,hA0,hV,rfl,_,_⟩:=hW;have hA:DataW.TrodAll enc Tryz.prog W 0 (λ_=>true) true Tryz.f7.params.toList args.toList ds p:=hA0;rw[Tryz.params7] at hA hval;obtain⟨v0,v1,v2,d0,d1,d2,p0,p1,p2,rfl,rfl,rfl,h0,h1,h2⟩:=trodAll_three hA;obtain⟨rfl,rfl⟩:=trodVars_none hV;obtain⟨y0,hy0,b0⟩:=Z3 Q9v (.inl ⟨_,Tryz.underlying95⟩) (hval 0 95 v0 rfl rfl) h0;obtain⟨y1,hy1,b1⟩:=Z3 Q9v (.inl ⟨_,Tryz.underlying95⟩) (hval 1 95 v1 rfl rfl) h1;obtain⟨y2,hy2,b2⟩:=Z3 Jci (.inr ⟨_,_,Tryz.underlying104⟩) (hval 2 104 v2 rfl rfl) h2;obtain⟨n,hn⟩:∃ n,Zf n y0 y1 y2=some true:=Q4x y0 y1 y2 b0 b1 b2;have hF:=Qnt _ hn;have hS:∀ b,Sx S0n g0n [] b->S0n b:=λb h=>by rcases h with h | ⟨_,_,_,h,_⟩;exact h;cases h
 refine(hF.2 W S0n g0n #[v0,v1,v2] (λ_ h=>h.elim) (λ_ _=>rfl) (λ_ _ h=>by cases h) (λ_ _ _ _ _ _ _ h=>by cases h) (λ_ ⟨_,_,_,h,_⟩=>by cases h) ⟨v0,[v1,v2],rfl,Ly.val_mono (Kp.refl _ _) (λb h=>.inl (hS b h)) (Ng.refl _) _ _ hy0,⟨v1,[v2],rfl,Ly.val_mono (Kp.refl _ _) (λb h=>.inl (hS b h)) (Ng.refl _) _ _ hy1,⟨v2,[],rfl,Ly.val_mono (Kp.refl _ _) (λb h=>.inl (hS b h)) (Ng.refl _) _ _ hy2,rfl⟩⟩⟩ (Qos (λb h=>hS b h) hsh)).mono ?_;rintro e W' ⟨v,γ',rfl,hb⟩;have hv:v=.bool true:=hb.res;subst hv;have hbel:Below W.heap.size W W':=⟨hb.os,hb.tape,hb.output,hb.grow,λk hk=>hb.old k hk (λ⟨_,_,_,h,_⟩=>by cases h)⟩
 simp only[List.append_nil] at hW';refine⟨_,rfl,Qfy (pa:=p0++p1++p2) (pv:=[]) hW' hbel (λ_ _ _=>trodAll_mk1 (shut_bool Tryz.underlying4 _)) (λsp hsp=>by rw[show p0++p1++p2=p0++(p1++(p2)) by simp only[List.append_assoc]];exact trodAll_mk3 (WideElems.Trod_stays laidOutK (by as_aux_lemma=>kernel_rfl) (of_decide_eq_true (by as_aux_lemma=>kernel_rfl)) h0 (λx hx=>hbel.same (hW'.lt x (List.mem_append_left _ (List.mem_append_left _ (hx))))) (λx hx=>hsp x (List.mem_append_left _ (List.mem_append_left _ (hx))))) (WideElems.Trod_stays laidOutK (by as_aux_lemma=>kernel_rfl) (of_decide_eq_true (by as_aux_lemma=>kernel_rfl)) h1 (λx hx=>hbel.same (hW'.lt x (List.mem_append_left _ (List.mem_append_right _ (hx))))) (λx hx=>hsp x (List.mem_append_left _ (List.mem_append_right _ (hx))))) (WideElems.Trod_stays laidOutK (by as_aux_lemma=>kernel_rfl) (of_decide_eq_true (by as_aux_lemma=>kernel_rfl)) h2 (λx hx=>hbel.same (hW'.lt x (List.mem_append_right _ (hx)))) (λx hx=>hsp x (List.mem_append_right _ (hx))))) (λ_ _=>rfl) (by simp) (ok_one (by as_aux_lemma=>kernel_rfl) rfl (okWide_bool_mk Tryz.underlying4 _))⟩
end Go.Proofs.YtlfphifbmoccgaaGreatDoor
