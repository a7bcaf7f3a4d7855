import Derived.Test.YtlfphifbmoccgaaGreatDoorTie
import Derived.Test.YtlfphifbmoccgaaGreatDoorCards
import Derived.Lay
import Derived.Stop.Joined
import Derived.SevenTiedAt
import Derived.Test.YtlfphifbmoccgaaGreatDoorFrame
import Derived.Test.YtlfphifbmoccgaaGreatDoorGs
import Derived.Test.YtlfphifbmoccgaaGreatDoorGen0
import Derived.Test.YtlfphifbmoccgaaGreatDoorGen0a
import Derived.Test.YtlfphifbmoccgaaGreatDoorGenA1
import Derived.Test.YtlfphifbmoccgaaGreatDoorGenA2
import Derived.Test.YtlfphifbmoccgaaGreatDoorGenA3
import Derived.Test.YtlfphifbmoccgaaGreatDoorGenA4
import Derived.Test.YtlfphifbmoccgaaGreatDoorGenA5
import Derived.Test.YtlfphifbmoccgaaGreatDoorGenR1
import Derived.Test.YtlfphifbmoccgaaGreatDoorGenL1
import Derived.Test.YtlfphifbmoccgaaGreatDoorGenabA1
import Derived.Test.YtlfphifbmoccgaaGreatDoorGenabR1
import Derived.Test.YtlfphifbmoccgaaGreatDoorGenabL1
import Derived.Test.YtlfphifbmoccgaaGreatDoorP1
import Derived.Test.YtlfphifbmoccgaaGreatDoorP2
import Derived.Test.YtlfphifbmoccgaaGreatDoorPa1
import Derived.Test.YtlfphifbmoccgaaGreatDoorPab1
namespace Go.Proofs.YtlfphifbmoccgaaGreatDoor
open Go Go.RowKit Go.ChangeShapes Go.WideShapes Go.ChangeAt
set_option maxRecDepth 100000
theorem opn_3:Opn Tryz.prog 3 i64 (λx=>(-9223372036854775808≤x∧x≤9223372036854775807)):=Qq9 Tryz.underlying3
theorem Qi2:Opn Tryz.prog 184 u32 (λx=>(x<4294967296)):=Qtv uk32 Tryz.underlying184
theorem Qe5:Opn Tryz.prog 32 (λxs:List Nat=>sli 1 (xs.map u32)) Qmb:=Z2 Tryz.underlying32 (by as_aux_lemma=>kernel_rfl) rfl (λ_=>rfl) Qi2
theorem opn_4:Opn Tryz.prog 4 bl (λ_=>True):=Qtw Tryz.underlying4
theorem Yz:Opn Tryz.prog 34 (λx:Qc=>.agg [bl x.Neg,Zo x.N,Zo x.D]) J1:=Ko (fl:=[(4,0,1),(32,1,1),(32,2,1)]) (λy=>(⟨y.1,y.2.1,y.2.2.1⟩:Qc)) Tryz.underlying34 (by as_aux_lemma=>kernel_rfl) (by as_aux_lemma=>kernel_rfl) (Qp opn_4 (Qp Qe5 (Qp Qe5 (K6)))) (λ_=>rfl) (λy h=>⟨h.1,h.2.1,h.2.2.1,trivial⟩)
theorem V4:Opn Tryz.prog 26 (λxs:List Qc=>sli 3 (xs.map Qe)) Q6:=Z2 Tryz.underlying26 (by as_aux_lemma=>kernel_rfl) rfl (λ_=>rfl) Yz
theorem Qpl:Opn Tryz.prog 27 (λxs:List (List Qc)=>sli 1 (xs.map Ql)) Zd:=Z2 Tryz.underlying27 (by as_aux_lemma=>kernel_rfl) rfl (λ_=>rfl) V4
theorem opn_9:Opn Tryz.prog 9 str (λs=>s.length≤maxLen):=Qvg Tryz.underlying9
theorem Qpm:Opn Tryz.prog 29 (λx:Jd=>.agg [str x.Name,Ql x.C,W0 x.A,Ql x.B,Ql x.E]) Z5:=Ko (fl:=[(9,0,1),(26,1,1),(27,2,1),(26,3,1),(26,4,1)]) (λy=>(⟨y.1,y.2.1,y.2.2.1,y.2.2.2.1,y.2.2.2.2.1⟩:Jd)) Tryz.underlying29 (by as_aux_lemma=>kernel_rfl) (by as_aux_lemma=>kernel_rfl) (Qp opn_9 (Qp V4 (Qp Qpl (Qp V4 (Qp V4 (K6)))))) (λ_=>rfl) (λy h=>⟨h.1,h.2.1,h.2.2.1,h.2.2.2.1,h.2.2.2.2.1,trivial⟩)
theorem Qpn:Opn Tryz.prog 23 (λxs:List Int=>sli 1 (xs.map i64)) Qra:=Z2 Tryz.underlying23 (by as_aux_lemma=>kernel_rfl) rfl (λ_=>rfl) opn_3
theorem Qmu:Opn Tryz.prog 250 (λx:Jk=>.agg [i64 x.Op,i64 x.A,i64 x.B,Qe x.N]) Qay:=Ko (fl:=[(3,0,1),(3,1,1),(3,2,1),(34,3,3)]) (λy=>(⟨y.1,y.2.1,y.2.2.1,y.2.2.2.1⟩:Jk)) Tryz.underlying250 (by as_aux_lemma=>kernel_rfl) (by as_aux_lemma=>kernel_rfl) (Qp opn_3 (Qp opn_3 (Qp opn_3 (Qp Yz (K6))))) (λ_=>rfl) (λy h=>⟨h.1,h.2.1,h.2.2.1,h.2.2.2.1,trivial⟩)
theorem Qpo:Opn Tryz.prog 22 (λxs:List Jk=>sli 6 (xs.map Yc)) Z4:=Z2 Tryz.underlying22 (by as_aux_lemma=>kernel_rfl) rfl (λ_=>rfl) Qmu
theorem Qpp:Opn Tryz.prog 25 (λx:Jl=>.agg [Qab x.Code,Qoh x.Outs,i64 x.Dim,i64 x.Par]) Qaz:=Ko (fl:=[(22,0,1),(23,1,1),(3,2,1),(3,3,1)]) (λy=>(⟨y.1,y.2.1,y.2.2.1,y.2.2.2.1⟩:Jl)) Tryz.underlying25 (by as_aux_lemma=>kernel_rfl) (by as_aux_lemma=>kernel_rfl) (Qp Qpo (Qp Qpn (Qp opn_3 (Qp opn_3 (K6))))) (λ_=>rfl) (λy h=>⟨h.1,h.2.1,h.2.2.1,h.2.2.2.1,trivial⟩)
theorem Qpq:Opn Tryz.prog 31 (λx:Qx=>.agg [K2 x.Tape,Vh x.Scheme,Ql x.P,i64 x.Bits]) Vv:=Ko (fl:=[(25,0,4),(29,4,5),(26,9,1),(3,10,1)]) (λy=>(⟨y.1,y.2.1,y.2.2.1,y.2.2.2.1⟩:Qx)) Tryz.underlying31 (by as_aux_lemma=>kernel_rfl) (by as_aux_lemma=>kernel_rfl) (Qp Qpp (Qp Qpm (Qp V4 (Qp opn_3 (K6))))) (λ_=>rfl) (λy h=>⟨h.1,h.2.1,h.2.2.1,h.2.2.2.1,trivial⟩)
theorem Jce:Opn Tryz.prog 220 (λx:Jr=>.agg [Qe x.T,Qe x.Want,Qe x.H,Qe x.Err,Ql x.Y,bl x.Ok]) Qf5:=Ko (fl:=[(34,0,3),(34,3,3),(34,6,3),(34,9,3),(26,12,1),(4,13,1)]) (λy=>(⟨y.1,y.2.1,y.2.2.1,y.2.2.2.1,y.2.2.2.2.1,y.2.2.2.2.2.1⟩:Jr)) Tryz.underlying220 (by as_aux_lemma=>kernel_rfl) (by as_aux_lemma=>kernel_rfl) (Qp Yz (Qp Yz (Qp Yz (Qp Yz (Qp V4 (Qp opn_4 (K6))))))) (λ_=>rfl) (λy h=>⟨h.1,h.2.1,h.2.2.1,h.2.2.2.1,h.2.2.2.2.1,h.2.2.2.2.2.1,trivial⟩)
theorem Jcf:Opn Tryz.prog 119 (λxs:List Jr=>sli 14 (xs.map Qbi)) Qi3:=Z2 Tryz.underlying119 (by as_aux_lemma=>kernel_rfl) rfl (λ_=>rfl) Jce
theorem Jcg:Opn Tryz.prog 121 (λx:Ja=>.agg [Qi7 x.Tries,Qe x.T,Ql x.Y]) Qho:=Ko (fl:=[(119,0,1),(34,1,3),(26,4,1)]) (λy=>(⟨y.1,y.2.1,y.2.2.1⟩:Ja)) Tryz.underlying121 (by as_aux_lemma=>kernel_rfl) (by as_aux_lemma=>kernel_rfl) (Qp Jcf (Qp Yz (Qp V4 (K6)))) (λ_=>rfl) (λy h=>⟨h.1,h.2.1,h.2.2.1,trivial⟩)
theorem Qpr:Opn Tryz.prog 38 (λx:Kt=>.agg [Ql x.U,Ql x.V]) Qag:=Ko (fl:=[(26,0,1),(26,1,1)]) (λy=>(⟨y.1,y.2.1⟩:Kt)) Tryz.underlying38 (by as_aux_lemma=>kernel_rfl) (by as_aux_lemma=>kernel_rfl) (Qp V4 (Qp V4 (K6))) (λ_=>rfl) (λy h=>⟨h.1,h.2.1,trivial⟩)
theorem Q4y:Opn Tryz.prog 80 (λx:Vr=>.agg [Xb x.a0,Xb x.a1]) Qb4:=Qp4 (fl:=[(38,0,2),(38,2,2)]) (λy=>(⟨y.1,y.2.1⟩:Vr)) Tryz.underlying80 (by as_aux_lemma=>kernel_rfl) (by as_aux_lemma=>kernel_rfl) (Qp Qpr (Qp Qpr (K6))) (λ_=>rfl) (λy h=>⟨h.1,h.2.1,trivial⟩)
theorem Qva(os:Os)(started:os.Started)(H:Type)(enc:TypeId×Value->H):
 ReturnsInHanded {} Tryz.checked os 10 .any (λw args=>(Rows.alongLinearSpec.pre enc Tryz.prog Tryz.f10 [] false w args∧laidMetH Tryz.prog Rows.alongLinearRow.laid w)∧sizedMet enc Tryz.prog Tryz.f10 (OpenSpec.ofChange Rows.alongLinearSpec) false w args) (Rows.alongLinearSpec.post enc Tryz.prog Tryz.f10 false true false false):=by
 refine returnsS (C:=Tryz.checked) (X:=λw _=>laidMetH Tryz.prog Rows.alongLinearRow.laid w) (λ_ _ _ hh h=>h.of_heap hh) ownK started (by as_aux_lemma=>kernel_rfl) Tryz.func10
  (ChangeSpec.witness_shaped (enc:=enc) (C:=Tryz.checked) (os:=os) (X:=λw _=>laidMetH Tryz.prog Rows.alongLinearRow.laid w) false (World.laidAll Tryz.prog os Rows.alongLinearRow.laid) #[.agg #[.slice none 0 0,.slice none 0 0,.int .i64 0,.int .i64 0,.string ⟨#[]⟩,.slice none 0 0,.slice none 0 0,.slice none 0 0,.slice none 0 0,.slice none 0 0,.int .i64 0],.agg #[.slice none 0 0,.bool false,.slice none 0 0,.slice none 0 0,.slice none 0 0],.agg #[.slice none 0 0,.slice none 0 0,.slice none 0 0,.slice none 0 0],.agg #[.bool false,.slice none 0 0,.slice none 0 0]] 40 (World.laidAll_os _ _ _)
   (World.shaped_of_ZipB (by as_aux_lemma=>kernel_rfl) (by as_aux_lemma=>kernel_rfl)) (by as_aux_lemma=>kernel_rfl) (by as_aux_lemma=>kernel_rfl) (by as_aux_lemma=>kernel_rfl)
   (by rw[MakeChecks.laidMetH_plain _ _ _ (by as_aux_lemma=>kernel_rfl)];exact laidMet_laidAll _ (by as_aux_lemma=>kernel_rfl) (by as_aux_lemma=>kernel_rfl))) ?_
 intro W base args ds gs before hval0 hW hc _ hL hsh _;have hval:∀(j:Nat) t v,Tryz.f10.params[j]?=some t->args[j]?=some v->Value.okWide Tryz.prog W .any base t v:=hval0;have hW':=hW;obtain⟨p,q,hA0,hV,rfl,_,_⟩:=hW;have hA:DataW.TrodAll enc Tryz.prog W 0 (λ_=>true) true Tryz.f10.params.toList args.toList ds p:=hA0;rw[Tryz.params10] at hA hval;obtain⟨v0,v1,v2,v3,d0,d1,d2,d3,p0,p1,p2,p3,rfl,rfl,rfl,h0,h1,h2,h3⟩:=trodAll_four hA;obtain⟨rfl,rfl⟩:=trodVars_none hV;obtain⟨y0,hy0,b0⟩:=Z3 Qpq (.inl ⟨_,Tryz.underlying31⟩) (hval 0 31 v0 rfl rfl) h0;obtain⟨y1,hy1,b1⟩:=Z3 Jcg (.inl ⟨_,Tryz.underlying121⟩) (hval 1 121 v1 rfl rfl) h1;obtain⟨y2,hy2,b2⟩:=Z3 Q4y (.inr ⟨_,_,Tryz.underlying80⟩) (hval 2 80 v2 rfl rfl) h2;obtain⟨y3,hy3,b3⟩:=Z3 Yz (.inl ⟨_,Tryz.underlying34⟩) (hval 3 34 v3 rfl rfl) h3;obtain⟨n,hn⟩:∃ n,Yh n y0 y1 y2 y3=some true:=Qyx y0 y1 y2 y3 b0 b1 b2 b3;have hF:=Ql4 _ hn;have hS:∀ b,Sx S0n g0n [] b->S0n b:=λb h=>by rcases h with h | ⟨_,_,_,h,_⟩;exact h;cases h
 refine(hF.2 W S0n g0n #[v0,v1,v2,v3] (λ_ h=>h.elim) (λ_ _=>rfl) (λ_ _ h=>by cases h) (λ_ _ _ _ _ _ _ h=>by cases h) (λ_ ⟨_,_,_,h,_⟩=>by cases h) ⟨v0,[v1,v2,v3],rfl,Ly.val_mono (Kp.refl _ _) (λb h=>.inl (hS b h)) (Ng.refl _) _ _ hy0,⟨v1,[v2,v3],rfl,Ly.val_mono (Kp.refl _ _) (λb h=>.inl (hS b h)) (Ng.refl _) _ _ hy1,⟨v2,[v3],rfl,Ly.val_mono (Kp.refl _ _) (λb h=>.inl (hS b h)) (Ng.refl _) _ _ hy2,⟨v3,[],rfl,Ly.val_mono (Kp.refl _ _) (λb h=>.inl (hS b h)) (Ng.refl _) _ _ hy3,rfl⟩⟩⟩⟩ (Qos (λb h=>hS b h) hsh)).mono ?_;rintro e W' ⟨v,γ',rfl,hb⟩;have hv:v=.bool true:=hb.res;subst hv;have hbel:Below W.heap.size W W':=⟨hb.os,hb.tape,hb.output,hb.grow,λk hk=>hb.old k hk (λ⟨_,_,_,h,_⟩=>by cases h)⟩
 simp only[List.append_nil] at hW';refine⟨_,rfl,Qfy (pa:=p0++p1++p2++p3) (pv:=[]) hW' hbel (λ_ _ _=>trodAll_mk1 (shut_bool Tryz.underlying4 _)) (λsp hsp=>by rw[show p0++p1++p2++p3=p0++(p1++(p2++(p3))) by simp only[List.append_assoc]];exact trodAll_mk4 (WideElems.Trod_stays laidOutK (by as_aux_lemma=>kernel_rfl) (of_decide_eq_true (by as_aux_lemma=>kernel_rfl)) h0 (λx hx=>hbel.same (hW'.lt x (List.mem_append_left _ (List.mem_append_left _ (List.mem_append_left _ (hx)))))) (λx hx=>hsp x (List.mem_append_left _ (List.mem_append_left _ (List.mem_append_left _ (hx)))))) (WideElems.Trod_stays laidOutK (by as_aux_lemma=>kernel_rfl) (of_decide_eq_true (by as_aux_lemma=>kernel_rfl)) h1 (λx hx=>hbel.same (hW'.lt x (List.mem_append_left _ (List.mem_append_left _ (List.mem_append_right _ (hx)))))) (λx hx=>hsp x (List.mem_append_left _ (List.mem_append_left _ (List.mem_append_right _ (hx)))))) (WideElems.Trod_stays laidOutK (by as_aux_lemma=>kernel_rfl) (of_decide_eq_true (by as_aux_lemma=>kernel_rfl)) h2 (λx hx=>hbel.same (hW'.lt x (List.mem_append_left _ (List.mem_append_right _ (hx))))) (λx hx=>hsp x (List.mem_append_left _ (List.mem_append_right _ (hx))))) (WideElems.Trod_stays laidOutK (by as_aux_lemma=>kernel_rfl) (of_decide_eq_true (by as_aux_lemma=>kernel_rfl)) h3 (λx hx=>hbel.same (hW'.lt x (List.mem_append_right _ (hx)))) (λx hx=>hsp x (List.mem_append_right _ (hx))))) (λ_ _=>rfl) (by simp) (ok_one (by as_aux_lemma=>kernel_rfl) rfl (okWide_bool_mk Tryz.underlying4 _))⟩
end Go.Proofs.YtlfphifbmoccgaaGreatDoor
