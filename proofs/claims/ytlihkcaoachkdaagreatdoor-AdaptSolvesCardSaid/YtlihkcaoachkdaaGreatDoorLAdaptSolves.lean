import Derived.Test.YtlihkcaoachkdaaGreatDoorFrame
import Derived.Test.YtlihkcaoachkdaaGreatDoorGs
import Derived.Test.YtlihkcaoachkdaaGreatDoorGen0
import Derived.Test.YtlihkcaoachkdaaGreatDoorGenA1
import Derived.Test.YtlihkcaoachkdaaGreatDoorGenA2
import Derived.Test.YtlihkcaoachkdaaGreatDoorGenA3
import Derived.Test.YtlihkcaoachkdaaGreatDoorGenR1
import Derived.Test.YtlihkcaoachkdaaGreatDoorGenR2
import Derived.Test.YtlihkcaoachkdaaGreatDoorGenL1
import Derived.Test.YtlihkcaoachkdaaGreatDoorP3
import Derived.Test.YtlihkcaoachkdaaGreatDoorTie
import Derived.Test.YtlihkcaoachkdaaGreatDoorCards
import Derived.Lay
import Derived.Stop.Joined
import Derived.SevenTiedAt
namespace Go.Proofs.YtlihkcaoachkdaaGreatDoor
open Go Go.RowKit Go.ChangeShapes Go.WideShapes Go.ChangeAt
set_option maxRecDepth 100000
theorem Q8z:Opn Tryz.prog 189 u32 (λx=>(x<4294967296)):=Q9b uk32 Tryz.underlying189
theorem Q55:Opn Tryz.prog 32 (λxs:List Nat=>sli 1 (xs.map u32)) Qw5:=Qsf Tryz.underlying32 (by as_aux_lemma=>kernel_rfl) rfl (λ_=>rfl) Q8z
theorem opn_4:Opn Tryz.prog 4 bl (λ_=>True):=Q9c Tryz.underlying4
theorem Qid:Opn Tryz.prog 34 (λx:Qa=>.agg [bl x.Neg,Qc0 x.N,Qc0 x.D]) Km:=Qfh (fl:=[(4,0,1),(32,1,1),(32,2,1)]) (λy=>(⟨y.1,y.2.1,y.2.2.1⟩:Qa)) Tryz.underlying34 (by as_aux_lemma=>kernel_rfl) (by as_aux_lemma=>kernel_rfl) (Kb opn_4 (Kb Q55 (Kb Q55 (Qin)))) (λ_=>rfl) (λy h=>⟨h.1,h.2.1,h.2.2.1,trivial⟩)
theorem Qqw:Opn Tryz.prog 26 (λxs:List Qa=>sli 3 (xs.map Qc)) K0:=Qsf Tryz.underlying26 (by as_aux_lemma=>kernel_rfl) rfl (λ_=>rfl) Qid
theorem opn_3:Opn Tryz.prog 3 i64 (λx=>(-9223372036854775808≤x∧x≤9223372036854775807)):=Q7q Tryz.underlying3
theorem Jah:Opn Tryz.prog 36 (λx:Je=>.agg [Qc x.Tol,Qc x.Safe,Qc x.Low,Qc x.High,Qc x.Least,i64 x.Fine,i64 x.Most]) Qhp:=Qfh (fl:=[(34,0,3),(34,3,3),(34,6,3),(34,9,3),(34,12,3),(3,15,1),(3,16,1)]) (λy=>(⟨y.1,y.2.1,y.2.2.1,y.2.2.2.1,y.2.2.2.2.1,y.2.2.2.2.2.1,y.2.2.2.2.2.2.1⟩:Je)) Tryz.underlying36 (by as_aux_lemma=>kernel_rfl) (by as_aux_lemma=>kernel_rfl) (Kb Qid (Kb Qid (Kb Qid (Kb Qid (Kb Qid (Kb opn_3 (Kb opn_3 (Qin)))))))) (λ_=>rfl) (λy h=>⟨h.1,h.2.1,h.2.2.1,h.2.2.2.1,h.2.2.2.2.1,h.2.2.2.2.2.1,h.2.2.2.2.2.2.1,trivial⟩)
theorem Jai:Opn Tryz.prog 27 (λxs:List (List Qa)=>sli 1 (xs.map Qi)) Qfu:=Qsf Tryz.underlying27 (by as_aux_lemma=>kernel_rfl) rfl (λ_=>rfl) Qqw
theorem opn_9:Opn Tryz.prog 9 str (λs=>s.length≤maxLen):=Q7r Tryz.underlying9
theorem Jaj:Opn Tryz.prog 29 (λx:Q3=>.agg [str x.Name,Qi x.C,Qag x.A,Qi x.B,Qi x.E]) Qgo:=Qfh (fl:=[(9,0,1),(26,1,1),(27,2,1),(26,3,1),(26,4,1)]) (λy=>(⟨y.1,y.2.1,y.2.2.1,y.2.2.2.1,y.2.2.2.2.1⟩:Q3)) Tryz.underlying29 (by as_aux_lemma=>kernel_rfl) (by as_aux_lemma=>kernel_rfl) (Kb opn_9 (Kb Qqw (Kb Jai (Kb Qqw (Kb Qqw (Qin)))))) (λ_=>rfl) (λy h=>⟨h.1,h.2.1,h.2.2.1,h.2.2.2.1,h.2.2.2.2.1,trivial⟩)
theorem Jak:Opn Tryz.prog 23 (λxs:List Int=>sli 1 (xs.map i64)) Q2q:=Qsf Tryz.underlying23 (by as_aux_lemma=>kernel_rfl) rfl (λ_=>rfl) opn_3
theorem Q80:Opn Tryz.prog 232 (λx:Js=>.agg [i64 x.Op,i64 x.A,i64 x.B,Qc x.N]) Qhw:=Qfh (fl:=[(3,0,1),(3,1,1),(3,2,1),(34,3,3)]) (λy=>(⟨y.1,y.2.1,y.2.2.1,y.2.2.2.1⟩:Js)) Tryz.underlying232 (by as_aux_lemma=>kernel_rfl) (by as_aux_lemma=>kernel_rfl) (Kb opn_3 (Kb opn_3 (Kb opn_3 (Kb Qid (Qin))))) (λ_=>rfl) (λy h=>⟨h.1,h.2.1,h.2.2.1,h.2.2.2.1,trivial⟩)
theorem Jal:Opn Tryz.prog 22 (λxs:List Js=>sli 6 (xs.map J3)) Qgn:=Qsf Tryz.underlying22 (by as_aux_lemma=>kernel_rfl) rfl (λ_=>rfl) Q80
theorem Jam:Opn Tryz.prog 25 (λx:Q6=>.agg [Qg1 x.Code,Qw7 x.Outs,i64 x.Dim,i64 x.Par]) Qhx:=Qfh (fl:=[(22,0,1),(23,1,1),(3,2,1),(3,3,1)]) (λy=>(⟨y.1,y.2.1,y.2.2.1,y.2.2.2.1⟩:Q6)) Tryz.underlying25 (by as_aux_lemma=>kernel_rfl) (by as_aux_lemma=>kernel_rfl) (Kb Jal (Kb Jak (Kb opn_3 (Kb opn_3 (Qin))))) (λ_=>rfl) (λy h=>⟨h.1,h.2.1,h.2.2.1,h.2.2.2.1,trivial⟩)
theorem Jan:Opn Tryz.prog 31 (λx:Qv=>.agg [Jh x.Tape,Q8 x.Scheme,Qi x.P,i64 x.Bits]) Qaw:=Qfh (fl:=[(25,0,4),(29,4,5),(26,9,1),(3,10,1)]) (λy=>(⟨y.1,y.2.1,y.2.2.1,y.2.2.2.1⟩:Qv)) Tryz.underlying31 (by as_aux_lemma=>kernel_rfl) (by as_aux_lemma=>kernel_rfl) (Kb Jam (Kb Jaj (Kb Qqw (Kb opn_3 (Qin))))) (λ_=>rfl) (λy h=>⟨h.1,h.2.1,h.2.2.1,h.2.2.2.1,trivial⟩)
theorem Jao:Opn Tryz.prog 38 (λx:Q0=>.agg [Kd x.Problem,Kg x.Rules,Qc x.Start,Qc x.End,Qc x.First,Qi x.Y]) Qea:=Qfh (fl:=[(31,0,11),(36,11,17),(34,28,3),(34,31,3),(34,34,3),(26,37,1)]) (λy=>(⟨y.1,y.2.1,y.2.2.1,y.2.2.2.1,y.2.2.2.2.1,y.2.2.2.2.2.1⟩:Q0)) Tryz.underlying38 (by as_aux_lemma=>kernel_rfl) (by as_aux_lemma=>kernel_rfl) (Kb Jan (Kb Jah (Kb Qid (Kb Qid (Kb Qid (Kb Qqw (Qin))))))) (λ_=>rfl) (λy h=>⟨h.1,h.2.1,h.2.2.1,h.2.2.2.1,h.2.2.2.2.1,h.2.2.2.2.2.1,trivial⟩)
theorem Qte(os:Os)(started:os.Started)(H:Type)(enc:TypeId×Value->H):
 ReturnsInHanded {} Tryz.checked os 3 .any (λw args=>(Rows.adaptSolvesSpec.pre enc Tryz.prog Tryz.f3 [] false w args∧laidMetH Tryz.prog Rows.adaptSolvesRow.laid w)∧sizedMet enc Tryz.prog Tryz.f3 (OpenSpec.ofChange Rows.adaptSolvesSpec) false w args) (Rows.adaptSolvesSpec.post enc Tryz.prog Tryz.f3 false true false false):=by
 refine returnsS (C:=Tryz.checked) (X:=λw _=>laidMetH Tryz.prog Rows.adaptSolvesRow.laid w) (λ_ _ _ hh h=>h.of_heap hh) ownK started (by as_aux_lemma=>kernel_rfl) Tryz.func3
  (ChangeSpec.witness_shaped (enc:=enc) (C:=Tryz.checked) (os:=os) (X:=λw _=>laidMetH Tryz.prog Rows.adaptSolvesRow.laid w) false (World.laidAll Tryz.prog os Rows.adaptSolvesRow.laid) #[.agg #[.slice none 0 0,.slice none 0 0,.int .i64 0,.int .i64 0,.string ⟨#[]⟩,.slice none 0 0,.slice none 0 0,.slice none 0 0,.slice none 0 0,.slice none 0 0,.int .i64 0,.bool false,.slice none 0 0,.slice none 0 0,.bool false,.slice none 0 0,.slice none 0 0,.bool false,.slice none 0 0,.slice none 0 0,.bool false,.slice none 0 0,.slice none 0 0,.bool false,.slice none 0 0,.slice none 0 0,.int .i64 0,.int .i64 0,.bool false,.slice none 0 0,.slice none 0 0,.bool false,.slice none 0 0,.slice none 0 0,.bool false,.slice none 0 0,.slice none 0 0,.slice none 0 0]] 40 (World.laidAll_os _ _ _)
   (World.shaped_of_ZipB (by as_aux_lemma=>kernel_rfl) (by as_aux_lemma=>kernel_rfl)) (by as_aux_lemma=>kernel_rfl) (by as_aux_lemma=>kernel_rfl) (by as_aux_lemma=>kernel_rfl)
   (by rw[MakeChecks.laidMetH_plain _ _ _ (by as_aux_lemma=>kernel_rfl)];exact laidMet_laidAll _ (by as_aux_lemma=>kernel_rfl) (by as_aux_lemma=>kernel_rfl))) ?_
 intro W base args ds gs before hval0 hW hc _ hL hsh _
 have hval:∀(j:Nat) t v,Tryz.f3.params[j]?=some t->args[j]?=some v->Value.okWide Tryz.prog W .any base t v:=hval0
 have hW':=hW
 obtain⟨p,q,hA0,hV,rfl,_,_⟩:=hW
 have hA:DataW.TrodAll enc Tryz.prog W 0 (λ_=>true) true Tryz.f3.params.toList args.toList ds p:=hA0
 rw[Tryz.params3] at hA hval
 obtain⟨v0,d0,rfl,rfl,h0⟩:=trodAll_one hA
 obtain⟨rfl,rfl⟩:=trodVars_none hV
 obtain⟨y0,hy0,b0⟩:=Q6b Jao (.inl ⟨_,Tryz.underlying38⟩) (hval 0 38 v0 rfl rfl) h0
 obtain⟨n,hn⟩:∃ n,Xh n y0=some true:=Qw0 y0 b0
 have hF:=Qke _ hn
 have hS:∀ b,Sx S0n g0n [] b->S0n b:=λb h=>by rcases h with h | ⟨_,_,_,h,_⟩;exact h;cases h
 refine(hF.2 W S0n g0n #[v0] (λ_ h=>h.elim) (λ_ _=>rfl) (λ_ _ h=>by cases h) (λ_ _ _ _ _ _ _ h=>by cases h) (λ_ ⟨_,_,_,h,_⟩=>by cases h) ⟨v0,[],rfl,Ly.val_mono (Kp.refl _ _) (λb h=>.inl (hS b h)) (Ng.refl _) _ _ hy0,rfl⟩ (Q6d (λb h=>hS b h) hsh)).mono ?_
 rintro e W' ⟨v,γ',rfl,hb⟩
 have hv:v=.bool true:=hb.res
 subst hv
 have hbel:Below W.heap.size W W':=⟨hb.os,hb.tape,hb.output,hb.grow,λk hk=>hb.old k hk (λ⟨_,_,_,h,_⟩=>by cases h)⟩
 simp only[List.append_nil] at hW'
 refine⟨_,rfl,Qw4 (pa:=p) (pv:=[]) hW' hbel (λ_ _ _=>trodAll_mk1 (shut_bool Tryz.underlying4 _)) (λsp hsp=>trodAll_mk1 (WideElems.Trod_stays laidOutK (by as_aux_lemma=>kernel_rfl) (of_decide_eq_true (by as_aux_lemma=>kernel_rfl)) h0 (λx hx=>hbel.same (hW'.lt x hx)) (hsp))) (λ_ _=>rfl) (by simp) (ok_one (by as_aux_lemma=>kernel_rfl) rfl (okWide_bool_mk Tryz.underlying4 _))⟩
end Go.Proofs.YtlihkcaoachkdaaGreatDoor
