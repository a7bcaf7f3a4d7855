import Derived.Test.YtlihkcaoachkdaaGreatDoorFrame
import Derived.Test.YtlihkcaoachkdaaGreatDoorGs
import Derived.Test.YtlihkcaoachkdaaGreatDoorGen0
import Derived.Test.YtlihkcaoachkdaaGreatDoorGenA1
import Derived.Test.YtlihkcaoachkdaaGreatDoorGenA2
import Derived.Test.YtlihkcaoachkdaaGreatDoorGenA3
import Derived.Test.YtlihkcaoachkdaaGreatDoorGenA4
import Derived.Test.YtlihkcaoachkdaaGreatDoorGenR1
import Derived.Test.YtlihkcaoachkdaaGreatDoorGenL1
import Derived.Test.YtlihkcaoachkdaaGreatDoorP2
import Derived.Test.YtlihkcaoachkdaaGreatDoorTie
import Derived.Test.YtlihkcaoachkdaaGreatDoorCards
import Derived.Lay
import Derived.Stop.Joined
import Derived.SevenTiedAt
namespace Go.Proofs.YtlihkcaoachkdaaGreatDoor
open Go Go.RowKit Go.ChangeShapes Go.WideShapes Go.ChangeAt
set_option maxRecDepth 100000
theorem Qyc:Opn Tryz.prog 189 u32 (λx=>(x<4294967296)):=Qyo uk32 Tryz.underlying189
theorem Qv5:Opn Tryz.prog 32 (λxs:List Nat=>sli 1 (xs.map u32)) Qn4:=Qkc Tryz.underlying32 (by as_aux_lemma=>kernel_rfl) rfl (λ_=>rfl) Qyc
theorem opn_4:Opn Tryz.prog 4 bl (λ_=>True):=Qyp Tryz.underlying4
theorem Qc7:Opn Tryz.prog 34 (λx:Qf=>.agg [bl x.Neg,Zf x.N,Zf x.D]) Jn:=Qar (fl:=[(4,0,1),(32,1,1),(32,2,1)]) (λy=>(⟨y.1,y.2.1,y.2.2.1⟩:Qf)) Tryz.underlying34 (by as_aux_lemma=>kernel_rfl) (by as_aux_lemma=>kernel_rfl) (Ji opn_4 (Ji Qv5 (Ji Qv5 (Qde)))) (λ_=>rfl) (λy h=>⟨h.1,h.2.1,h.2.2.1,trivial⟩)
theorem Qix:Opn Tryz.prog 26 (λxs:List Qf=>sli 3 (xs.map Qo)) Ka:=Qkc Tryz.underlying26 (by as_aux_lemma=>kernel_rfl) rfl (λ_=>rfl) Qc7
theorem opn_3:Opn Tryz.prog 3 i64 (λx=>(-9223372036854775808≤x∧x≤9223372036854775807)):=Qxd Tryz.underlying3
theorem Qzo:Opn Tryz.prog 36 (λx:J1=>.agg [Qo x.Tol,Qo x.Safe,Qo x.Low,Qo x.High,Qo x.Least,i64 x.Fine,i64 x.Most]) Qcq:=Qar (fl:=[(34,0,3),(34,3,3),(34,6,3),(34,9,3),(34,12,3),(3,15,1),(3,16,1)]) (λy=>(⟨y.1,y.2.1,y.2.2.1,y.2.2.2.1,y.2.2.2.2.1,y.2.2.2.2.2.1,y.2.2.2.2.2.2.1⟩:J1)) Tryz.underlying36 (by as_aux_lemma=>kernel_rfl) (by as_aux_lemma=>kernel_rfl) (Ji Qc7 (Ji Qc7 (Ji Qc7 (Ji Qc7 (Ji Qc7 (Ji opn_3 (Ji opn_3 (Qde)))))))) (λ_=>rfl) (λy h=>⟨h.1,h.2.1,h.2.2.1,h.2.2.2.1,h.2.2.2.2.1,h.2.2.2.2.2.1,h.2.2.2.2.2.2.1,trivial⟩)
theorem Qzp:Opn Tryz.prog 27 (λxs:List (List Qf)=>sli 1 (xs.map Q5)) Qa5:=Qkc Tryz.underlying27 (by as_aux_lemma=>kernel_rfl) rfl (λ_=>rfl) Qix
theorem opn_9:Opn Tryz.prog 9 str (λs=>s.length≤maxLen):=Qxe Tryz.underlying9
theorem Qzq:Opn Tryz.prog 29 (λx:Js=>.agg [str x.Name,Q5 x.C,Qbb x.A,Q5 x.B,Q5 x.E]) Qby:=Qar (fl:=[(9,0,1),(26,1,1),(27,2,1),(26,3,1),(26,4,1)]) (λy=>(⟨y.1,y.2.1,y.2.2.1,y.2.2.2.1,y.2.2.2.2.1⟩:Js)) Tryz.underlying29 (by as_aux_lemma=>kernel_rfl) (by as_aux_lemma=>kernel_rfl) (Ji opn_9 (Ji Qix (Ji Qzp (Ji Qix (Ji Qix (Qde)))))) (λ_=>rfl) (λy h=>⟨h.1,h.2.1,h.2.2.1,h.2.2.2.1,h.2.2.2.2.1,trivial⟩)
theorem Qzr:Opn Tryz.prog 23 (λxs:List Int=>sli 1 (xs.map i64)) Qtb:=Qkc Tryz.underlying23 (by as_aux_lemma=>kernel_rfl) rfl (λ_=>rfl) opn_3
theorem Qyd:Opn Tryz.prog 232 (λx:Jr=>.agg [i64 x.Op,i64 x.A,i64 x.B,Qo x.N]) Qcv:=Qar (fl:=[(3,0,1),(3,1,1),(3,2,1),(34,3,3)]) (λy=>(⟨y.1,y.2.1,y.2.2.1,y.2.2.2.1⟩:Jr)) Tryz.underlying232 (by as_aux_lemma=>kernel_rfl) (by as_aux_lemma=>kernel_rfl) (Ji opn_3 (Ji opn_3 (Ji opn_3 (Ji Qc7 (Qde))))) (λ_=>rfl) (λy h=>⟨h.1,h.2.1,h.2.2.1,h.2.2.2.1,trivial⟩)
theorem Qzs:Opn Tryz.prog 22 (λxs:List Jr=>sli 6 (xs.map Xx)) Qbx:=Qkc Tryz.underlying22 (by as_aux_lemma=>kernel_rfl) rfl (λ_=>rfl) Qyd
theorem Qzt:Opn Tryz.prog 25 (λx:Jx=>.agg [Qcd x.Code,Qn6 x.Outs,i64 x.Dim,i64 x.Par]) Qcw:=Qar (fl:=[(22,0,1),(23,1,1),(3,2,1),(3,3,1)]) (λy=>(⟨y.1,y.2.1,y.2.2.1,y.2.2.2.1⟩:Jx)) Tryz.underlying25 (by as_aux_lemma=>kernel_rfl) (by as_aux_lemma=>kernel_rfl) (Ji Qzs (Ji Qzr (Ji opn_3 (Ji opn_3 (Qde))))) (λ_=>rfl) (λy h=>⟨h.1,h.2.1,h.2.2.1,h.2.2.2.1,trivial⟩)
theorem Qzu:Opn Tryz.prog 31 (λx:Q8=>.agg [Kr x.Tape,Vh x.Scheme,Q5 x.P,i64 x.Bits]) Yg:=Qar (fl:=[(25,0,4),(29,4,5),(26,9,1),(3,10,1)]) (λy=>(⟨y.1,y.2.1,y.2.2.1,y.2.2.2.1⟩:Q8)) Tryz.underlying31 (by as_aux_lemma=>kernel_rfl) (by as_aux_lemma=>kernel_rfl) (Ji Qzt (Ji Qzq (Ji Qix (Ji opn_3 (Qde))))) (λ_=>rfl) (λy h=>⟨h.1,h.2.1,h.2.2.1,h.2.2.2.1,trivial⟩)
theorem Qzv:Opn Tryz.prog 38 (λx:Jg=>.agg [W6 x.Problem,Xp x.Rules,Qo x.Start,Qo x.End,Qo x.First,Q5 x.Y]) Zy:=Qar (fl:=[(31,0,11),(36,11,17),(34,28,3),(34,31,3),(34,34,3),(26,37,1)]) (λy=>(⟨y.1,y.2.1,y.2.2.1,y.2.2.2.1,y.2.2.2.2.1,y.2.2.2.2.2.1⟩:Jg)) Tryz.underlying38 (by as_aux_lemma=>kernel_rfl) (by as_aux_lemma=>kernel_rfl) (Ji Qzu (Ji Qzo (Ji Qc7 (Ji Qc7 (Ji Qc7 (Ji Qix (Qde))))))) (λ_=>rfl) (λy h=>⟨h.1,h.2.1,h.2.2.1,h.2.2.2.1,h.2.2.2.2.1,h.2.2.2.2.2.1,trivial⟩)
theorem Qmj(os:Os)(started:os.Started)(H:Type)(enc:TypeId×Value->H):
 ReturnsInHanded {} Tryz.checked os 5 .any (λw args=>(Rows.adaptEndsSpec.pre enc Tryz.prog Tryz.f5 [] false w args∧laidMetH Tryz.prog Rows.adaptEndsRow.laid w)∧sizedMet enc Tryz.prog Tryz.f5 (OpenSpec.ofChange Rows.adaptEndsSpec) false w args) (Rows.adaptEndsSpec.post enc Tryz.prog Tryz.f5 false true false false):=by
 refine returnsS (C:=Tryz.checked) (X:=λw _=>laidMetH Tryz.prog Rows.adaptEndsRow.laid w) (λ_ _ _ hh h=>h.of_heap hh) ownK started (by as_aux_lemma=>kernel_rfl) Tryz.func5
  (ChangeSpec.witness_shaped (enc:=enc) (C:=Tryz.checked) (os:=os) (X:=λw _=>laidMetH Tryz.prog Rows.adaptEndsRow.laid w) false (World.laidAll Tryz.prog os Rows.adaptEndsRow.laid) #[.agg #[.slice none 0 0,.slice none 0 0,.int .i64 0,.int .i64 0,.string ⟨#[]⟩,.slice none 0 0,.slice none 0 0,.slice none 0 0,.slice none 0 0,.slice none 0 0,.int .i64 0,.bool false,.slice none 0 0,.slice none 0 0,.bool false,.slice none 0 0,.slice none 0 0,.bool false,.slice none 0 0,.slice none 0 0,.bool false,.slice none 0 0,.slice none 0 0,.bool false,.slice none 0 0,.slice none 0 0,.int .i64 0,.int .i64 0,.bool false,.slice none 0 0,.slice none 0 0,.bool false,.slice none 0 0,.slice none 0 0,.bool false,.slice none 0 0,.slice none 0 0,.slice none 0 0]] 40 (World.laidAll_os _ _ _)
   (World.shaped_of_ZipB (by as_aux_lemma=>kernel_rfl) (by as_aux_lemma=>kernel_rfl)) (by as_aux_lemma=>kernel_rfl) (by as_aux_lemma=>kernel_rfl) (by as_aux_lemma=>kernel_rfl)
   (by rw[MakeChecks.laidMetH_plain _ _ _ (by as_aux_lemma=>kernel_rfl)];exact laidMet_laidAll _ (by as_aux_lemma=>kernel_rfl) (by as_aux_lemma=>kernel_rfl))) ?_
 intro W base args ds gs before hval0 hW hc _ hL hsh _
 have hval:∀(j:Nat) t v,Tryz.f5.params[j]?=some t->args[j]?=some v->Value.okWide Tryz.prog W .any base t v:=hval0
 have hW':=hW
 obtain⟨p,q,hA0,hV,rfl,_,_⟩:=hW
 have hA:DataW.TrodAll enc Tryz.prog W 0 (λ_=>true) true Tryz.f5.params.toList args.toList ds p:=hA0
 rw[Tryz.params5] at hA hval
 obtain⟨v0,d0,rfl,rfl,h0⟩:=trodAll_one hA
 obtain⟨rfl,rfl⟩:=trodVars_none hV
 obtain⟨y0,hy0,b0⟩:=Qwb Qzv (.inl ⟨_,Tryz.underlying38⟩) (hval 0 38 v0 rfl rfl) h0
 obtain⟨n,hn⟩:∃ n,Vk n y0=some true:=Qqy y0 b0
 have hF:=Qfu _ hn
 have hS:∀ b,Sx S0n g0n [] b->S0n b:=λb h=>by rcases h with h | ⟨_,_,_,h,_⟩;exact h;cases h
 refine(hF.2 W S0n g0n #[v0] (λ_ h=>h.elim) (λ_ _=>rfl) (λ_ _ h=>by cases h) (λ_ _ _ _ _ _ _ h=>by cases h) (λ_ ⟨_,_,_,h,_⟩=>by cases h) ⟨v0,[],rfl,Ly.val_mono (Kp.refl _ _) (λb h=>.inl (hS b h)) (Ng.refl _) _ _ hy0,rfl⟩ (Qwd (λb h=>hS b h) hsh)).mono ?_
 rintro e W' ⟨v,γ',rfl,hb⟩
 have hv:v=.bool true:=hb.res
 subst hv
 have hbel:Below W.heap.size W W':=⟨hb.os,hb.tape,hb.output,hb.grow,λk hk=>hb.old k hk (λ⟨_,_,_,h,_⟩=>by cases h)⟩
 simp only[List.append_nil] at hW'
 refine⟨_,rfl,Qn3 (pa:=p) (pv:=[]) hW' hbel (λ_ _ _=>trodAll_mk1 (shut_bool Tryz.underlying4 _)) (λsp hsp=>trodAll_mk1 (WideElems.Trod_stays laidOutK (by as_aux_lemma=>kernel_rfl) (of_decide_eq_true (by as_aux_lemma=>kernel_rfl)) h0 (λx hx=>hbel.same (hW'.lt x hx)) (hsp))) (λ_ _=>rfl) (by simp) (ok_one (by as_aux_lemma=>kernel_rfl) rfl (okWide_bool_mk Tryz.underlying4 _))⟩
end Go.Proofs.YtlihkcaoachkdaaGreatDoor
