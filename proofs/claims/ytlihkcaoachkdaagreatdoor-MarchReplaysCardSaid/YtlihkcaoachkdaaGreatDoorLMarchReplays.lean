import Derived.Test.YtlihkcaoachkdaaGreatDoorFrame
import Derived.Test.YtlihkcaoachkdaaGreatDoorGs
import Derived.Test.YtlihkcaoachkdaaGreatDoorGen0
import Derived.Test.YtlihkcaoachkdaaGreatDoorGenA1
import Derived.Test.YtlihkcaoachkdaaGreatDoorGenA2
import Derived.Test.YtlihkcaoachkdaaGreatDoorGenA3
import Derived.Test.YtlihkcaoachkdaaGreatDoorGenA4
import Derived.Test.YtlihkcaoachkdaaGreatDoorGenR1
import Derived.Test.YtlihkcaoachkdaaGreatDoorGenR2
import Derived.Test.YtlihkcaoachkdaaGreatDoorGenL1
import Derived.Test.YtlihkcaoachkdaaGreatDoorP3
import Derived.Test.YtlihkcaoachkdaaGreatDoorTie
import Derived.Test.YtlihkcaoachkdaaGreatDoorCards
import Derived.Lay
import Derived.Stop.Joined
import Derived.SevenTiedAt
namespace Go.Proofs.YtlihkcaoachkdaaGreatDoor
open Go Go.RowKit Go.ChangeShapes Go.WideShapes Go.ChangeAt
set_option maxRecDepth 100000
theorem opn_3:Opn Tryz.prog 3 i64 (λx=>(-9223372036854775808≤x∧x≤9223372036854775807)):=Q6g Tryz.underlying3
theorem Q7q:Opn Tryz.prog 189 u32 (λx=>(x<4294967296)):=Q75 uk32 Tryz.underlying189
theorem Q45:Opn Tryz.prog 32 (λxs:List Nat=>sli 1 (xs.map u32)) Qvi:=Qoh Tryz.underlying32 (by as_aux_lemma=>kernel_rfl) rfl (λ_=>rfl) Q7q
theorem opn_4:Opn Tryz.prog 4 bl (λ_=>True):=Q76 Tryz.underlying4
theorem Qmn:Opn Tryz.prog 34 (λx:Qa=>.agg [bl x.Neg,Qbz x.N,Qbz x.D]) K9:=Qed (fl:=[(4,0,1),(32,1,1),(32,2,1)]) (λy=>(⟨y.1,y.2.1,y.2.2.1⟩:Qa)) Tryz.underlying34 (by as_aux_lemma=>kernel_rfl) (by as_aux_lemma=>kernel_rfl) (Ke opn_4 (Ke Q45 (Ke Q45 (Qhg)))) (λ_=>rfl) (λy h=>⟨h.1,h.2.1,h.2.2.1,trivial⟩)
theorem Qmo:Opn Tryz.prog 26 (λxs:List Qa=>sli 3 (xs.map Qc)) J2:=Qoh Tryz.underlying26 (by as_aux_lemma=>kernel_rfl) rfl (λ_=>rfl) Qmn
theorem Q9c:Opn Tryz.prog 27 (λxs:List (List Qa)=>sli 1 (xs.map Qg)) Qep:=Qoh Tryz.underlying27 (by as_aux_lemma=>kernel_rfl) rfl (λ_=>rfl) Qmo
theorem opn_9:Opn Tryz.prog 9 str (λs=>s.length≤maxLen):=Q6h Tryz.underlying9
theorem Q9d:Opn Tryz.prog 29 (λx:Ja=>.agg [str x.Name,Qg x.C,Zk x.A,Qg x.B,Qg x.E]) Qfn:=Qed (fl:=[(9,0,1),(26,1,1),(27,2,1),(26,3,1),(26,4,1)]) (λy=>(⟨y.1,y.2.1,y.2.2.1,y.2.2.2.1,y.2.2.2.2.1⟩:Ja)) Tryz.underlying29 (by as_aux_lemma=>kernel_rfl) (by as_aux_lemma=>kernel_rfl) (Ke opn_9 (Ke Qmo (Ke Q9c (Ke Qmo (Ke Qmo (Qhg)))))) (λ_=>rfl) (λy h=>⟨h.1,h.2.1,h.2.2.1,h.2.2.2.1,h.2.2.2.2.1,trivial⟩)
theorem Q9e:Opn Tryz.prog 23 (λxs:List Int=>sli 1 (xs.map i64)) Q1n:=Qoh Tryz.underlying23 (by as_aux_lemma=>kernel_rfl) rfl (λ_=>rfl) opn_3
theorem Q7r:Opn Tryz.prog 232 (λx:Jp=>.agg [i64 x.Op,i64 x.A,i64 x.B,Qc x.N]) Qgq:=Qed (fl:=[(3,0,1),(3,1,1),(3,2,1),(34,3,3)]) (λy=>(⟨y.1,y.2.1,y.2.2.1,y.2.2.2.1⟩:Jp)) Tryz.underlying232 (by as_aux_lemma=>kernel_rfl) (by as_aux_lemma=>kernel_rfl) (Ke opn_3 (Ke opn_3 (Ke opn_3 (Ke Qmn (Qhg))))) (λ_=>rfl) (λy h=>⟨h.1,h.2.1,h.2.2.1,h.2.2.2.1,trivial⟩)
theorem Q9f:Opn Tryz.prog 22 (λxs:List Jp=>sli 6 (xs.map Jt)) Qfm:=Qoh Tryz.underlying22 (by as_aux_lemma=>kernel_rfl) rfl (λ_=>rfl) Q7r
theorem Q9g:Opn Tryz.prog 25 (λx:Jc=>.agg [Qfy x.Code,Qvk x.Outs,i64 x.Dim,i64 x.Par]) Qgr:=Qed (fl:=[(22,0,1),(23,1,1),(3,2,1),(3,3,1)]) (λy=>(⟨y.1,y.2.1,y.2.2.1,y.2.2.2.1⟩:Jc)) Tryz.underlying25 (by as_aux_lemma=>kernel_rfl) (by as_aux_lemma=>kernel_rfl) (Ke Q9f (Ke Q9e (Ke opn_3 (Ke opn_3 (Qhg))))) (λ_=>rfl) (λy h=>⟨h.1,h.2.1,h.2.2.1,h.2.2.2.1,trivial⟩)
theorem Q9h:Opn Tryz.prog 31 (λx:Qt=>.agg [Je x.Tape,Q8 x.Scheme,Qg x.P,i64 x.Bits]) Z1:=Qed (fl:=[(25,0,4),(29,4,5),(26,9,1),(3,10,1)]) (λy=>(⟨y.1,y.2.1,y.2.2.1,y.2.2.2.1⟩:Qt)) Tryz.underlying31 (by as_aux_lemma=>kernel_rfl) (by as_aux_lemma=>kernel_rfl) (Ke Q9g (Ke Q9d (Ke Qmo (Ke opn_3 (Qhg))))) (λ_=>rfl) (λy h=>⟨h.1,h.2.1,h.2.2.1,h.2.2.2.1,trivial⟩)
theorem Q7s:Opn Tryz.prog 143 (λx:Qk=>.agg [Qc x.T,Qc x.Want,Qc x.H,Qc x.Err,Qg x.Y,bl x.Ok]) Qdo:=Qed (fl:=[(34,0,3),(34,3,3),(34,6,3),(34,9,3),(26,12,1),(4,13,1)]) (λy=>(⟨y.1,y.2.1,y.2.2.1,y.2.2.2.1,y.2.2.2.2.1,y.2.2.2.2.2.1⟩:Qk)) Tryz.underlying143 (by as_aux_lemma=>kernel_rfl) (by as_aux_lemma=>kernel_rfl) (Ke Qmn (Ke Qmn (Ke Qmn (Ke Qmn (Ke Qmo (Ke opn_4 (Qhg))))))) (λ_=>rfl) (λy h=>⟨h.1,h.2.1,h.2.2.1,h.2.2.2.1,h.2.2.2.2.1,h.2.2.2.2.2.1,trivial⟩)
theorem Q9i:Opn Tryz.prog 68 (λxs:List Qk=>sli 14 (xs.map Jo)) Qgk:=Qoh Tryz.underlying68 (by as_aux_lemma=>kernel_rfl) rfl (λ_=>rfl) Q7s
theorem Q9j:Opn Tryz.prog 70 (λx:Qi=>.agg [Qgl x.Tries,Qc x.T,Qg x.Y]) Qe8:=Qed (fl:=[(68,0,1),(34,1,3),(26,4,1)]) (λy=>(⟨y.1,y.2.1,y.2.2.1⟩:Qi)) Tryz.underlying70 (by as_aux_lemma=>kernel_rfl) (by as_aux_lemma=>kernel_rfl) (Ke Q9i (Ke Qmn (Ke Qmo (Qhg)))) (λ_=>rfl) (λy h=>⟨h.1,h.2.1,h.2.2.1,trivial⟩)
theorem Qqq(os:Os)(started:os.Started)(H:Type)(enc:TypeId×Value->H):
 ReturnsInHanded {} Tryz.checked os 6 .any (λw args=>(Rows.marchReplaysSpec.pre enc Tryz.prog Tryz.f6 [] false w args∧laidMetH Tryz.prog Rows.marchReplaysRow.laid w)∧sizedMet enc Tryz.prog Tryz.f6 (OpenSpec.ofChange Rows.marchReplaysSpec) false w args) (Rows.marchReplaysSpec.post enc Tryz.prog Tryz.f6 false true false false):=by
 refine returnsS (C:=Tryz.checked) (X:=λw _=>laidMetH Tryz.prog Rows.marchReplaysRow.laid w) (λ_ _ _ hh h=>h.of_heap hh) ownK started (by as_aux_lemma=>kernel_rfl) Tryz.func6
  (ChangeSpec.witness_shaped (enc:=enc) (C:=Tryz.checked) (os:=os) (X:=λw _=>laidMetH Tryz.prog Rows.marchReplaysRow.laid w) false (World.laidAll Tryz.prog os Rows.marchReplaysRow.laid) #[.agg #[.slice none 0 0,.slice none 0 0,.int .i64 0,.int .i64 0,.string ⟨#[]⟩,.slice none 0 0,.slice none 0 0,.slice none 0 0,.slice none 0 0,.slice none 0 0,.int .i64 0],.agg #[.slice none 0 0,.bool false,.slice none 0 0,.slice none 0 0,.slice none 0 0]] 40 (World.laidAll_os _ _ _)
   (World.shaped_of_ZipB (by as_aux_lemma=>kernel_rfl) (by as_aux_lemma=>kernel_rfl)) (by as_aux_lemma=>kernel_rfl) (by as_aux_lemma=>kernel_rfl) (by as_aux_lemma=>kernel_rfl)
   (by rw[MakeChecks.laidMetH_plain _ _ _ (by as_aux_lemma=>kernel_rfl)];exact laidMet_laidAll _ (by as_aux_lemma=>kernel_rfl) (by as_aux_lemma=>kernel_rfl))) ?_
 intro W base args ds gs before hval0 hW hc _ hL hsh _
 have hval:∀(j:Nat) t v,Tryz.f6.params[j]?=some t->args[j]?=some v->Value.okWide Tryz.prog W .any base t v:=hval0
 have hW':=hW
 obtain⟨p,q,hA0,hV,rfl,_,_⟩:=hW
 have hA:DataW.TrodAll enc Tryz.prog W 0 (λ_=>true) true Tryz.f6.params.toList args.toList ds p:=hA0
 rw[Tryz.params6] at hA hval
 obtain⟨v0,v1,d0,d1,p0,p1,rfl,rfl,rfl,h0,h1⟩:=trodAll_two hA
 obtain⟨rfl,rfl⟩:=trodVars_none hV
 obtain⟨y0,hy0,b0⟩:=Qy7 Q9h (.inl ⟨_,Tryz.underlying31⟩) (hval 0 31 v0 rfl rfl) h0
 obtain⟨y1,hy1,b1⟩:=Qy7 Q9j (.inl ⟨_,Tryz.underlying70⟩) (hval 1 70 v1 rfl rfl) h1
 obtain⟨n,hn⟩:∃ n,Wo n y0 y1=some true:=Qtq y0 y1 b0 b1
 have hF:=Qi2 _ hn
 have hS:∀ b,Sx S0n g0n [] b->S0n b:=λb h=>by rcases h with h | ⟨_,_,_,h,_⟩;exact h;cases h
 refine(hF.2 W S0n g0n #[v0,v1] (λ_ h=>h.elim) (λ_ _=>rfl) (λ_ _ h=>by cases h) (λ_ _ _ _ _ _ _ h=>by cases h) (λ_ ⟨_,_,_,h,_⟩=>by cases h) ⟨v0,[v1],rfl,Ly.val_mono (Kp.refl _ _) (λb h=>.inl (hS b h)) (Ng.refl _) _ _ hy0,⟨v1,[],rfl,Ly.val_mono (Kp.refl _ _) (λb h=>.inl (hS b h)) (Ng.refl _) _ _ hy1,rfl⟩⟩ (Q5a (λb h=>hS b h) hsh)).mono ?_
 rintro e W' ⟨v,γ',rfl,hb⟩
 have hv:v=.bool true:=hb.res
 subst hv
 have hbel:Below W.heap.size W W':=⟨hb.os,hb.tape,hb.output,hb.grow,λk hk=>hb.old k hk (λ⟨_,_,_,h,_⟩=>by cases h)⟩
 simp only[List.append_nil] at hW'
 refine⟨_,rfl,Qvg (pa:=p0++p1) (pv:=[]) hW' hbel (λ_ _ _=>trodAll_mk1 (shut_bool Tryz.underlying4 _)) (λsp hsp=>trodAll_mk2 (WideElems.Trod_stays laidOutK (by as_aux_lemma=>kernel_rfl) (of_decide_eq_true (by as_aux_lemma=>kernel_rfl)) h0 (λx hx=>hbel.same (hW'.lt x (List.mem_append_left _ (hx)))) (λx hx=>hsp x (List.mem_append_left _ (hx)))) (WideElems.Trod_stays laidOutK (by as_aux_lemma=>kernel_rfl) (of_decide_eq_true (by as_aux_lemma=>kernel_rfl)) h1 (λx hx=>hbel.same (hW'.lt x (List.mem_append_right _ (hx)))) (λx hx=>hsp x (List.mem_append_right _ (hx))))) (λ_ _=>rfl) (by simp) (ok_one (by as_aux_lemma=>kernel_rfl) rfl (okWide_bool_mk Tryz.underlying4 _))⟩
end Go.Proofs.YtlihkcaoachkdaaGreatDoor
