import Derived.Test.YtlihkcaoachkdaaGreatDoorFrame
import Derived.Test.YtlihkcaoachkdaaGreatDoorGs
import Derived.Test.YtlihkcaoachkdaaGreatDoorGen0
import Derived.Test.YtlihkcaoachkdaaGreatDoorGenA1
import Derived.Test.YtlihkcaoachkdaaGreatDoorGenA2
import Derived.Test.YtlihkcaoachkdaaGreatDoorGenA3
import Derived.Test.YtlihkcaoachkdaaGreatDoorGenA4
import Derived.Test.YtlihkcaoachkdaaGreatDoorGenR1
import Derived.Test.YtlihkcaoachkdaaGreatDoorGenL1
import Derived.Test.YtlihkcaoachkdaaGreatDoorP4
import Derived.Test.YtlihkcaoachkdaaGreatDoorTie
import Derived.Test.YtlihkcaoachkdaaGreatDoorCards
import Derived.Lay
import Derived.Stop.Joined
import Derived.SevenTiedAt
namespace Go.Proofs.YtlihkcaoachkdaaGreatDoor
open Go Go.RowKit Go.ChangeShapes Go.WideShapes Go.ChangeAt
set_option maxRecDepth 100000
theorem Qlw:Opn Tryz.prog 189 u32 (λx=>(x<4294967296)):=Qu1 uk32 Tryz.underlying189
theorem Qhz:Opn Tryz.prog 32 (λxs:List Nat=>sli 1 (xs.map u32)) Qld:=Z8 Tryz.underlying32 (by kernel_rfl) rfl (λ_=>rfl) Qlw
theorem opn_4:Opn Tryz.prog 4 bl (λ_=>True):=Qu2 Tryz.underlying4
theorem Ky:Opn Tryz.prog 34 (λx:Qe=>.agg [bl x.Neg,Yh x.N,Yh x.D]) Jb:=Kr (fl:=[(4,0,1),(32,1,1),(32,2,1)]) (λy=>(⟨y.1,y.2.1,y.2.2.1⟩:Qe)) Tryz.underlying34 (by kernel_rfl) (by kernel_rfl) (Qk opn_4 (Qk Qhz (Qk Qhz (Vk)))) (λ_=>rfl) (λy h=>⟨h.1,h.2.1,h.2.2.1,trivial⟩)
theorem Xt:Opn Tryz.prog 26 (λxs:List Qe=>sli 3 (xs.map Qf)) J0:=Z8 Tryz.underlying26 (by kernel_rfl) rfl (λ_=>rfl) Ky
theorem opn_3:Opn Tryz.prog 3 i64 (λx=>(-9223372036854775808≤x∧x≤9223372036854775807)):=Qrt Tryz.underlying3
theorem Qn7:Opn Tryz.prog 36 (λx:Jh=>.agg [Qf x.Tol,Qf x.Safe,Qf x.Low,Qf x.High,Qf x.Least,i64 x.Fine,i64 x.Most]) Zc:=Kr (fl:=[(34,0,3),(34,3,3),(34,6,3),(34,9,3),(34,12,3),(3,15,1),(3,16,1)]) (λy=>(⟨y.1,y.2.1,y.2.2.1,y.2.2.2.1,y.2.2.2.2.1,y.2.2.2.2.2.1,y.2.2.2.2.2.2.1⟩:Jh)) Tryz.underlying36 (by kernel_rfl) (by kernel_rfl) (Qk Ky (Qk Ky (Qk Ky (Qk Ky (Qk Ky (Qk opn_3 (Qk opn_3 (Vk)))))))) (λ_=>rfl) (λy h=>⟨h.1,h.2.1,h.2.2.1,h.2.2.2.1,h.2.2.2.2.1,h.2.2.2.2.2.1,h.2.2.2.2.2.2.1,trivial⟩)
theorem Qn8:Opn Tryz.prog 27 (λxs:List (List Qe)=>sli 1 (xs.map Qn)) X5:=Z8 Tryz.underlying27 (by kernel_rfl) rfl (λ_=>rfl) Xt
theorem opn_9:Opn Tryz.prog 9 str (λs=>s.length≤maxLen):=Qru Tryz.underlying9
theorem Qn9:Opn Tryz.prog 29 (λx:Ja=>.agg [str x.Name,Qn x.C,Vv x.A,Qn x.B,Qn x.E]) Yo:=Kr (fl:=[(9,0,1),(26,1,1),(27,2,1),(26,3,1),(26,4,1)]) (λy=>(⟨y.1,y.2.1,y.2.2.1,y.2.2.2.1,y.2.2.2.2.1⟩:Ja)) Tryz.underlying29 (by kernel_rfl) (by kernel_rfl) (Qk opn_9 (Qk Xt (Qk Qn8 (Qk Xt (Qk Xt (Vk)))))) (λ_=>rfl) (λy h=>⟨h.1,h.2.1,h.2.2.1,h.2.2.2.1,h.2.2.2.2.1,trivial⟩)
theorem Qoa:Opn Tryz.prog 23 (λxs:List Int=>sli 1 (xs.map i64)) Qon:=Z8 Tryz.underlying23 (by kernel_rfl) rfl (λ_=>rfl) opn_3
theorem Qlx:Opn Tryz.prog 232 (λx:Jf=>.agg [i64 x.Op,i64 x.A,i64 x.B,Qf x.N]) Zm:=Kr (fl:=[(3,0,1),(3,1,1),(3,2,1),(34,3,3)]) (λy=>(⟨y.1,y.2.1,y.2.2.1,y.2.2.2.1⟩:Jf)) Tryz.underlying232 (by kernel_rfl) (by kernel_rfl) (Qk opn_3 (Qk opn_3 (Qk opn_3 (Qk Ky (Vk))))) (λ_=>rfl) (λy h=>⟨h.1,h.2.1,h.2.2.1,h.2.2.2.1,trivial⟩)
theorem Qob:Opn Tryz.prog 22 (λxs:List Jf=>sli 6 (xs.map W4)) Yn:=Z8 Tryz.underlying22 (by kernel_rfl) rfl (λ_=>rfl) Qlx
theorem Qoc:Opn Tryz.prog 25 (λx:Je=>.agg [Yz x.Code,Qle x.Outs,i64 x.Dim,i64 x.Par]) Zn:=Kr (fl:=[(22,0,1),(23,1,1),(3,2,1),(3,3,1)]) (λy=>(⟨y.1,y.2.1,y.2.2.1,y.2.2.2.1⟩:Je)) Tryz.underlying25 (by kernel_rfl) (by kernel_rfl) (Qk Qob (Qk Qoa (Qk opn_3 (Qk opn_3 (Vk))))) (λ_=>rfl) (λy h=>⟨h.1,h.2.1,h.2.2.1,h.2.2.2.1,trivial⟩)
theorem Qod:Opn Tryz.prog 31 (λx:Q4=>.agg [Kd x.Tape,Kt x.Scheme,Qn x.P,i64 x.Bits]) W7:=Kr (fl:=[(25,0,4),(29,4,5),(26,9,1),(3,10,1)]) (λy=>(⟨y.1,y.2.1,y.2.2.1,y.2.2.2.1⟩:Q4)) Tryz.underlying31 (by kernel_rfl) (by kernel_rfl) (Qk Qoc (Qk Qn9 (Qk Xt (Qk opn_3 (Vk))))) (λ_=>rfl) (λy h=>⟨h.1,h.2.1,h.2.2.1,h.2.2.2.1,trivial⟩)
theorem Qoe:Opn Tryz.prog 38 (λx:Q3=>.agg [Vd x.Problem,Vr x.Rules,Qf x.Start,Qf x.End,Qf x.First,Qn x.Y]) V4:=Kr (fl:=[(31,0,11),(36,11,17),(34,28,3),(34,31,3),(34,34,3),(26,37,1)]) (λy=>(⟨y.1,y.2.1,y.2.2.1,y.2.2.2.1,y.2.2.2.2.1,y.2.2.2.2.2.1⟩:Q3)) Tryz.underlying38 (by kernel_rfl) (by kernel_rfl) (Qk Qod (Qk Qn7 (Qk Ky (Qk Ky (Qk Ky (Qk Xt (Vk))))))) (λ_=>rfl) (λy h=>⟨h.1,h.2.1,h.2.2.1,h.2.2.2.1,h.2.2.2.2.1,h.2.2.2.2.2.1,trivial⟩)
theorem Q2m:Opn Tryz.prog 143 (λx:Jw=>.agg [Qf x.T,Qf x.Want,Qf x.H,Qf x.Err,Qn x.Y,bl x.Ok]) Qb5:=Kr (fl:=[(34,0,3),(34,3,3),(34,6,3),(34,9,3),(26,12,1),(4,13,1)]) (λy=>(⟨y.1,y.2.1,y.2.2.1,y.2.2.2.1,y.2.2.2.2.1,y.2.2.2.2.2.1⟩:Jw)) Tryz.underlying143 (by kernel_rfl) (by kernel_rfl) (Qk Ky (Qk Ky (Qk Ky (Qk Ky (Qk Xt (Qk opn_4 (Vk))))))) (λ_=>rfl) (λy h=>⟨h.1,h.2.1,h.2.2.1,h.2.2.2.1,h.2.2.2.2.1,h.2.2.2.2.2.1,trivial⟩)
theorem Q3x:Opn Tryz.prog 68 (λxs:List Jw=>sli 14 (xs.map Yi)) Qeo:=Z8 Tryz.underlying68 (by kernel_rfl) rfl (λ_=>rfl) Q2m
theorem Q3y:Opn Tryz.prog 70 (λx:Jq=>.agg [Qeq x.Tries,Qf x.T,Qn x.Y]) Qdo:=Kr (fl:=[(68,0,1),(34,1,3),(26,4,1)]) (λy=>(⟨y.1,y.2.1,y.2.2.1⟩:Jq)) Tryz.underlying70 (by kernel_rfl) (by kernel_rfl) (Qk Q3x (Qk Ky (Qk Xt (Vk)))) (λ_=>rfl) (λy h=>⟨h.1,h.2.1,h.2.2.1,trivial⟩)
theorem Qoh(os:Os)(started:os.Started)(H:Type)(enc:TypeId×Value->H):
 ReturnsInHanded {} Tryz.checked os 7 .any (λw args=>(Rows.judgeSolvesSpec.pre enc Tryz.prog Tryz.f7 [] false w args∧laidMetH Tryz.prog Rows.judgeSolvesRow.laid w)∧sizedMet enc Tryz.prog Tryz.f7 (OpenSpec.ofChange Rows.judgeSolvesSpec) false w args) (Rows.judgeSolvesSpec.post enc Tryz.prog Tryz.f7 false true false false):=by
 refine returnsS (C:=Tryz.checked) (X:=λw _=>laidMetH Tryz.prog Rows.judgeSolvesRow.laid w) (λ_ _ _ hh h=>h.of_heap hh) ownK started (by kernel_rfl) Tryz.func7
  (ChangeSpec.witness_shaped (enc:=enc) (C:=Tryz.checked) (os:=os) (X:=λw _=>laidMetH Tryz.prog Rows.judgeSolvesRow.laid w) false (World.laidAll Tryz.prog os Rows.judgeSolvesRow.laid) #[.agg #[.slice none 0 0,.slice none 0 0,.int .i64 0,.int .i64 0,.string ⟨#[]⟩,.slice none 0 0,.slice none 0 0,.slice none 0 0,.slice none 0 0,.slice none 0 0,.int .i64 0,.bool false,.slice none 0 0,.slice none 0 0,.bool false,.slice none 0 0,.slice none 0 0,.bool false,.slice none 0 0,.slice none 0 0,.bool false,.slice none 0 0,.slice none 0 0,.bool false,.slice none 0 0,.slice none 0 0,.int .i64 0,.int .i64 0,.bool false,.slice none 0 0,.slice none 0 0,.bool false,.slice none 0 0,.slice none 0 0,.bool false,.slice none 0 0,.slice none 0 0,.slice none 0 0],.agg #[.slice none 0 0,.bool false,.slice none 0 0,.slice none 0 0,.slice none 0 0]] 40 (World.laidAll_os _ _ _)
   (World.shaped_of_ZipB (by kernel_rfl) (by kernel_rfl)) (by kernel_rfl) (by kernel_rfl) (by kernel_rfl)
   (by rw[MakeChecks.laidMetH_plain _ _ _ (by kernel_rfl)];exact laidMet_laidAll _ (by kernel_rfl) (by kernel_rfl))) ?_
 intro W base args ds gs before hval0 hW hc _ hL hsh _
 have hval:∀(j:Nat) t v,Tryz.f7.params[j]?=some t->args[j]?=some v->Value.okWide Tryz.prog W .any base t v:=hval0
 have hW':=hW
 obtain⟨p,q,hA0,hV,rfl,_,_⟩:=hW
 have hA:DataW.TrodAll enc Tryz.prog W 0 (λ_=>true) true Tryz.f7.params.toList args.toList ds p:=hA0
 rw[Tryz.params7] at hA hval
 obtain⟨v0,v1,d0,d1,p0,p1,rfl,rfl,rfl,h0,h1⟩:=trodAll_two hA
 obtain⟨rfl,rfl⟩:=trodVars_none hV
 obtain⟨y0,hy0,b0⟩:=Ql3 Qoe (.inl ⟨_,Tryz.underlying38⟩) (hval 0 38 v0 rfl rfl) h0
 obtain⟨y1,hy1,b1⟩:=Ql3 Q3y (.inl ⟨_,Tryz.underlying70⟩) (hval 1 70 v1 rfl rfl) h1
 obtain⟨n,hn⟩:∃ n,V9 n y0 y1=some true:=Qrp y0 y1 b0 b1
 have hF:=Qgv _ hn
 have hS:∀ b,Sx S0n g0n [] b->S0n b:=λb h=>by rcases h with h | ⟨_,_,_,h,_⟩;exact h;cases h
 refine(hF.2 W S0n g0n #[v0,v1] (λ_ h=>h.elim) (λ_ _=>rfl) (λ_ _ h=>by cases h) (λ_ _ _ _ _ _ _ h=>by cases h) (λ_ ⟨_,_,_,h,_⟩=>by cases h) ⟨v0,[v1],rfl,Ly.val_mono (Kp.refl _ _) (λb h=>.inl (hS b h)) (Ng.refl _) _ _ hy0,⟨v1,[],rfl,Ly.val_mono (Kp.refl _ _) (λb h=>.inl (hS b h)) (Ng.refl _) _ _ hy1,rfl⟩⟩ (Qpp (λb h=>hS b h) hsh)).mono ?_
 rintro e W' ⟨v,γ',rfl,hb⟩
 have hv:v=.bool true:=hb.res
 subst hv
 have hbel:Below W.heap.size W W':=⟨hb.os,hb.tape,hb.output,hb.grow,λk hk=>hb.old k hk (λ⟨_,_,_,h,_⟩=>by cases h)⟩
 simp only[List.append_nil] at hW'
 refine⟨_,rfl,Qg2 (pa:=p0++p1) (pv:=[]) hW' hbel (λ_ _ _=>trodAll_mk1 (shut_bool Tryz.underlying4 _)) (λsp hsp=>trodAll_mk2 (WideElems.Trod_stays laidOutK (by kernel_rfl) (of_decide_eq_true (by kernel_rfl)) h0 (λx hx=>hbel.same (hW'.lt x (List.mem_append_left _ (hx)))) (λx hx=>hsp x (List.mem_append_left _ (hx)))) (WideElems.Trod_stays laidOutK (by kernel_rfl) (of_decide_eq_true (by kernel_rfl)) h1 (λx hx=>hbel.same (hW'.lt x (List.mem_append_right _ (hx)))) (λx hx=>hsp x (List.mem_append_right _ (hx))))) (λ_ _=>rfl) (by simp) (ok_one (by kernel_rfl) rfl (okWide_bool_mk Tryz.underlying4 _))⟩
end Go.Proofs.YtlihkcaoachkdaaGreatDoor
