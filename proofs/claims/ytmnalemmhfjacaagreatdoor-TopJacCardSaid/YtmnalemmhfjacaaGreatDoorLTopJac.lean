import Derived.Test.YtmnalemmhfjacaaGreatDoorTie
import Derived.Test.YtmnalemmhfjacaaGreatDoorCards
import Derived.Lay
import Derived.Stop.Joined
import Derived.SevenTiedAt
import Derived.Test.YtmnalemmhfjacaaGreatDoorGs
import Derived.Test.YtmnalemmhfjacaaGreatDoorGenL1
import Derived.Test.YtmnalemmhfjacaaGreatDoorP3
namespace Go.Proofs.YtmnalemmhfjacaaGreatDoor
open Go Go.RowKit Go.ChangeShapes Go.WideShapes Go.ChangeAt
set_option maxRecDepth 100000
set_option maxHeartbeats 8000000
theorem Q97:Opn Tryz.prog 175 u32 (λx=>(x<4294967296)):=Jak uk32 Tryz.underlying175
theorem Q63:Opn Tryz.prog 32 (λxs:List Nat=>sli 1 (xs.map u32)) Qv1:=Qqg Tryz.underlying32 ox rfl (λ_=>rfl) Q97
theorem opn_4:Opn Tryz.prog 4 bl (λ_=>True):=Jal Tryz.underlying4
theorem Qhl:Opn Tryz.prog 34 (λx:Ql=>.agg [bl x.Neg,Qb5 x.N,Qb5 x.D]) Kg:=Qec (fl:=[(4,0,1),(32,1,1),(32,2,1)]) (λy=>(⟨y.1,y.2.1,y.2.2.1⟩:Ql)) Tryz.underlying34 ox ox (J6 opn_4 (J6 Q63 (J6 Q63 (Qhv)))) (λ_=>rfl) (λy h=>⟨h.1,h.2.1,h.2.2.1,trivial⟩)
theorem Qok:Opn Tryz.prog 26 (λxs:List Ql=>sli 3 (xs.map Qx)) Vp:=Qqg Tryz.underlying26 ox rfl (λ_=>rfl) Qhl
theorem opn_3:Opn Tryz.prog 3 i64 (λx=>(-9223372036854775808<=x/\x<=9223372036854775807)):=Q8z Tryz.underlying3
theorem Jb9:Opn Tryz.prog 36 (λx:Vc=>.agg [Qx x.Tol,Qx x.Aq,Qx x.Low,Qx x.Ap,Qx x.Ak,i64 x.Fine,i64 x.Ai]) Qgx:=Qec (fl:=[(34,0,3),(34,3,3),(34,6,3),(34,9,3),(34,12,3),(3,15,1),(3,16,1)]) (λy=>(⟨y.1,y.2.1,y.2.2.1,y.2.2.2.1,y.2.2.2.2.1,y.2.2.2.2.2.1,y.2.2.2.2.2.2.1⟩:Vc)) Tryz.underlying36 ox ox (J6 Qhl (J6 Qhl (J6 Qhl (J6 Qhl (J6 Qhl (J6 opn_3 (J6 opn_3 (Qhv)))))))) (λ_=>rfl) (λy h=>⟨h.1,h.2.1,h.2.2.1,h.2.2.2.1,h.2.2.2.2.1,h.2.2.2.2.2.1,h.2.2.2.2.2.2.1,trivial⟩)
theorem Jca:Opn Tryz.prog 27 (λxs:List (List Ql)=>sli 1 (xs.map Jn)) Qeu:=Qqg Tryz.underlying27 ox rfl (λ_=>rfl) Qok
theorem opn_9:Opn Tryz.prog 9 str (λs=>s.length<=maxLen):=Q80 Tryz.underlying9
theorem Jcb:Opn Tryz.prog 29 (λx:Ku=>.agg [str x.Name,Jn x.C,Qe0 x.A,Jn x.B,Jn x.E]) Qfo:=Qec (fl:=[(9,0,1),(26,1,1),(27,2,1),(26,3,1),(26,4,1)]) (λy=>(⟨y.1,y.2.1,y.2.2.1,y.2.2.2.1,y.2.2.2.2.1⟩:Ku)) Tryz.underlying29 ox ox (J6 opn_9 (J6 Qok (J6 Jca (J6 Qok (J6 Qok (Qhv)))))) (λ_=>rfl) (λy h=>⟨h.1,h.2.1,h.2.2.1,h.2.2.2.1,h.2.2.2.2.1,trivial⟩)
theorem Jcc:Opn Tryz.prog 23 (λxs:List Int=>sli 1 (xs.map i64)) Q2k:=Qqg Tryz.underlying23 ox rfl (λ_=>rfl) opn_3
theorem Q98:Opn Tryz.prog 140 (λx:Kt=>.agg [i64 x.Op,i64 x.A,i64 x.B,Qx x.N]) Qg5:=Qec (fl:=[(3,0,1),(3,1,1),(3,2,1),(34,3,3)]) (λy=>(⟨y.1,y.2.1,y.2.2.1,y.2.2.2.1⟩:Kt)) Tryz.underlying140 ox ox (J6 opn_3 (J6 opn_3 (J6 opn_3 (J6 Qhl (Qhv))))) (λ_=>rfl) (λy h=>⟨h.1,h.2.1,h.2.2.1,h.2.2.2.1,trivial⟩)
theorem Jcd:Opn Tryz.prog 22 (λxs:List Kt=>sli 6 (xs.map Qac)) Qfn:=Qqg Tryz.underlying22 ox rfl (λ_=>rfl) Q98
theorem Jce:Opn Tryz.prog 25 (λx:K8=>.agg [Qf9 x.Code,Qv2 x.Af,i64 x.Ae,i64 x.Ao]) Qg6:=Qec (fl:=[(22,0,1),(23,1,1),(3,2,1),(3,3,1)]) (λy=>(⟨y.1,y.2.1,y.2.2.1,y.2.2.2.1⟩:K8)) Tryz.underlying25 ox ox (J6 Jcd (J6 Jcc (J6 opn_3 (J6 opn_3 (Qhv))))) (λ_=>rfl) (λy h=>⟨h.1,h.2.1,h.2.2.1,h.2.2.2.1,trivial⟩)
theorem Jcf:Opn Tryz.prog 31 (λx:Jr=>.agg [Wc x.Tape,Xc x.G8,Jn x.P,i64 x.Ac]) Qa1:=Qec (fl:=[(25,0,4),(29,4,5),(26,9,1),(3,10,1)]) (λy=>(⟨y.1,y.2.1,y.2.2.1,y.2.2.2.1⟩:Jr)) Tryz.underlying31 ox ox (J6 Jce (J6 Jcb (J6 Qok (J6 opn_3 (Qhv))))) (λ_=>rfl) (λy h=>⟨h.1,h.2.1,h.2.2.1,h.2.2.2.1,trivial⟩)
theorem Jcg:Opn Tryz.prog 38 (λx:Jw=>.agg [Zh x.G9,Zy x.Ab,Qx x.Ah,Qx x.Ar,Qx x.Aj,Jn x.Y]) Qc3:=Qec (fl:=[(31,0,11),(36,11,17),(34,28,3),(34,31,3),(34,34,3),(26,37,1)]) (λy=>(⟨y.1,y.2.1,y.2.2.1,y.2.2.2.1,y.2.2.2.2.1,y.2.2.2.2.2.1⟩:Jw)) Tryz.underlying38 ox ox (J6 Jcf (J6 Jb9 (J6 Qhl (J6 Qhl (J6 Qhl (J6 Qok (Qhv))))))) (λ_=>rfl) (λy h=>⟨h.1,h.2.1,h.2.2.1,h.2.2.2.1,h.2.2.2.2.1,h.2.2.2.2.2.1,trivial⟩)
theorem Qy7(os:Os)(started:os.Started)(H:Type)(enc:TypeId×Value->H):
 ReturnsInHanded {} Tryz.checked os 3 .any (λw args=>(Rows.topJacSpec.pre enc Tryz.prog Tryz.f3 [] false w args/\laidMetH Tryz.prog Rows.topJacRow.laid w)/\sizedMet enc Tryz.prog Tryz.f3 (OpenSpec.ofChange Rows.topJacSpec) false w args) (Rows.topJacSpec.post enc Tryz.prog Tryz.f3 false true false false):=by
 refine returnsS (C:=Tryz.checked) (X:=λw _=>laidMetH Tryz.prog Rows.topJacRow.laid w) (λ_ _ _ hh h=>h.of_heap hh) ownK started ox Tryz.func3
  (ChangeSpec.witness_shaped (enc:=enc) (C:=Tryz.checked) (os:=os) (X:=λw _=>laidMetH Tryz.prog Rows.topJacRow.laid w) false (World.laidAll Tryz.prog os Rows.topJacRow.laid) #[.agg #[.slice none 0 0,.slice none 0 0,.int .i64 0,.int .i64 0,.string ⟨#[]⟩,.slice none 0 0,.slice none 0 0,.slice none 0 0,.slice none 0 0,.slice none 0 0,.int .i64 0,.bool false,.slice none 0 0,.slice none 0 0,.bool false,.slice none 0 0,.slice none 0 0,.bool false,.slice none 0 0,.slice none 0 0,.bool false,.slice none 0 0,.slice none 0 0,.bool false,.slice none 0 0,.slice none 0 0,.int .i64 0,.int .i64 0,.bool false,.slice none 0 0,.slice none 0 0,.bool false,.slice none 0 0,.slice none 0 0,.bool false,.slice none 0 0,.slice none 0 0,.slice none 0 0],.int .i64 0] 40 (World.laidAll_os _ _ _)
   (World.shaped_of_ZipB ox ox) ox ox ox
   (by rw[MakeChecks.laidMetH_plain _ _ _ ox];exact laidMet_laidAll _ ox ox)) ?_
 intro W base args ds gs before hval0 hW hc _ hL hsh _;have hval:∀(j:Nat) t v,Tryz.f3.params[j]?=some t->args[j]?=some v->Value.okWide Tryz.prog W .any base t v:=hval0;have hW':=hW;obtain⟨p,q,hA0,hV,rfl,_,_⟩:=hW;have hA:DataW.TrodAll enc Tryz.prog W 0 (λ_=>true) true Tryz.f3.params.toList args.toList ds p:=hA0;rw[Tryz.params3] at hA hval;obtain⟨v0,v1,d0,d1,p0,p1,rfl,rfl,rfl,h0,h1⟩:=trodAll_two hA;obtain⟨rfl,rfl⟩:=trodVars_none hV;obtain⟨y0,hy0,b0⟩:=Q7b Jcg (.inl ⟨_,Tryz.underlying38⟩) (hval 0 38 v0 rfl rfl) h0;obtain⟨y1,hy1,b1⟩:=Q7a opn_3 (λ_=>rfl) (λ_ _ _=>⟨by rw[Tryz.underlying3];simp,by rw[Tryz.underlying3];simp⟩) (hval 1 3 v1 rfl rfl) h1;obtain⟨n,hn⟩:∃ n,Yz n y0 y1=some true:=Q4r y0 y1 b0;have hF:=Qnj _ hn;have hS:∀ b,Sx S0n g0n [] b->S0n b:=λb h=>by rcases h with h | ⟨_,_,_,h,_⟩;exact h;cases h
 refine(hF.2 W S0n g0n #[v0,v1] (λ_ h=>h.elim) (λ_ _=>rfl) (λ_ _ h=>by cases h) (λ_ _ _ _ _ _ _ h=>by cases h) (λ_ ⟨_,_,_,h,_⟩=>by cases h) ⟨v0,[v1],rfl,Ly.val_mono (Kp.refl _ _) (λb h=>.inl (hS b h)) (Ng.refl _) _ _ hy0,⟨v1,[],rfl,Ly.val_mono (Kp.refl _ _) (λb h=>.inl (hS b h)) (Ng.refl _) _ _ hy1,rfl⟩⟩ (Q7d (λb h=>hS b h) hsh)).mono ?_;rintro e W' ⟨v,γ',rfl,hb⟩;have hv:v=.bool true:=hb.res;subst hv;have hbel:Below W.heap.size W W':=⟨hb.os,hb.tape,hb.output,hb.grow,λk hk=>hb.old k hk (λ⟨_,_,_,h,_⟩=>by cases h)⟩
 simp only[yj] at hW';refine⟨_,rfl,Qvx (pa:=p0++p1) (pv:=[]) hW' hbel (λ_ _ _=>trodAll_mk1 (shut_bool Tryz.underlying4 _)) (λsp hsp=>trodAll_mk2 (WideElems.Trod_stays laidOutK ox (wt ox) h0 (λx hx=>hbel.same (hW'.lt x (List.mem_append_left _ (hx)))) (λx hx=>hsp x (List.mem_append_left _ (hx)))) (WideElems.Trod_stays laidOutK ox (wt ox) h1 (λx hx=>hbel.same (hW'.lt x (List.mem_append_right _ (hx)))) (λx hx=>hsp x (List.mem_append_right _ (hx))))) (λ_ _=>rfl) oa (ok_one ox rfl (okWide_bool_mk Tryz.underlying4 _))⟩
end Go.Proofs.YtmnalemmhfjacaaGreatDoor
