import Derived.Test.YtgmknbfonlbjfaaGreatDoorTie
import Derived.Test.YtgmknbfonlbjfaaGreatDoorCards
import Derived.Lay
import Derived.Stop.Joined
import Derived.SevenTiedAt
import Derived.Test.YtgmknbfonlbjfaaGreatDoorGs
import Derived.Test.YtgmknbfonlbjfaaGreatDoorGenL1
import Derived.Test.YtgmknbfonlbjfaaGreatDoorP2
namespace Go.Proofs.YtgmknbfonlbjfaaGreatDoor
open Go Go.RowKit Go.ChangeShapes Go.WideShapes Go.ChangeAt
set_option maxRecDepth 100000
set_option maxHeartbeats 8000000
theorem Q18:Opn Tryz.prog 117 u32 (λx=>(x<4294967296)):=Q2n uk32 Tryz.underlying117
theorem Qz2:Opn Tryz.prog 23 (λxs:List Nat=>sli 1 (xs.map u32)) Qrq:=Qqe Tryz.underlying23 oy rfl (λ_=>rfl) Q18
theorem opn_4:Opn Tryz.prog 4 bl (λ_=>True):=Q2o Tryz.underlying4
theorem Ql7:Opn Tryz.prog 25 (λx:Qc=>.agg [bl x.Neg,Zs x.N,Zs x.D]) K3:=Qic (fl:=[(4,0,1),(23,1,1),(23,2,1)]) (λy=>(⟨y.1,y.2.1,y.2.2.1⟩:Qc)) Tryz.underlying25 oy oy (Xm opn_4 (Xm Qz2 (Xm Qz2 (Qmd)))) (λ_=>rfl) (λy h=>⟨h.1,h.2.1,h.2.2.1,trivial⟩)
theorem Qv8:Opn Tryz.prog 26 (λxs:List Qc=>sli 3 (xs.map Qd)) Va:=Qqe Tryz.underlying26 oy rfl (λ_=>rfl) Ql7
theorem Q3x:Opn Tryz.prog 69 (λx:Qt=>.agg [Qd x.T,Qd x.Gz,Qd x.H,Qd x.G2,Q8 x.Y,bl x.Ok]) Qa0:=Qic (fl:=[(25,0,3),(25,3,3),(25,6,3),(25,9,3),(26,12,1),(4,13,1)]) (λy=>(⟨y.1,y.2.1,y.2.2.1,y.2.2.2.1,y.2.2.2.2.1,y.2.2.2.2.2.1⟩:Qt)) Tryz.underlying69 oy oy (Xm Ql7 (Xm Ql7 (Xm Ql7 (Xm Ql7 (Xm Qv8 (Xm opn_4 (Qmd))))))) (λ_=>rfl) (λy h=>⟨h.1,h.2.1,h.2.2.1,h.2.2.2.1,h.2.2.2.2.1,h.2.2.2.2.2.1,trivial⟩)
theorem Q3y:Opn Tryz.prog 22 (λxs:List Qt=>sli 14 (xs.map Jt)) Qd2:=Qqe Tryz.underlying22 oy rfl (λ_=>rfl) Q3x
theorem Q3z:Opn Tryz.prog 28 (λx:Qj=>.agg [Qd3 x.Gx,Qd x.T,Q8 x.Y]) Qci:=Qic (fl:=[(22,0,1),(25,1,3),(26,4,1)]) (λy=>(⟨y.1,y.2.1,y.2.2.1⟩:Qj)) Tryz.underlying28 oy oy (Xm Q3y (Xm Ql7 (Xm Qv8 (Qmd)))) (λ_=>rfl) (λy h=>⟨h.1,h.2.1,h.2.2.1,trivial⟩)
theorem opn_3:Opn Tryz.prog 3 i64 (λx=>(-9223372036854775808<=x/\x<=9223372036854775807)):=Q07 Tryz.underlying3
theorem Q30:Opn Tryz.prog 51 (λx:Qh=>.agg [i64 x.Gy,Q8 x.W]) Qeg:=Qic (fl:=[(3,0,1),(26,1,1)]) (λy=>(⟨y.1,y.2.1⟩:Qh)) Tryz.underlying51 oy oy (Xm opn_3 (Xm Qv8 (Qmd))) (λ_=>rfl) (λy h=>⟨h.1,h.2.1,trivial⟩)
theorem Q31:Opn Tryz.prog 29 (λxs:List Qh=>sli 2 (xs.map Qk)) Qcw:=Qqe Tryz.underlying29 oy rfl (λ_=>rfl) Q30
theorem Qo6(os:Os)(started:os.Started)(H:Type)(enc:TypeId×Value->H):
 ReturnsInHanded {} Tryz.checked os 3 .any (λw args=>(Rows.lookMissesSpec.pre enc Tryz.prog Tryz.f3 [] false w args/\laidMetH Tryz.prog Rows.lookMissesRow.laid w)/\sizedMet enc Tryz.prog Tryz.f3 (OpenSpec.ofChange Rows.lookMissesSpec) false w args) (Rows.lookMissesSpec.post enc Tryz.prog Tryz.f3 false true false false):=by
 refine returnsS (C:=Tryz.checked) (X:=λw _=>laidMetH Tryz.prog Rows.lookMissesRow.laid w) (λ_ _ _ hh h=>h.of_heap hh) ownK started oy Tryz.func3
  (ChangeSpec.witness_shaped (enc:=enc) (C:=Tryz.checked) (os:=os) (X:=λw _=>laidMetH Tryz.prog Rows.lookMissesRow.laid w) false (World.laidAll Tryz.prog os Rows.lookMissesRow.laid) #[.agg #[.slice none 0 0,.bool false,.slice none 0 0,.slice none 0 0,.slice none 0 0],.slice none 0 0] 40 (World.laidAll_os _ _ _)
   (World.shaped_of_ZipB oy oy) oy oy oy
   (by rw[MakeChecks.laidMetH_plain _ _ _ oy];exact laidMet_laidAll _ oy oy)) ?_
 intro W base args ds gs before hval0 hW hc hwt hL hsh _;have hval:∀(j:Nat) t v,Tryz.f3.params[j]?=some t->args[j]?=some v->Value.okWide Tryz.prog W .any base t v:=hval0;have hW':=hW;obtain⟨p,q,hA0,hV,rfl,_,_⟩:=hW;have hA:DataW.TrodAll enc Tryz.prog W 0 (λ_=>true) true Tryz.f3.params.toList args.toList ds p:=hA0;rw[Tryz.params3] at hA hval;obtain⟨v0,v1,d0,d1,p0,p1,rfl,rfl,rfl,h0,h1⟩:=trodAll_two hA;obtain⟨rfl,rfl⟩:=trodVars_none hV;obtain⟨y0,hy0,b0⟩:=Qz8 Q3z (.inl ⟨_,Tryz.underlying28⟩) (hval 0 28 v0 rfl rfl) h0;obtain⟨y1,hy1,b1⟩:=Qz7 Q31 (λ_=>rfl) (λ_ _ _=>⟨by rw[Tryz.underlying29];simp,by rw[Tryz.underlying29];simp⟩) (hval 1 29 v1 rfl rfl) h1;obtain⟨n,hn⟩:∃ n,V0 n y0 y1=some true:=Qst y0 y1 b0 b1;have hF:=Qg2 _ hn;have hS:∀ b,Sx S0n g0n [] b->S0n b:=λb h=>by rcases h with h | ⟨_,_,_,h,_⟩;exact h;cases h
 refine(hF.2 W S0n g0n #[v0,v1] (λ_ h=>h.elim) (λ_ _=>rfl) (λ_ _ h=>by cases h) (λ_ _ _ _ _ _ _ h=>by cases h) (λ_ ⟨_,_,_,h,_⟩=>by cases h) ⟨v0,[v1],rfl,Ly.val_mono (Kp.refl _ _) (λb h=>.inl (hS b h)) (Ng.refl _) _ _ hy0,⟨v1,[],rfl,Ly.val_mono (Kp.refl _ _) (λb h=>.inl (hS b h)) (Ng.refl _) _ _ hy1,rfl⟩⟩ (Q0a (λb h=>hS b h) hsh)).mono ?_;rintro e W' ⟨v,γ',rfl,hb⟩;have hv:v=.bool true:=hb.res;subst hv;have hbel:Below W.heap.size W W':=⟨hb.os,hb.tape,hb.output,hb.grow,λk hk=>hb.old k hk (λ⟨_,_,_,h,_⟩=>by cases h)⟩
 simp only[uj] at hW';refine⟨_,rfl,Qrn (pa:=p0++p1) (pv:=[]) hW' hbel (λ_ _ _=>trodAll_mk1 (shut_bool Tryz.underlying4 _)) (λsp hsp=>trodAll_mk2 (WideElems.Trod_stays laidOutK oy (wm oy) h0 (λx hx=>hbel.same (hW'.lt x (List.mem_append_left _ (hx)))) (λx hx=>hsp x (List.mem_append_left _ (hx)))) (WideElems.Trod_stays laidOutK oy (wm oy) h1 (λx hx=>hbel.same (hW'.lt x (List.mem_append_right _ (hx)))) (λx hx=>hsp x (List.mem_append_right _ (hx))))) (λ_ _=>rfl) oc (ok_one oy rfl (okWide_bool_mk Tryz.underlying4 _))⟩
end Go.Proofs.YtgmknbfonlbjfaaGreatDoor
