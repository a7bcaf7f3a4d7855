import Derived.Test.YtbdgngdpkdagoaaGreatDoorTie
import Derived.Test.YtbdgngdpkdagoaaGreatDoorCards
import Derived.Lay
import Derived.Stop.Joined
import Derived.SevenTiedAt
import Derived.Test.YtbdgngdpkdagoaaGreatDoorGs
import Derived.Test.YtbdgngdpkdagoaaGreatDoorGenabL1
import Derived.Test.YtbdgngdpkdagoaaGreatDoorPab1
namespace Go.Proofs.YtbdgngdpkdagoaaGreatDoor
open Go Go.RowKit Go.ChangeShapes Go.WideShapes Go.ChangeAt
set_option maxRecDepth 100000
set_option maxHeartbeats 8000000
theorem Qx7:Opn Tryz.prog 249 u32 (λx=>(x<4294967296)):=Jbs uk32 Tryz.underlying249
theorem Qrx:Opn Tryz.prog 32 (λxs:List Nat=>sli 1 (xs.map u32)) Qwx:=Qf3 Tryz.underlying32 oy rfl (λ_=>rfl) Qx7
theorem opn_4:Opn Tryz.prog 4 bl (λ_=>True):=Jbt Tryz.underlying4
theorem Qfj:Opn Tryz.prog 34 (λx:Qb=>.agg [bl x.Neg,Qds x.N,Qds x.D]) Va:=Xo (fl:=[(4,0,1),(32,1,1),(32,2,1)]) (λy=>(⟨y.1,y.2.1,y.2.2.1⟩:Qb)) Tryz.underlying34 oy oy (Q5 opn_4 (Q5 Qrx (Q5 Qrx (Zy)))) (λ_=>rfl) (λy h=>⟨h.1,h.2.1,h.2.2.1,trivial⟩)
theorem Qai:Opn Tryz.prog 26 (λxs:List Qb=>sli 3 (xs.map Qc)) Ka:=Qf3 Tryz.underlying26 oy rfl (λ_=>rfl) Qfj
theorem Jem:Opn Tryz.prog 36 (λx:Xt=>.agg [Qc x.T,Qc x.H,Qh x.Y]) Qil:=Xo (fl:=[(34,0,3),(34,3,3),(26,6,1)]) (λy=>(⟨y.1,y.2.1,y.2.2.1⟩:Xt)) Tryz.underlying36 oy oy (Q5 Qfj (Q5 Qfj (Q5 Qai (Zy)))) (λ_=>rfl) (λy h=>⟨h.1,h.2.1,h.2.2.1,trivial⟩)
theorem opn_3:Opn Tryz.prog 3 i64 (λx=>(-9223372036854775808<=x/\x<=9223372036854775807)):=Q69 Tryz.underlying3
theorem Q14:Opn Tryz.prog 27 (λxs:List (List Qb)=>sli 1 (xs.map Qh)) Qdd:=Qf3 Tryz.underlying27 oy rfl (λ_=>rfl) Qai
theorem opn_9:Opn Tryz.prog 9 str (λs=>s.length<=maxLen):=Q7a Tryz.underlying9
theorem Q15:Opn Tryz.prog 29 (λx:Jt=>.agg [str x.Bb,Qh x.C,Ya x.A,Qh x.B,Qh x.E]) Qd4:=Xo (fl:=[(9,0,1),(26,1,1),(27,2,1),(26,3,1),(26,4,1)]) (λy=>(⟨y.1,y.2.1,y.2.2.1,y.2.2.2.1,y.2.2.2.2.1⟩:Jt)) Tryz.underlying29 oy oy (Q5 opn_9 (Q5 Qai (Q5 Q14 (Q5 Qai (Q5 Qai (Zy)))))) (λ_=>rfl) (λy h=>⟨h.1,h.2.1,h.2.2.1,h.2.2.2.1,h.2.2.2.2.1,trivial⟩)
theorem Q16:Opn Tryz.prog 23 (λxs:List Int=>sli 1 (xs.map i64)) Q2f:=Qf3 Tryz.underlying23 oy rfl (λ_=>rfl) opn_3
theorem Qx8:Opn Tryz.prog 180 (λx:Jp=>.agg [i64 x.Op,i64 x.A,i64 x.B,Qc x.N]) Qe2:=Xo (fl:=[(3,0,1),(3,1,1),(3,2,1),(34,3,3)]) (λy=>(⟨y.1,y.2.1,y.2.2.1,y.2.2.2.1⟩:Jp)) Tryz.underlying180 oy oy (Q5 opn_3 (Q5 opn_3 (Q5 opn_3 (Q5 Qfj (Zy))))) (λ_=>rfl) (λy h=>⟨h.1,h.2.1,h.2.2.1,h.2.2.2.1,trivial⟩)
theorem Q17:Opn Tryz.prog 22 (λxs:List Jp=>sli 6 (xs.map Jh)) Qd3:=Qf3 Tryz.underlying22 oy rfl (λ_=>rfl) Qx8
theorem Q18:Opn Tryz.prog 25 (λx:Ja=>.agg [Qee x.Code,Qwz x.Az,i64 x.A0,i64 x.A3]) Qe3:=Xo (fl:=[(22,0,1),(23,1,1),(3,2,1),(3,3,1)]) (λy=>(⟨y.1,y.2.1,y.2.2.1,y.2.2.2.1⟩:Ja)) Tryz.underlying25 oy oy (Q5 Q17 (Q5 Q16 (Q5 opn_3 (Q5 opn_3 (Zy))))) (λ_=>rfl) (λy h=>⟨h.1,h.2.1,h.2.2.1,h.2.2.2.1,trivial⟩)
theorem Q19:Opn Tryz.prog 31 (λx:Qu=>.agg [Je x.Tape,Jv x.Av,Qh x.P,i64 x.Ay]) Yh:=Xo (fl:=[(25,0,4),(29,4,5),(26,9,1),(3,10,1)]) (λy=>(⟨y.1,y.2.1,y.2.2.1,y.2.2.2.1⟩:Qu)) Tryz.underlying31 oy oy (Q5 Q18 (Q5 Q15 (Q5 Qai (Q5 opn_3 (Zy))))) (λ_=>rfl) (λy h=>⟨h.1,h.2.1,h.2.2.1,h.2.2.2.1,trivial⟩)
theorem Jen:Opn Tryz.prog 38 (λx:Wx=>.agg [Q6 x.P,Qe5 x.F,Qh x.A5,Qh x.W]) Qfm:=Xo (fl:=[(31,0,11),(36,11,7),(26,18,1),(26,19,1)]) (λy=>(⟨y.1,y.2.1,y.2.2.1,y.2.2.2.1⟩:Wx)) Tryz.underlying38 oy oy (Q5 Q19 (Q5 Jem (Q5 Qai (Q5 Qai (Zy))))) (λ_=>rfl) (λy h=>⟨h.1,h.2.1,h.2.2.1,h.2.2.2.1,trivial⟩)
theorem Q64(os:Os)(started:os.Started)(H:Type)(enc:TypeId×Value->H):
 ReturnsInHanded {} Tryz.checked os 4 .any (λw args=>(Rows.jacChainSpec.pre enc Tryz.prog Tryz.f4 [] false w args/\laidMetH Tryz.prog Rows.jacChainRow.laid w)/\sizedMet enc Tryz.prog Tryz.f4 (OpenSpec.ofChange Rows.jacChainSpec) false w args) (Rows.jacChainSpec.post enc Tryz.prog Tryz.f4 false true false false):=by
 refine returnsS (C:=Tryz.checked) (X:=λw _=>laidMetH Tryz.prog Rows.jacChainRow.laid w) (λ_ _ _ hh h=>h.of_heap hh) ownK started oy Tryz.func4
  (ChangeSpec.witness_shaped (enc:=enc) (C:=Tryz.checked) (os:=os) (X:=λw _=>laidMetH Tryz.prog Rows.jacChainRow.laid w) false (World.laidAll Tryz.prog os Rows.jacChainRow.laid) #[.agg #[.slice none 0 0,.slice none 0 0,.int .i64 0,.int .i64 0,.string ⟨#[]⟩,.slice none 0 0,.slice none 0 0,.slice none 0 0,.slice none 0 0,.slice none 0 0,.int .i64 0,.bool false,.slice none 0 0,.slice none 0 0,.bool false,.slice none 0 0,.slice none 0 0,.slice none 0 0,.slice none 0 0,.slice none 0 0],.int .i64 0] 40 (World.laidAll_os _ _ _)
   (World.shaped_of_ZipB oy oy) oy oy oy
   (by rw[MakeChecks.laidMetH_plain _ _ _ oy];exact laidMet_laidAll _ oy oy)) ?_
 intro W base args ds gs before hval0 hW hc _ hL hsh _;have hval:∀(j:Nat) t v,Tryz.f4.params[j]?=some t->args[j]?=some v->Value.okWide Tryz.prog W .any base t v:=hval0;have hW':=hW;obtain⟨p,q,hA0,hV,rfl,_,_⟩:=hW;have hA:DataW.TrodAll enc Tryz.prog W 0 (λ_=>true) true Tryz.f4.params.toList args.toList ds p:=hA0;rw[Tryz.params4] at hA hval;obtain⟨v0,v1,d0,d1,p0,p1,rfl,rfl,rfl,h0,h1⟩:=trodAll_two hA;obtain⟨rfl,rfl⟩:=trodVars_none hV;obtain⟨y0,hy0,b0⟩:=Qyh Jen (.inl ⟨_,Tryz.underlying38⟩) (hval 0 38 v0 rfl rfl) h0;obtain⟨y1,hy1,b1⟩:=Qyg opn_3 (λ_=>rfl) (λ_ _ _=>⟨by rw[Tryz.underlying3];simp,by rw[Tryz.underlying3];simp⟩) (hval 1 3 v1 rfl rfl) h1;obtain⟨n,hn⟩:∃ n,Qa6 n y0 y1=some true:=Jd0 y0 y1 b0;have hF:=Qsc _ hn;have hS:∀ b,Sx S0n g0n [] b->S0n b:=λb h=>by rcases h with h | ⟨_,_,_,h,_⟩;exact h;cases h
 refine(hF.2 W S0n g0n #[v0,v1] (λ_ h=>h.elim) (λ_ _=>rfl) (λ_ _ h=>by cases h) (λ_ _ _ _ _ _ _ h=>by cases h) (λ_ ⟨_,_,_,h,_⟩=>by cases h) ⟨v0,[v1],rfl,Ly.val_mono (Kp.refl _ _) (λb h=>.inl (hS b h)) (Ng.refl _) _ _ hy0,⟨v1,[],rfl,Ly.val_mono (Kp.refl _ _) (λb h=>.inl (hS b h)) (Ng.refl _) _ _ hy1,rfl⟩⟩ (Q3y (λb h=>hS b h) hsh)).mono ?_;rintro e W' ⟨v,γ',rfl,hb⟩;have hv:v=.bool true:=hb.res;subst hv;have hbel:Below W.heap.size W W':=⟨hb.os,hb.tape,hb.output,hb.grow,λk hk=>hb.old k hk (λ⟨_,_,_,h,_⟩=>by cases h)⟩
 simp only[uh] at hW';refine⟨_,rfl,Qqp (pa:=p0++p1) (pv:=[]) hW' hbel (λ_ _ _=>trodAll_mk1 (shut_bool Tryz.underlying4 _)) (λsp hsp=>trodAll_mk2 (WideElems.Trod_stays laidOutK oy (vm oy) h0 (λx hx=>hbel.same (hW'.lt x (yp _ (hx)))) (λx hx=>hsp x (yp _ (hx)))) (WideElems.Trod_stays laidOutK oy (vm oy) h1 (λx hx=>hbel.same (hW'.lt x (uj _ (hx)))) (λx hx=>hsp x (uj _ (hx))))) (λ_ _=>rfl) oc (ok_one oy rfl (okWide_bool_mk Tryz.underlying4 _))⟩
end Go.Proofs.YtbdgngdpkdagoaaGreatDoor
