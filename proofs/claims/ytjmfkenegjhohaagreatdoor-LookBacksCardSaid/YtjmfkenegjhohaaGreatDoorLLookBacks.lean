import Derived.Test.YtjmfkenegjhohaaGreatDoorTie
import Derived.Test.YtjmfkenegjhohaaGreatDoorCards
import Derived.Lay
import Derived.Stop.Joined
import Derived.SevenTiedAt
import Derived.Test.YtjmfkenegjhohaaGreatDoorGs
import Derived.Test.YtjmfkenegjhohaaGreatDoorGenaL1
import Derived.Test.YtjmfkenegjhohaaGreatDoorPa2
namespace Go.Proofs.YtjmfkenegjhohaaGreatDoor
open Go Go.RowKit Go.ChangeShapes Go.WideShapes Go.ChangeAt
set_option maxRecDepth 100000
set_option maxHeartbeats 8000000
theorem opn_3:Opn Tryz.prog 3 i64 (λx=>(-9223372036854775808<=x/\x<=9223372036854775807)):=Q5w Tryz.underlying3
theorem Qw8:Opn Tryz.prog 236 u32 (λx=>(x<4294967296)):=Q91 uk32 Tryz.underlying236
theorem Qq8:Opn Tryz.prog 33 (λxs:List Nat=>sli 1 (xs.map u32)) Qv0:=Qcy Tryz.underlying33 oy rfl (λ_=>rfl) Qw8
theorem opn_4:Opn Tryz.prog 4 bl (λ_=>True):=Q92 Tryz.underlying4
theorem Qb4:Opn Tryz.prog 35 (λx:Qb=>.agg [bl x.Neg,Qdp x.N,Qdp x.D]) Wh:=Wm (fl:=[(4,0,1),(33,1,1),(33,2,1)]) (λy=>(⟨y.1,y.2.1,y.2.2.1⟩:Qb)) Tryz.underlying35 oy oy (Q4 opn_4 (Q4 Qq8 (Q4 Qq8 (X6)))) (λ_=>rfl) (λy h=>⟨h.1,h.2.1,h.2.2.1,trivial⟩)
theorem Zx:Opn Tryz.prog 26 (λxs:List Qb=>sli 3 (xs.map Qc)) Kc:=Qcy Tryz.underlying26 oy rfl (λ_=>rfl) Qb4
theorem Q0u:Opn Tryz.prog 27 (λxs:List (List Qb)=>sli 1 (xs.map Qh)) Qda:=Qcy Tryz.underlying27 oy rfl (λ_=>rfl) Zx
theorem opn_9:Opn Tryz.prog 9 str (λs=>s.length<=maxLen):=Q5x Tryz.underlying9
theorem Q0v:Opn Tryz.prog 29 (λx:Jz=>.agg [str x.A6,Qh x.C,Zg x.A,Qh x.B,Qh x.E]) Qd1:=Wm (fl:=[(9,0,1),(26,1,1),(27,2,1),(26,3,1),(26,4,1)]) (λy=>(⟨y.1,y.2.1,y.2.2.1,y.2.2.2.1,y.2.2.2.2.1⟩:Jz)) Tryz.underlying29 oy oy (Q4 opn_9 (Q4 Zx (Q4 Q0u (Q4 Zx (Q4 Zx (X6)))))) (λ_=>rfl) (λy h=>⟨h.1,h.2.1,h.2.2.1,h.2.2.2.1,h.2.2.2.2.1,trivial⟩)
theorem Q0w:Opn Tryz.prog 23 (λxs:List Int=>sli 1 (xs.map i64)) Q08:=Qcy Tryz.underlying23 oy rfl (λ_=>rfl) opn_3
theorem Qw9:Opn Tryz.prog 204 (λx:Ju=>.agg [i64 x.Op,i64 x.A,i64 x.B,Qc x.N]) Qey:=Wm (fl:=[(3,0,1),(3,1,1),(3,2,1),(35,3,3)]) (λy=>(⟨y.1,y.2.1,y.2.2.1,y.2.2.2.1⟩:Ju)) Tryz.underlying204 oy oy (Q4 opn_3 (Q4 opn_3 (Q4 opn_3 (Q4 Qb4 (X6))))) (λ_=>rfl) (λy h=>⟨h.1,h.2.1,h.2.2.1,h.2.2.2.1,trivial⟩)
theorem Q0x:Opn Tryz.prog 22 (λxs:List Ju=>sli 6 (xs.map Jm)) Qd0:=Qcy Tryz.underlying22 oy rfl (λ_=>rfl) Qw9
theorem Q0y:Opn Tryz.prog 25 (λx:Jf=>.agg [Qd7 x.Code,Qv1 x.Aw,i64 x.Ax,i64 x.A1]) Qez:=Wm (fl:=[(22,0,1),(23,1,1),(3,2,1),(3,3,1)]) (λy=>(⟨y.1,y.2.1,y.2.2.1,y.2.2.2.1⟩:Jf)) Tryz.underlying25 oy oy (Q4 Q0x (Q4 Q0w (Q4 opn_3 (Q4 opn_3 (X6))))) (λ_=>rfl) (λy h=>⟨h.1,h.2.1,h.2.2.1,h.2.2.2.1,trivial⟩)
theorem Q0z:Opn Tryz.prog 31 (λx:Qt=>.agg [Jk x.Tape,J1 x.Aq,Qh x.P,i64 x.Av]) Xm:=Wm (fl:=[(25,0,4),(29,4,5),(26,9,1),(3,10,1)]) (λy=>(⟨y.1,y.2.1,y.2.2.1,y.2.2.2.1⟩:Qt)) Tryz.underlying31 oy oy (Q4 Q0y (Q4 Q0v (Q4 Zx (Q4 opn_3 (X6))))) (λ_=>rfl) (λy h=>⟨h.1,h.2.1,h.2.2.1,h.2.2.2.1,trivial⟩)
theorem Qxa:Opn Tryz.prog 117 (λx:Q9=>.agg [Qc x.T,Qc x.Az,Qc x.H,Qc x.A4,Qh x.Y,bl x.Ok]) Qdh:=Wm (fl:=[(35,0,3),(35,3,3),(35,6,3),(35,9,3),(26,12,1),(4,13,1)]) (λy=>(⟨y.1,y.2.1,y.2.2.1,y.2.2.2.1,y.2.2.2.2.1,y.2.2.2.2.2.1⟩:Q9)) Tryz.underlying117 oy oy (Q4 Qb4 (Q4 Qb4 (Q4 Qb4 (Q4 Qb4 (Q4 Zx (Q4 opn_4 (X6))))))) (λ_=>rfl) (λy h=>⟨h.1,h.2.1,h.2.2.1,h.2.2.2.1,h.2.2.2.2.1,h.2.2.2.2.2.1,trivial⟩)
theorem Q00:Opn Tryz.prog 32 (λxs:List Q9=>sli 14 (xs.map Vc)) Qek:=Qcy Tryz.underlying32 oy rfl (λ_=>rfl) Qxa
theorem Q01:Opn Tryz.prog 37 (λx:Qv=>.agg [Qem x.Ar,Qc x.T,Qh x.Y]) Zv:=Wm (fl:=[(32,0,1),(35,1,3),(26,4,1)]) (λy=>(⟨y.1,y.2.1,y.2.2.1⟩:Qv)) Tryz.underlying37 oy oy (Q4 Q00 (Q4 Qb4 (Q4 Zx (X6)))) (λ_=>rfl) (λy h=>⟨h.1,h.2.1,h.2.2.1,trivial⟩)
theorem Q02:Opn Tryz.prog 88 (λx:Qs=>.agg [i64 x.Ay,Qh x.W]) Qe0:=Wm (fl:=[(3,0,1),(26,1,1)]) (λy=>(⟨y.1,y.2.1⟩:Qs)) Tryz.underlying88 oy oy (Q4 opn_3 (Q4 Zx (X6))) (λ_=>rfl) (λy h=>⟨h.1,h.2.1,trivial⟩)
theorem Q03:Opn Tryz.prog 38 (λxs:List Qs=>sli 2 (xs.map Qu)) Z2:=Qcy Tryz.underlying38 oy rfl (λ_=>rfl) Q02
theorem Q3u(os:Os)(started:os.Started)(H:Type)(enc:TypeId×Value->H):
 ReturnsInHanded {} Tryz.checked os 3 .any (λw args=>(Rows.lookBacksSpec.pre enc Tryz.prog Tryz.f3 [] false w args/\laidMetH Tryz.prog Rows.lookBacksRow.laid w)/\sizedMet enc Tryz.prog Tryz.f3 (OpenSpec.ofChange Rows.lookBacksSpec) false w args) (Rows.lookBacksSpec.post enc Tryz.prog Tryz.f3 false true false false):=by
 refine returnsS (C:=Tryz.checked) (X:=λw _=>laidMetH Tryz.prog Rows.lookBacksRow.laid w) (λ_ _ _ hh h=>h.of_heap hh) ownK started oy Tryz.func3
  (ChangeSpec.witness_shaped (enc:=enc) (C:=Tryz.checked) (os:=os) (X:=λw _=>laidMetH Tryz.prog Rows.lookBacksRow.laid w) false (World.laidAll Tryz.prog os Rows.lookBacksRow.laid) #[.agg #[.slice none 0 0,.slice none 0 0,.int .i64 0,.int .i64 0,.string ⟨#[]⟩,.slice none 0 0,.slice none 0 0,.slice none 0 0,.slice none 0 0,.slice none 0 0,.int .i64 0],.agg #[.slice none 0 0,.bool false,.slice none 0 0,.slice none 0 0,.slice none 0 0],.slice none 0 0] 40 (World.laidAll_os _ _ _)
   (World.shaped_of_ZipB oy oy) oy oy oy
   (by rw[MakeChecks.laidMetH_plain _ _ _ oy];exact laidMet_laidAll _ oy oy)) ?_
 intro W base args ds gs before hval0 hW hc _ hL hsh _;have hval:∀(j:Nat) t v,Tryz.f3.params[j]?=some t->args[j]?=some v->Value.okWide Tryz.prog W .any base t v:=hval0;have hW':=hW;obtain⟨p,q,hA0,hV,rfl,_,_⟩:=hW;have hA:DataW.TrodAll enc Tryz.prog W 0 (λ_=>true) true Tryz.f3.params.toList args.toList ds p:=hA0;rw[Tryz.params3] at hA hval;obtain⟨v0,v1,v2,d0,d1,d2,p0,p1,p2,rfl,rfl,rfl,h0,h1,h2⟩:=trodAll_three hA;obtain⟨rfl,rfl⟩:=trodVars_none hV;obtain⟨y0,hy0,b0⟩:=Qn0 Q0z (.inl ⟨_,Tryz.underlying31⟩) (hval 0 31 v0 rfl rfl) h0;obtain⟨y1,hy1,b1⟩:=Qn0 Q01 (.inl ⟨_,Tryz.underlying37⟩) (hval 1 37 v1 rfl rfl) h1;obtain⟨y2,hy2,b2⟩:=Q2m Q03 (λ_=>rfl) (λ_ _ _=>⟨by rw[Tryz.underlying38];simp,by rw[Tryz.underlying38];simp⟩) (hval 2 38 v2 rfl rfl) h2;obtain⟨n,hn⟩:∃ n,Qae n y0 y1 y2=some true:=Q9k y0 y1 y2 b0 b1 b2;have hF:=Qq2 _ hn;have hS:∀ b,Sx S0n g0n [] b->S0n b:=λb h=>by rcases h with h | ⟨_,_,_,h,_⟩;exact h;cases h
 refine(hF.2 W S0n g0n #[v0,v1,v2] (λ_ h=>h.elim) (λ_ _=>rfl) (λ_ _ h=>by cases h) (λ_ _ _ _ _ _ _ h=>by cases h) (λ_ ⟨_,_,_,h,_⟩=>by cases h) ⟨v0,[v1,v2],rfl,Ly.val_mono (Kp.refl _ _) (λb h=>.inl (hS b h)) (Ng.refl _) _ _ hy0,⟨v1,[v2],rfl,Ly.val_mono (Kp.refl _ _) (λb h=>.inl (hS b h)) (Ng.refl _) _ _ hy1,⟨v2,[],rfl,Ly.val_mono (Kp.refl _ _) (λb h=>.inl (hS b h)) (Ng.refl _) _ _ hy2,rfl⟩⟩⟩ (Q2n (λb h=>hS b h) hsh)).mono ?_;rintro e W' ⟨v,γ',rfl,hb⟩;have hv:v=.bool true:=hb.res;subst hv;have hbel:Below W.heap.size W W':=⟨hb.os,hb.tape,hb.output,hb.grow,λk hk=>hb.old k hk (λ⟨_,_,_,h,_⟩=>by cases h)⟩
 simp only[ua] at hW';refine⟨_,rfl,Qp3 (pa:=p0++p1++p2) (pv:=[]) hW' hbel (λ_ _ _=>trodAll_mk1 (shut_bool Tryz.underlying4 _)) (λsp hsp=>by rw[show p0++p1++p2=p0++(p1++(p2)) by simp only[xf]];exact trodAll_mk3 (WideElems.Trod_stays laidOutK oy (uf oy) h0 (λx hx=>hbel.same (hW'.lt x (yn _ (yn _ (hx))))) (λx hx=>hsp x (yn _ (yn _ (hx))))) (WideElems.Trod_stays laidOutK oy (uf oy) h1 (λx hx=>hbel.same (hW'.lt x (yn _ (yv _ (hx))))) (λx hx=>hsp x (yn _ (yv _ (hx))))) (WideElems.Trod_stays laidOutK oy (uf oy) h2 (λx hx=>hbel.same (hW'.lt x (yv _ (hx)))) (λx hx=>hsp x (yv _ (hx))))) (λ_ _=>rfl) oc (ok_one oy rfl (okWide_bool_mk Tryz.underlying4 _))⟩
end Go.Proofs.YtjmfkenegjhohaaGreatDoor
