import Derived.Test.YtbdgngdpkdagoabGreatDoorTie
import Derived.Test.YtbdgngdpkdagoabGreatDoorCards
import Derived.Lay
import Derived.Stop.Joined
import Derived.SevenTiedAt
import Derived.Test.YtbdgngdpkdagoabGreatDoorGs
import Derived.Test.YtbdgngdpkdagoabGreatDoorGenbL1
import Derived.Test.YtbdgngdpkdagoabGreatDoorPb1
namespace Go.Proofs.YtbdgngdpkdagoabGreatDoor
open Go Go.RowKit Go.ChangeShapes Go.WideShapes Go.ChangeAt
set_option maxRecDepth 100000
set_option maxHeartbeats 8000000
theorem Qze:Opn Tryz.prog 168 u32 (λx=>(x<4294967296)):=Jbm uk32 Tryz.underlying168
theorem Qs7:Opn Tryz.prog 32 (λxs:List Nat=>sli 1 (xs.map u32)) Qxz:=Qge Tryz.underlying32 oy rfl (λ_=>rfl) Qze
theorem opn_4:Opn Tryz.prog 4 bl (λ_=>True):=Jbn Tryz.underlying4
theorem Qax:Opn Tryz.prog 34 (λx:Qa=>.agg [bl x.Neg,Qet x.N,Qet x.D]) Kd:=Xp (fl:=[(4,0,1),(32,1,1),(32,2,1)]) (λy=>(⟨y.1,y.2.1,y.2.2.1⟩:Qa)) Tryz.underlying34 oy oy (Q5 opn_4 (Q5 Qs7 (Q5 Qs7 (Zk)))) (λ_=>rfl) (λy h=>⟨h.1,h.2.1,h.2.2.1,trivial⟩)
theorem Qbh:Opn Tryz.prog 26 (λxs:List Qa=>sli 3 (xs.map Qb)) Km:=Qge Tryz.underlying26 oy rfl (λ_=>rfl) Qax
theorem opn_3:Opn Tryz.prog 3 i64 (λx=>(-9223372036854775808<=x/\x<=9223372036854775807)):=Q7p Tryz.underlying3
theorem Jny:Opn Tryz.prog 98 (λx:K7=>.agg [Qb x.Bd,Qb x.A4,Qb x.Be,Qb x.A6,Qb x.Az,i64 x.A7,i64 x.Ba]) Qog:=Xp (fl:=[(34,0,3),(34,3,3),(34,6,3),(34,9,3),(34,12,3),(3,15,1),(3,16,1)]) (λy=>(⟨y.1,y.2.1,y.2.2.1,y.2.2.2.1,y.2.2.2.2.1,y.2.2.2.2.2.1,y.2.2.2.2.2.2.1⟩:K7)) Tryz.underlying98 oy oy (Q5 Qax (Q5 Qax (Q5 Qax (Q5 Qax (Q5 Qax (Q5 opn_3 (Q5 opn_3 (Zk)))))))) (λ_=>rfl) (λy h=>⟨h.1,h.2.1,h.2.2.1,h.2.2.2.1,h.2.2.2.2.1,h.2.2.2.2.2.1,h.2.2.2.2.2.2.1,trivial⟩)
theorem Q20:Opn Tryz.prog 27 (λxs:List (List Qa)=>sli 1 (xs.map Qg)) Qed:=Qge Tryz.underlying27 oy rfl (λ_=>rfl) Qbh
theorem opn_9:Opn Tryz.prog 9 str (λs=>s.length<=maxLen):=Q7q Tryz.underlying9
theorem Q21:Opn Tryz.prog 29 (λx:Jo=>.agg [str x.Bh,Qg x.C,Z9 x.A,Qg x.B,Qg x.E]) Qe2:=Xp (fl:=[(9,0,1),(26,1,1),(27,2,1),(26,3,1),(26,4,1)]) (λy=>(⟨y.1,y.2.1,y.2.2.1,y.2.2.2.1,y.2.2.2.2.1⟩:Jo)) Tryz.underlying29 oy oy (Q5 opn_9 (Q5 Qbh (Q5 Q20 (Q5 Qbh (Q5 Qbh (Zk)))))) (λ_=>rfl) (λy h=>⟨h.1,h.2.1,h.2.2.1,h.2.2.2.1,h.2.2.2.2.1,trivial⟩)
theorem Q22:Opn Tryz.prog 23 (λxs:List Int=>sli 1 (xs.map i64)) Q3c:=Qge Tryz.underlying23 oy rfl (λ_=>rfl) opn_3
theorem Qzf:Opn Tryz.prog 207 (λx:Jv=>.agg [i64 x.Op,i64 x.A,i64 x.B,Qb x.N]) Qf8:=Xp (fl:=[(3,0,1),(3,1,1),(3,2,1),(34,3,3)]) (λy=>(⟨y.1,y.2.1,y.2.2.1,y.2.2.2.1⟩:Jv)) Tryz.underlying207 oy oy (Q5 opn_3 (Q5 opn_3 (Q5 opn_3 (Q5 Qax (Zk))))) (λ_=>rfl) (λy h=>⟨h.1,h.2.1,h.2.2.1,h.2.2.2.1,trivial⟩)
theorem Q23:Opn Tryz.prog 22 (λxs:List Jv=>sli 6 (xs.map Jm)) Qe1:=Qge Tryz.underlying22 oy rfl (λ_=>rfl) Qzf
theorem Q24:Opn Tryz.prog 25 (λx:Q4=>.agg [Qfc x.Code,Qx1 x.Av,i64 x.A3,i64 x.A9]) Qf9:=Xp (fl:=[(22,0,1),(23,1,1),(3,2,1),(3,3,1)]) (λy=>(⟨y.1,y.2.1,y.2.2.1,y.2.2.2.1⟩:Q4)) Tryz.underlying25 oy oy (Q5 Q23 (Q5 Q22 (Q5 opn_3 (Q5 opn_3 (Zk))))) (λ_=>rfl) (λy h=>⟨h.1,h.2.1,h.2.2.1,h.2.2.2.1,trivial⟩)
theorem Q25:Opn Tryz.prog 31 (λx:Qq=>.agg [Ji x.Tape,J3 x.Ap,Qg x.P,i64 x.Aw]) X9:=Xp (fl:=[(25,0,4),(29,4,5),(26,9,1),(3,10,1)]) (λy=>(⟨y.1,y.2.1,y.2.2.1,y.2.2.2.1⟩:Qq)) Tryz.underlying31 oy oy (Q5 Q24 (Q5 Q21 (Q5 Qbh (Q5 opn_3 (Zk))))) (λ_=>rfl) (λy h=>⟨h.1,h.2.1,h.2.2.1,h.2.2.2.1,trivial⟩)
theorem Jlu:Opn Tryz.prog 100 (λx:Jb=>.agg [Ja x.Au,Wc x.Ar,Qb x.A0,Qb x.Bf,Qb x.A1,Qg x.Y]) Qj6:=Xp (fl:=[(31,0,11),(98,11,17),(34,28,3),(34,31,3),(34,34,3),(26,37,1)]) (λy=>(⟨y.1,y.2.1,y.2.2.1,y.2.2.2.1,y.2.2.2.2.1,y.2.2.2.2.2.1⟩:Jb)) Tryz.underlying100 oy oy (Q5 Q25 (Q5 Jny (Q5 Qax (Q5 Qax (Q5 Qax (Q5 Qbh (Zk))))))) (λ_=>rfl) (λy h=>⟨h.1,h.2.1,h.2.2.1,h.2.2.2.1,h.2.2.2.2.1,h.2.2.2.2.2.1,trivial⟩)
theorem Q87:Opn Tryz.prog 175 (λx:Qt=>.agg [Qb x.T,Qb x.Ax,Qb x.H,Qb x.A5,Qg x.Y,bl x.Ok]) Qgn:=Xp (fl:=[(34,0,3),(34,3,3),(34,6,3),(34,9,3),(26,12,1),(4,13,1)]) (λy=>(⟨y.1,y.2.1,y.2.2.1,y.2.2.2.1,y.2.2.2.2.1,y.2.2.2.2.2.1⟩:Qt)) Tryz.underlying175 oy oy (Q5 Qax (Q5 Qax (Q5 Qax (Q5 Qax (Q5 Qbh (Q5 opn_4 (Zk))))))) (λ_=>rfl) (λy h=>⟨h.1,h.2.1,h.2.2.1,h.2.2.2.1,h.2.2.2.2.1,h.2.2.2.2.2.1,trivial⟩)
theorem Jdv:Opn Tryz.prog 75 (λxs:List Qt=>sli 14 (xs.map Jn)) Qiq:=Qge Tryz.underlying75 oy rfl (λ_=>rfl) Q87
theorem Jdw:Opn Tryz.prog 77 (λx:Qh=>.agg [Qit x.Aq,Qb x.T,Qg x.Y]) Qey:=Xp (fl:=[(75,0,1),(34,1,3),(26,4,1)]) (λy=>(⟨y.1,y.2.1,y.2.2.1⟩:Qh)) Tryz.underlying77 oy oy (Q5 Jdv (Q5 Qax (Q5 Qbh (Zk)))) (λ_=>rfl) (λy h=>⟨h.1,h.2.1,h.2.2.1,trivial⟩)
theorem Q37(os:Os)(started:os.Started)(H:Type)(enc:TypeId×Value->H):
 ReturnsInHanded {} Tryz.checked os 5 .any (λw args=>(Rows.judgeLooksSpec.pre enc Tryz.prog Tryz.f5 [] false w args/\laidMetH Tryz.prog Rows.judgeLooksRow.laid w)/\sizedMet enc Tryz.prog Tryz.f5 (OpenSpec.ofChange Rows.judgeLooksSpec) false w args) (Rows.judgeLooksSpec.post enc Tryz.prog Tryz.f5 false true false false):=by
 refine returnsS (C:=Tryz.checked) (X:=λw _=>laidMetH Tryz.prog Rows.judgeLooksRow.laid w) (λ_ _ _ hh h=>h.of_heap hh) ownK started oy Tryz.func5
  (ChangeSpec.witness_shaped (enc:=enc) (C:=Tryz.checked) (os:=os) (X:=λw _=>laidMetH Tryz.prog Rows.judgeLooksRow.laid w) false (World.laidAll Tryz.prog os Rows.judgeLooksRow.laid) #[.agg #[.slice none 0 0,.slice none 0 0,.int .i64 0,.int .i64 0,.string ⟨#[]⟩,.slice none 0 0,.slice none 0 0,.slice none 0 0,.slice none 0 0,.slice none 0 0,.int .i64 0,.bool false,.slice none 0 0,.slice none 0 0,.bool false,.slice none 0 0,.slice none 0 0,.bool false,.slice none 0 0,.slice none 0 0,.bool false,.slice none 0 0,.slice none 0 0,.bool false,.slice none 0 0,.slice none 0 0,.int .i64 0,.int .i64 0,.bool false,.slice none 0 0,.slice none 0 0,.bool false,.slice none 0 0,.slice none 0 0,.bool false,.slice none 0 0,.slice none 0 0,.slice none 0 0],.agg #[.slice none 0 0,.bool false,.slice none 0 0,.slice none 0 0,.slice none 0 0]] 40 (World.laidAll_os _ _ _)
   (World.shaped_of_ZipB oy oy) oy oy oy
   (by rw[MakeChecks.laidMetH_plain _ _ _ oy];exact laidMet_laidAll _ oy oy)) ?_
 intro W base args ds gs before hval0 hW hc _ hL hsh _;have hval:∀(j:Nat) t v,Tryz.f5.params[j]?=some t->args[j]?=some v->Value.okWide Tryz.prog W .any base t v:=hval0;have hW':=hW;obtain⟨p,q,hA0,hV,rfl,_,_⟩:=hW;have hA:DataW.TrodAll enc Tryz.prog W 0 (λ_=>true) true Tryz.f5.params.toList args.toList ds p:=hA0;rw[Tryz.params5] at hA hval;obtain⟨v0,v1,d0,d1,p0,p1,rfl,rfl,rfl,h0,h1⟩:=trodAll_two hA;obtain⟨rfl,rfl⟩:=trodVars_none hV;obtain⟨y0,hy0,b0⟩:=Qpp Jlu (.inl ⟨_,Tryz.underlying100⟩) (hval 0 100 v0 rfl rfl) h0;obtain⟨y1,hy1,b1⟩:=Qpp Jdw (.inl ⟨_,Tryz.underlying77⟩) (hval 1 77 v1 rfl rfl) h1;obtain⟨n,hn⟩:∃ n,Qa9 n y0 y1=some true:=Q86 y0 y1 b0 b1;have hF:=Qsb _ hn;have hS:∀ b,Sx S0n g0n [] b->S0n b:=λb h=>by rcases h with h | ⟨_,_,_,h,_⟩;exact h;cases h
 refine(hF.2 W S0n g0n #[v0,v1] (λ_ h=>h.elim) (λ_ _=>rfl) (λ_ _ h=>by cases h) (λ_ _ _ _ _ _ _ h=>by cases h) (λ_ ⟨_,_,_,h,_⟩=>by cases h) ⟨v0,[v1],rfl,Ly.val_mono (Kp.refl _ _) (λb h=>.inl (hS b h)) (Ng.refl _) _ _ hy0,⟨v1,[],rfl,Ly.val_mono (Kp.refl _ _) (λb h=>.inl (hS b h)) (Ng.refl _) _ _ hy1,rfl⟩⟩ (Q4u (λb h=>hS b h) hsh)).mono ?_;rintro e W' ⟨v,γ',rfl,hb⟩;have hv:v=.bool true:=hb.res;subst hv;have hbel:Below W.heap.size W W':=⟨hb.os,hb.tape,hb.output,hb.grow,λk hk=>hb.old k hk (λ⟨_,_,_,h,_⟩=>by cases h)⟩
 simp only[vj] at hW';refine⟨_,rfl,Qr3 (pa:=p0++p1) (pv:=[]) hW' hbel (λ_ _ _=>trodAll_mk1 (shut_bool Tryz.underlying4 _)) (λsp hsp=>trodAll_mk2 (WideElems.Trod_stays laidOutK oy (ue oy) h0 (λx hx=>hbel.same (hW'.lt x (yp _ (hx)))) (λx hx=>hsp x (yp _ (hx)))) (WideElems.Trod_stays laidOutK oy (ue oy) h1 (λx hx=>hbel.same (hW'.lt x (uh _ (hx)))) (λx hx=>hsp x (uh _ (hx))))) (λ_ _=>rfl) oc (ok_one oy rfl (okWide_bool_mk Tryz.underlying4 _))⟩
end Go.Proofs.YtbdgngdpkdagoabGreatDoor
