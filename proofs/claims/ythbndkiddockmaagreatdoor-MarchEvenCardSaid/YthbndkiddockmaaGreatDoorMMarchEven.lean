/-
  It is proved that the statement MarchEven of retrospect holds: for every input the call returns true,and the arguments read as they did.
  Conditions: none beyond the statement's own.
-/
import Derived.Test.YthbndkiddockmaaGreatDoorFrame
import Derived.Test.YthbndkiddockmaaGreatDoorGs
import Derived.Test.YthbndkiddockmaaGreatDoorGen3
import Derived.Test.YthbndkiddockmaaGreatDoorP3
import Derived.Test.YthbndkiddockmaaGreatDoorTie
import Derived.Test.YthbndkiddockmaaGreatDoorCards
import Derived.Lay
import Derived.Stop.Joined
import Derived.SevenTiedAt
namespace Go.Proofs.YthbndkiddockmaaGreatDoor
open Go Go.RowKit Go.ChangeShapes Go.WideShapes Go.ChangeAt
set_option maxRecDepth 100000
theorem opn_3:Opn Tryz.prog 3 i64 (fun x=>(-9223372036854775808≤x∧x≤9223372036854775807)):=Q0e Tryz.underlying3
theorem opn_129:Opn Tryz.prog 129 u32 (fun x=>(x<4294967296)):=Q15 uk32 Tryz.underlying129
theorem opn_32:Opn Tryz.prog 32 (fun xs:List Nat=>sli 1 (xs.map u32)) Qrb:=Qge Tryz.underlying32 (by kernel_rfl) rfl (fun _=>rfl) opn_129
theorem opn_4:Opn Tryz.prog 4 bl (fun _=>True):=Q16 Tryz.underlying4
theorem opn_34:Opn Tryz.prog 34 (fun x:Qa=>.agg [bl x.Neg,Qav x.N,Qav x.D]) Wt:=Zh (fl:=[(4,0,1),(32,1,1),(32,2,1)]) (fun y=>(⟨y.1,y.2.1,y.2.2.1⟩:Qa)) Tryz.underlying34 (by kernel_rfl) (by kernel_rfl) (Q9 opn_4 (Q9 opn_32 (Q9 opn_32 (Qbg)))) (fun _=>rfl) (fun y h=>⟨h.1,h.2.1,h.2.2.1,trivial⟩)
theorem opn_26:Opn Tryz.prog 26 (fun xs:List Qa=>sli 3 (xs.map Qb)) Jv:=Qge Tryz.underlying26 (by kernel_rfl) rfl (fun _=>rfl) opn_34
theorem opn_27:Opn Tryz.prog 27 (fun xs:List (List Qa)=>sli 1 (xs.map Qh)) Qbh:=Qge Tryz.underlying27 (by kernel_rfl) rfl (fun _=>rfl) opn_26
theorem opn_9:Opn Tryz.prog 9 str (fun s=>s.length≤maxLen):=Q0f Tryz.underlying9
theorem opn_29:Opn Tryz.prog 29 (fun x:Q4=>.agg [str x.Name,Qh x.C,Xo x.A,Qh x.B,Qh x.E]) Qb4:=Zh (fl:=[(9,0,1),(26,1,1),(27,2,1),(26,3,1),(26,4,1)]) (fun y=>(⟨y.1,y.2.1,y.2.2.1,y.2.2.2.1,y.2.2.2.2.1⟩:Q4)) Tryz.underlying29 (by kernel_rfl) (by kernel_rfl) (Q9 opn_9 (Q9 opn_26 (Q9 opn_27 (Q9 opn_26 (Q9 opn_26 (Qbg)))))) (fun _=>rfl) (fun y h=>⟨h.1,h.2.1,h.2.2.1,h.2.2.2.1,h.2.2.2.2.1,trivial⟩)
theorem opn_23:Opn Tryz.prog 23 (fun xs:List Int=>sli 1 (xs.map i64)) Qun:=Qge Tryz.underlying23 (by kernel_rfl) rfl (fun _=>rfl) opn_3
theorem opn_144:Opn Tryz.prog 144 (fun x:Ja=>.agg [i64 x.Op,i64 x.A,i64 x.B,Qb x.N]) Qc2:=Zh (fl:=[(3,0,1),(3,1,1),(3,2,1),(34,3,3)]) (fun y=>(⟨y.1,y.2.1,y.2.2.1,y.2.2.2.1⟩:Ja)) Tryz.underlying144 (by kernel_rfl) (by kernel_rfl) (Q9 opn_3 (Q9 opn_3 (Q9 opn_3 (Q9 opn_34 (Qbg))))) (fun _=>rfl) (fun y h=>⟨h.1,h.2.1,h.2.2.1,h.2.2.2.1,trivial⟩)
theorem opn_22:Opn Tryz.prog 22 (fun xs:List Ja=>sli 6 (xs.map Jo)) Qb3:=Qge Tryz.underlying22 (by kernel_rfl) rfl (fun _=>rfl) opn_144
theorem opn_25:Opn Tryz.prog 25 (fun x:Q6=>.agg [Qb7 x.Code,Qrc x.Outs,i64 x.Dim,i64 x.Par]) Qc3:=Zh (fl:=[(22,0,1),(23,1,1),(3,2,1),(3,3,1)]) (fun y=>(⟨y.1,y.2.1,y.2.2.1,y.2.2.2.1⟩:Q6)) Tryz.underlying25 (by kernel_rfl) (by kernel_rfl) (Q9 opn_22 (Q9 opn_23 (Q9 opn_3 (Q9 opn_3 (Qbg))))) (fun _=>rfl) (fun y h=>⟨h.1,h.2.1,h.2.2.1,h.2.2.2.1,trivial⟩)
theorem opn_31:Opn Tryz.prog 31 (fun x:Qm=>.agg [Jc x.Tape,Q5 x.Scheme,Qh x.P,i64 x.Bits]) Wy:=Zh (fl:=[(25,0,4),(29,4,5),(26,9,1),(3,10,1)]) (fun y=>(⟨y.1,y.2.1,y.2.2.1,y.2.2.2.1⟩:Qm)) Tryz.underlying31 (by kernel_rfl) (by kernel_rfl) (Q9 opn_25 (Q9 opn_29 (Q9 opn_26 (Q9 opn_3 (Qbg))))) (fun _=>rfl) (fun y h=>⟨h.1,h.2.1,h.2.2.1,h.2.2.2.1,trivial⟩)
theorem opn_36:Opn Tryz.prog 36 (fun x:J2=>.agg [Qb x.T,Qb x.H,Qh x.Y]) Qa0:=Zh (fl:=[(34,0,3),(34,3,3),(26,6,1)]) (fun y=>(⟨y.1,y.2.1,y.2.2.1⟩:J2)) Tryz.underlying36 (by kernel_rfl) (by kernel_rfl) (Q9 opn_34 (Q9 opn_34 (Q9 opn_26 (Qbg)))) (fun _=>rfl) (fun y h=>⟨h.1,h.2.1,h.2.2.1,trivial⟩)
theorem MarchEven_lifted(os:Os)(started:os.Started)(H:Type)(enc:TypeId×Value->H):
 ReturnsInHanded {} Tryz.checked os 4 .any (fun w args=>(Rows.marchEvenSpec.pre enc Tryz.prog Tryz.f4 [] false w args∧laidMetH Tryz.prog Rows.marchEvenRow.laid w)∧sizedMet enc Tryz.prog Tryz.f4 (OpenSpec.ofChange Rows.marchEvenSpec) false w args) (Rows.marchEvenSpec.post enc Tryz.prog Tryz.f4 false true false false):=by
 refine returnsS (C:=Tryz.checked) (X:=fun w _=>laidMetH Tryz.prog Rows.marchEvenRow.laid w) (fun _ _ _ hh h=>h.of_heap hh) ownK started (by kernel_rfl) Tryz.func4
  (ChangeSpec.witness_shaped (enc:=enc) (C:=Tryz.checked) (os:=os) (X:=fun w _=>laidMetH Tryz.prog Rows.marchEvenRow.laid w) false (World.laidAll Tryz.prog os Rows.marchEvenRow.laid) #[.agg #[.slice none 0 0,.slice none 0 0,.int .i64 0,.int .i64 0,.string ⟨#[]⟩,.slice none 0 0,.slice none 0 0,.slice none 0 0,.slice none 0 0,.slice none 0 0,.int .i64 0],.agg #[.bool false,.slice none 0 0,.slice none 0 0,.bool false,.slice none 0 0,.slice none 0 0,.slice none 0 0],.int .i64 0] 40 (World.laidAll_os _ _ _)
   (World.shaped_of_ZipB (by kernel_rfl) (by kernel_rfl)) (by kernel_rfl) (by kernel_rfl) (by kernel_rfl)
   (by rw[MakeChecks.laidMetH_plain _ _ _ (by kernel_rfl)];exact laidMet_laidAll _ (by kernel_rfl) (by kernel_rfl))) ?_
 intro W base args ds gs before hval0 hW hc _ hL hsh _
 have hval:∀(j:Nat) t v,Tryz.f4.params[j]?=some t->args[j]?=some v->Value.okWide Tryz.prog W .any base t v:=hval0
 have hW':=hW
 obtain⟨p,q,hA0,hV,rfl,_,_⟩:=hW
 have hA:DataW.TrodAll enc Tryz.prog W 0 (fun _=>true) true Tryz.f4.params.toList args.toList ds p:=hA0
 rw[Tryz.params4] at hA hval
 obtain⟨v0,v1,v2,d0,d1,d2,p0,p1,p2,rfl,rfl,rfl,h0,h1,h2⟩:=trodAll_three hA
 obtain⟨rfl,rfl⟩:=trodVars_none hV
 obtain⟨y0,hy0,b0⟩:=Qoy opn_31 (.inl ⟨_,Tryz.underlying31⟩) (hval 0 31 v0 rfl rfl) h0
 obtain⟨y1,hy1,b1⟩:=Qoy opn_36 (.inl ⟨_,Tryz.underlying36⟩) (hval 1 36 v1 rfl rfl) h1
 obtain⟨y2,hy2,b2⟩:=Qx3 opn_3 (fun _=>rfl) (fun _ _ _=>⟨by rw[Tryz.underlying3];simp,by rw[Tryz.underlying3];simp⟩) (hval 2 3 v2 rfl rfl) h2
 obtain⟨n,hn⟩:∃ n,Xc n y0 y1 y2=some true:=Qxp y0 y1 y2 b0 b1 b2
 have hF:=Qj0 _ hn
 have hS:∀ b,Sx S0n g0n [] b->S0n b:=fun b h=>by rcases h with h | ⟨_,_,_,h,_⟩;exact h;cases h
 refine(hF.2 W S0n g0n #[v0,v1,v2] (fun _ h=>h.elim) (fun _ _=>rfl) (fun _ _ h=>by cases h) (fun _ _ _ _ _ _ _ h=>by cases h) (fun _ ⟨_,_,_,h,_⟩=>by cases h) ⟨v0,[v1,v2],rfl,Ly.val_mono (Kp.refl _ _) (fun b h=>.inl (hS b h)) (Ng.refl _) _ _ hy0,⟨v1,[v2],rfl,Ly.val_mono (Kp.refl _ _) (fun b h=>.inl (hS b h)) (Ng.refl _) _ _ hy1,⟨v2,[],rfl,Ly.val_mono (Kp.refl _ _) (fun b h=>.inl (hS b h)) (Ng.refl _) _ _ hy2,rfl⟩⟩⟩ (Qx5 (fun b h=>hS b h) hsh)).mono ?_
 rintro e W' ⟨v,γ',rfl,hb⟩
 have hv:v=.bool true:=hb.res
 subst hv
 have hbel:Below W.heap.size W W':=⟨hb.os,hb.tape,hb.output,hb.grow,fun k hk=>hb.old k hk (fun⟨_,_,_,h,_⟩=>by cases h)⟩
 simp only[List.append_nil] at hW'
 refine⟨_,rfl,Qnt (pa:=p0++p1++p2) (pv:=[]) hW' hbel (fun _ _ _=>trodAll_mk1 (shut_bool Tryz.underlying4 _)) (fun sp hsp=>by rw[show p0++p1++p2=p0++(p1++(p2)) by simp only[List.append_assoc]];exact trodAll_mk3 (WideElems.Trod_stays laidOutK (by kernel_rfl) (of_decide_eq_true (by kernel_rfl)) h0 (fun x hx=>hbel.same (hW'.lt x (List.mem_append_left _ (List.mem_append_left _ (hx))))) (fun x hx=>hsp x (List.mem_append_left _ (List.mem_append_left _ (hx))))) (WideElems.Trod_stays laidOutK (by kernel_rfl) (of_decide_eq_true (by kernel_rfl)) h1 (fun x hx=>hbel.same (hW'.lt x (List.mem_append_left _ (List.mem_append_right _ (hx))))) (fun x hx=>hsp x (List.mem_append_left _ (List.mem_append_right _ (hx))))) (WideElems.Trod_stays laidOutK (by kernel_rfl) (of_decide_eq_true (by kernel_rfl)) h2 (fun x hx=>hbel.same (hW'.lt x (List.mem_append_right _ (hx)))) (fun x hx=>hsp x (List.mem_append_right _ (hx))))) (fun _ _=>rfl) (by simp) (ok_one (by kernel_rfl) rfl (okWide_bool_mk Tryz.underlying4 _))⟩
theorem and_t {a b : Bool} (ha : a = true) (hb : b = true) : (a && b) = true := by rw [ha, hb]; rfl
set_option maxHeartbeats 8000000 in
theorem MarchEven_closed : joinedFacts Tryz.prog 4 Tryz.f4 Rows.marchEvenSpec Rows.marchEvenRow = true := by
  unfold joinedFacts
  repeat' (with_reducible apply and_t)
  all_goals as_aux_lemma => kernel_rfl
theorem MarchEven_row:Rows.MarchEvenSaid:=
 OpenClaim.holds_of_wide 4 Tryz.f4 rfl rfl rfl rfl rfl rfl rfl ⟨rfl,rfl,rfl,rfl,rfl⟩ rfl rfl rfl rfl rfl (by kernel_rfl) Tryz.func4 MarchEven_closed
  (of_decide_eq_true (by kernel_rfl)) (by unfold Func.isWrapper;rw[if_neg (of_decide_eq_false (by kernel_rfl))];exact⟨rfl,rfl⟩)
  (fun os started H enc _=>MarchEven_lifted os started H enc)
theorem MarchEven_holds:Rows.MarchEvenCardSaid:=
 Claim7.holds_tied_plain_at .later [] _ _ _ _
  MarchEven_row (fun _ h=>by cases h) (by kernel_rfl) (fun _ h=>by cases h) marchEven_row_tie rfl ⟨rfl,rfl⟩ (by kernel_rfl) rfl
  (fun f fn hf hfn=>by
   obtain rfl:f=4:=Option.some.inj ((show Tryz.prog.funcNamed Rows.marchEvenRow.func=some 4 by kernel_rfl).symm.trans hf) |>.symm
   obtain rfl:fn=Tryz.f4:=(Option.some.inj (Tryz.func4.symm.trans hfn)).symm
   exact⟨by kernel_rfl,fun j t ht=>by
    rw[Tryz.params4] at ht
    have hm:t∈[31,36,3]:=by simpa using Array.mem_of_getElem? ht
    have hall:([31,36,3].all fun u=>!Tryz.prog.wantsStandIn u)=true:=by kernel_rfl
    exact(show Tryz.prog.wantsStandIn t=false by simpa using List.all_eq_true.1 hall t hm)⟩)
  (by kernel_rfl)
#print axioms MarchEven_holds
end Go.Proofs.YthbndkiddockmaaGreatDoor
