/-
  It is proved that the statement EngineReads of retrospect holds: for every input the call returns true,and the arguments read as they did.
  Conditions: none beyond the statement's own.
-/
import GoSem.ClaimGoes
import Derived.Test.YthdbapalogijdaaGreatDoorLEngineReads
import Derived.Test.YthdbapalogijdaaGreatDoorCEngineReads
import Derived.Test.YthdbapalogijdaaGreatDoorTieE
namespace Go.Proofs.YthdbapalogijdaaGreatDoor
open Go Go.RowKit Go.ChangeShapes Go.WideShapes Go.ChangeAt
set_option maxRecDepth 100000
set_option maxHeartbeats 8000000
theorem goes_by {c : OpenClaim} {P : Program} (hs : c.start = .entering) (h : P.funcs.all (fun f => !f.goes) = true) : false = c.goesBy P := by
  have h0 : ∀ f ∈ P.funcs.toList, f.goes = false := fun f hf => by
    have := (Array.all_eq_true_iff_forall_mem.1 h) f (Array.mem_toList_iff.1 hf)
    simpa using this
  have h1 : ∀ g : Nat, (P.funcs[g]?).any Func.goes = false := fun g => by
    cases hq : P.funcs[g]? with
    | none => rfl
    | some f => exact h0 f (Array.mem_toList_iff.2 (Array.mem_of_getElem? hq))
  have h2 : P.funcs.any Func.goes = false := by
    rw [Bool.eq_false_iff]; intro q
    obtain ⟨i, hi, q⟩ := Array.any_eq_true.1 q
    rw [h0 _ (Array.mem_toList_iff.2 (Array.getElem_mem hi))] at q; cases q
  have h3 : ∀ f, P.goes f = false := fun f => by
    unfold Program.goes
    rw [h2, Bool.and_false, Bool.or_false, Bool.eq_false_iff]
    intro q
    obtain ⟨g, _, q⟩ := List.any_eq_true.1 q
    rw [h1 g] at q; cases q
  unfold OpenClaim.goesBy Program.goesAt Program.goesFrom
  rw [hs]
  cases P.funcNamed c.func with
  | none => rfl
  | some f => simp [h3]
theorem EngineReads_row:Rows.EngineReadsSaid:=
 OpenClaim.holds_of_wide 3 Tryz.f3 rfl rfl rfl rfl rfl rfl rfl ⟨rfl,rfl,rfl,rfl,rfl⟩ rfl rfl rfl rfl rfl (by as_aux_lemma=>kernel_rfl) Tryz.func3 Qzp
  (of_decide_eq_true (by as_aux_lemma=>kernel_rfl)) (by unfold Func.isWrapper;rw[if_neg (of_decide_eq_false (by as_aux_lemma=>kernel_rfl))];exact⟨rfl,rfl⟩)
  (λos started H enc _=>Q0w os started H enc)
theorem EngineReads_holds:Rows.EngineReadsCardSaid:=
 Claim7.holds_tied_plain_at .later [] _ _ _ _
  EngineReads_row (λ_ h=>by cases h) (by as_aux_lemma=>kernel_rfl) (λ_ h=>by cases h) engineReads_row_tie rfl ⟨rfl,rfl⟩ (by as_aux_lemma=>kernel_rfl) rfl
  (λf fn hf hfn=>by
   obtain rfl:f=3:=Option.some.inj ((show Tryz.prog.funcNamed Rows.engineReadsRow.func=some 3 by as_aux_lemma=>kernel_rfl).symm.trans hf) |>.symm
   obtain rfl:fn=Tryz.f3:=(Option.some.inj (Tryz.func3.symm.trans hfn)).symm
   exact⟨by as_aux_lemma=>kernel_rfl,λj t ht=>by
    rw[Tryz.params3] at ht
    have hm:t∈[9]:=by simpa using Array.mem_of_getElem? ht
    have hall:([9].all λu=>!Tryz.prog.wantsStandIn u)=true:=by as_aux_lemma=>kernel_rfl
    exact(show Tryz.prog.wantsStandIn t=false by simpa using List.all_eq_true.1 hall t hm)⟩)
  (goes_by rfl (by as_aux_lemma=>kernel_rfl))
#print axioms EngineReads_holds
end Go.Proofs.YthdbapalogijdaaGreatDoor
