/-
  It is proved that the statement SweepAlong of retrospect holds: for every input the call returns true,and the arguments read as they did.
  Conditions: none beyond the statement's own.
-/
import Derived.Test.YtkkfedionkhgnaaGreatDoorLSweepAlong
import Derived.Test.YtkkfedionkhgnaaGreatDoorCSweepAlong
namespace Go.Proofs.YtkkfedionkhgnaaGreatDoor
open Go Go.RowKit Go.ChangeShapes Go.WideShapes Go.ChangeAt
set_option maxRecDepth 100000
set_option maxHeartbeats 8000000
theorem SweepAlong_row:Rows.SweepAlongSaid:=
 OpenClaim.holds_of_wide 7 Tryz.f7 rfl rfl rfl rfl rfl rfl rfl ⟨rfl,rfl,rfl,rfl,rfl⟩ rfl rfl rfl rfl rfl (by as_aux_lemma=>kernel_rfl) Tryz.func7 Qu8
  (of_decide_eq_true (by as_aux_lemma=>kernel_rfl)) (by unfold Func.isWrapper;rw[if_neg (of_decide_eq_false (by as_aux_lemma=>kernel_rfl))];exact⟨rfl,rfl⟩)
  (λos started H enc _=>Qvl os started H enc)
theorem SweepAlong_holds:Rows.SweepAlongCardSaid:=
 Claim7.holds_tied_plain_at .later [] _ _ _ _
  SweepAlong_row (λ_ h=>by cases h) (by as_aux_lemma=>kernel_rfl) (λ_ h=>by cases h) sweepAlong_row_tie rfl ⟨rfl,rfl⟩ (by as_aux_lemma=>kernel_rfl) rfl
  (λf fn hf hfn=>by
   obtain rfl:f=7:=Option.some.inj ((show Tryz.prog.funcNamed Rows.sweepAlongRow.func=some 7 by as_aux_lemma=>kernel_rfl).symm.trans hf) |>.symm
   obtain rfl:fn=Tryz.f7:=(Option.some.inj (Tryz.func7.symm.trans hfn)).symm
   exact⟨by as_aux_lemma=>kernel_rfl,λj t ht=>by
    rw[Tryz.params7] at ht
    have hm:t∈[102,38,3]:=by simpa using Array.mem_of_getElem? ht
    have hall:([102,38,3].all λu=>!Tryz.prog.wantsStandIn u)=true:=by as_aux_lemma=>kernel_rfl
    exact(show Tryz.prog.wantsStandIn t=false by simpa using List.all_eq_true.1 hall t hm)⟩)
  (by as_aux_lemma=>kernel_rfl)
#print axioms SweepAlong_holds
end Go.Proofs.YtkkfedionkhgnaaGreatDoor
