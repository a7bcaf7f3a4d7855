/-
  It is proved that the statement JacChains of retrospect holds: for every input the call returns true,and the arguments read as they did.
  Conditions: none beyond the statement's own.
-/
import Derived.Test.YtkkfedionkhgnaaGreatDoorLJacChains
import Derived.Test.YtkkfedionkhgnaaGreatDoorCJacChains
namespace Go.Proofs.YtkkfedionkhgnaaGreatDoor
open Go Go.RowKit Go.ChangeShapes Go.WideShapes Go.ChangeAt
set_option maxRecDepth 100000
set_option maxHeartbeats 8000000
theorem JacChains_row:Rows.JacChainsSaid:=
 OpenClaim.holds_of_wide 9 Tryz.f9 rfl rfl rfl rfl rfl rfl rfl ⟨rfl,rfl,rfl,rfl,rfl⟩ rfl rfl rfl rfl rfl (by as_aux_lemma=>kernel_rfl) Tryz.func9 Qsd
  (of_decide_eq_true (by as_aux_lemma=>kernel_rfl)) (by unfold Func.isWrapper;rw[if_neg (of_decide_eq_false (by as_aux_lemma=>kernel_rfl))];exact⟨rfl,rfl⟩)
  (λos started H enc _=>Qst os started H enc)
theorem JacChains_holds:Rows.JacChainsCardSaid:=
 Claim7.holds_tied_plain_at .later [] _ _ _ _
  JacChains_row (λ_ h=>by cases h) (by as_aux_lemma=>kernel_rfl) (λ_ h=>by cases h) jacChains_row_tie rfl ⟨rfl,rfl⟩ (by as_aux_lemma=>kernel_rfl) rfl
  (λf fn hf hfn=>by
   obtain rfl:f=9:=Option.some.inj ((show Tryz.prog.funcNamed Rows.jacChainsRow.func=some 9 by as_aux_lemma=>kernel_rfl).symm.trans hf) |>.symm
   obtain rfl:fn=Tryz.f9:=(Option.some.inj (Tryz.func9.symm.trans hfn)).symm
   exact⟨by as_aux_lemma=>kernel_rfl,λj t ht=>by
    rw[Tryz.params9] at ht
    have hm:t∈[123,123]:=by simpa using Array.mem_of_getElem? ht
    have hall:([123,123].all λu=>!Tryz.prog.wantsStandIn u)=true:=by as_aux_lemma=>kernel_rfl
    exact(show Tryz.prog.wantsStandIn t=false by simpa using List.all_eq_true.1 hall t hm)⟩)
  (by as_aux_lemma=>kernel_rfl)
#print axioms JacChains_holds
end Go.Proofs.YtkkfedionkhgnaaGreatDoor
