/-
  It is proved that the statement LookMisses of retrospect holds: for every input the call returns true,and the arguments read as they did.
  Conditions: none beyond the statement's own.
-/
import Derived.Test.YtgmknbfonlbjfaaGreatDoorLLookMisses
import Derived.Test.YtgmknbfonlbjfaaGreatDoorCLookMisses
namespace Go.Proofs.YtgmknbfonlbjfaaGreatDoor
open Go Go.RowKit Go.ChangeShapes Go.WideShapes Go.ChangeAt
set_option maxRecDepth 100000
set_option maxHeartbeats 8000000
theorem LookMisses_row:Rows.LookMissesSaid:=
 OpenClaim.holds_of_wide 3 Tryz.f3 rfl rfl rfl rfl rfl rfl rfl ⟨rfl,rfl,rfl,rfl,rfl⟩ rfl rfl rfl rfl rfl (by as_aux_lemma=>kernel_rfl) Tryz.func3 Qox
  (of_decide_eq_true (by as_aux_lemma=>kernel_rfl)) (by unfold Func.isWrapper;rw[if_neg (of_decide_eq_false (by as_aux_lemma=>kernel_rfl))];exact⟨rfl,rfl⟩)
  (λos started H enc _=>Qo6 os started H enc)
theorem LookMisses_holds:Rows.LookMissesCardSaid:=
 Claim7.holds_tied_plain_at .later [] _ _ _ _
  LookMisses_row (λ_ h=>by cases h) (by as_aux_lemma=>kernel_rfl) (λ_ h=>by cases h) lookMisses_row_tie rfl ⟨rfl,rfl⟩ (by as_aux_lemma=>kernel_rfl) rfl
  (λf fn hf hfn=>by
   obtain rfl:f=3:=Option.some.inj ((show Tryz.prog.funcNamed Rows.lookMissesRow.func=some 3 by as_aux_lemma=>kernel_rfl).symm.trans hf) |>.symm
   obtain rfl:fn=Tryz.f3:=(Option.some.inj (Tryz.func3.symm.trans hfn)).symm
   exact⟨by as_aux_lemma=>kernel_rfl,λj t ht=>by
    rw[Tryz.params3] at ht
    have hm:t∈[28,29]:=by simpa using Array.mem_of_getElem? ht
    have hall:([28,29].all λu=>!Tryz.prog.wantsStandIn u)=true:=by as_aux_lemma=>kernel_rfl
    exact(show Tryz.prog.wantsStandIn t=false by simpa using List.all_eq_true.1 hall t hm)⟩)
  (by as_aux_lemma=>kernel_rfl)
#print axioms LookMisses_holds
end Go.Proofs.YtgmknbfonlbjfaaGreatDoor
