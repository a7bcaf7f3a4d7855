/-
  It is proved that the statement TopTexts of retrospect holds: for every input the call returns true,and the arguments read as they did.
  Conditions: none beyond the statement's own.
-/
import Derived.Test.YteejhjpdcefgfaaGreatDoorLTopTexts
import Derived.Test.YteejhjpdcefgfaaGreatDoorCTopTexts
namespace Go.Proofs.YteejhjpdcefgfaaGreatDoor
open Go Go.RowKit Go.ChangeShapes Go.WideShapes Go.ChangeAt
set_option maxRecDepth 100000
set_option maxHeartbeats 8000000
theorem TopTexts_row:Rows.TopTextsSaid:=
 OpenClaim.holds_of_wide 3 Tryz.f3 rfl rfl rfl rfl rfl rfl rfl ⟨rfl,rfl,rfl,rfl,rfl⟩ rfl rfl rfl rfl rfl (by as_aux_lemma=>kernel_rfl) Tryz.func3 Qyh
  (of_decide_eq_true (by as_aux_lemma=>kernel_rfl)) (by unfold Func.isWrapper;rw[if_neg (of_decide_eq_false (by as_aux_lemma=>kernel_rfl))];exact⟨rfl,rfl⟩)
  (λos started H enc _=>Qz9 os started H enc)
theorem TopTexts_holds:Rows.TopTextsCardSaid:=
 Claim7.holds_tied_plain_at .later [] _ _ _ _
  TopTexts_row (λ_ h=>by cases h) (by as_aux_lemma=>kernel_rfl) (λ_ h=>by cases h) topTexts_row_tie rfl ⟨rfl,rfl⟩ (by as_aux_lemma=>kernel_rfl) rfl
  (λf fn hf hfn=>by
   obtain rfl:f=3:=Option.some.inj ((show Tryz.prog.funcNamed Rows.topTextsRow.func=some 3 by as_aux_lemma=>kernel_rfl).symm.trans hf) |>.symm
   obtain rfl:fn=Tryz.f3:=(Option.some.inj (Tryz.func3.symm.trans hfn)).symm
   exact⟨by as_aux_lemma=>kernel_rfl,λj t ht=>by
    rw[Tryz.params3] at ht
    have hm:t∈[25,42]:=by simpa using Array.mem_of_getElem? ht
    have hall:([25,42].all λu=>!Tryz.prog.wantsStandIn u)=true:=by as_aux_lemma=>kernel_rfl
    exact(show Tryz.prog.wantsStandIn t=false by simpa using List.all_eq_true.1 hall t hm)⟩)
  (by as_aux_lemma=>kernel_rfl)
#print axioms TopTexts_holds
end Go.Proofs.YteejhjpdcefgfaaGreatDoor
