import Derived.Handed
import Derived.Shelf.Vars
import Derived.Stop.LaidErr
import Derived.MakeChecks
import Derived.Test.YthdbapalogijdaaGreatDoorRows
import Derived.Test.YthdbapalogijdaaGreatDoorFrame
import Derived.Test.YthdbapalogijdaaGreatDoorLib
namespace Go.Proofs.YthdbapalogijdaaGreatDoor
open Go Go.RowKit
theorem mM{H:Type}{enc:TypeId×Value->H}{a:Assume}{C:Checked}{os:Os}{f:FuncId}{fn:Func}{s:ChangeSpec}{conds:List PathCond}{apart fresh handsOn again:Bool}{X:World->Array Value->Prop}
 (hX:∀(w w':World) (args:Array Value),w.heap=w'.heap->X w args->X w' args)
 (own:ownKnob C.prog.godebug=none) (started:os.Started) (noInit:C.prog.inits.idxOf? f=none) (hfn:C.prog.funcs[f]?=some fn)
 (witness:∃(w:World) (tape:Tape) (i:Input),w.os=os/\(w.forCall tape i).Shaped C.prog/\i.vars=[]/\Input.okWide C.prog (w.forCall tape i) .any w.heap.size f i /\
  ((s.pre enc C.prog fn conds apart (w.forCall tape i).memory i.args/\X (w.forCall tape i).memory i.args)/\sizedMet enc C.prog fn (OpenSpec.ofChange s) apart (w.forCall tape i).memory i.args)/\a.holds C.prog (lone (Frame.enter C.prog f i.args .normal) [] (w.forCall tape i)))
 (contract:∀(W:World) (base:Nat) (args:Array Value) (ds gs:List (DataW H)) (before:List MemPlace),
  (∀(j:Nat) t v,fn.params[j]?=some t->args[j]?=some v->Value.okWide C.prog W .any base t v) ->
  DataW.Whole enc C.prog fn.params.toList s.vars apart W args.toList ds gs before ->
  conds.all (PathCond.test C.prog ⟨fn.params.toList,ds,s.plain.varTypes C.prog,gs⟩)=true ->
  (DataW.weightsEach C.prog (fn.params.toList++s.plain.varTypes C.prog) (ds++gs)).all (·<=reachBytes)=true->X W args->W.ShapedOpen C.prog ->
  a.holds C.prog (lone (Frame.enter C.prog f args .normal) [] W) ->
  Calls C.prog f args W λe W'=>∃ v,e=.returned v/\s.post enc C.prog fn apart fresh handsOn again W args v W') :
 ReturnsInHanded a C os f .any (λw args=>(s.pre enc C.prog fn conds apart w args/\X w args)/\sizedMet enc C.prog fn (OpenSpec.ofChange s) apart w args) (s.post enc C.prog fn apart fresh handsOn again):=by
 refine returnsInHanded_of_calls own started noInit witness ?_;intro w tape i _ hsh _ hok hpre hholds;obtain⟨_,_,_,fn',hfn',_,_,_,_,hval⟩:=hok;have e:fn'=fn:=Option.some.inj (hfn'.symm.trans hfn);subst e;obtain⟨⟨⟨ds,gs,before,hw,hc⟩,hx⟩,hz⟩:=hpre;have hw':=DataW.Whole.of_heap (w':=w.forCall tape i) oe hw;refine(contract (w.forCall tape i) w.heap.size i.args ds gs before hval hw' hc (hz.weights hw) (hX _ _ _ oe hx) hsh hholds).mono λe W' ⟨v,he,hp⟩=>?_;subst he;exact ChangeSpec.post_blind hp
theorem Jjl:(Rows.laid_internal_strconv_uint64pow10:DataW Unit)=Lib.tabData .u64 Lib.pow10Tab:=ox
theorem EQ{w:World}{a:Addr}{v:Value}(h:w.cell? a=some v):a.block<w.heap.size:=by unfold World.cell? at h;split at h;rename_i hb;exact(Array.getElem?_eq_some_iff.1 hb).1;cases h
theorem PU(u:TypeId)(h:Tryz.prog.typeName? 3 u=some "*errors.errorString"):u=649:=
 have star: "*"++ "errors.errorString"= "*errors.errorString":=oc
 typeName_ptr_named (nm:= "errors.errorString") (by rw[star];kernel_rfl) ox oc u (by rw[star];exact h)
theorem Jjm{W:World}{S:Nat->Prop}(hS:∀ b,¬ S b)(hsh:W.ShapedOpen Tryz.prog){r:List (String×DataW Unit)}(hl:laidMet Tryz.prog (("internal/strconv.uint64pow10",Rows.laid_internal_strconv_uint64pow10)::r) W)
 {r2:List (String×DataW Unit)}(h2:laidMet Tryz.prog (("strconv.ErrRange",Rows.laid_strconv_ErrRange)::r2) W) {r3:List (String×DataW Unit)}(h3:laidMet Tryz.prog (("strconv.ErrSyntax",Rows.laid_strconv_ErrSyntax)::r3) W):jD W S:=by
 rw[Jjl] at hl;have ht:Lib.TabIs Tryz.prog W "internal/strconv.uint64pow10" .u64 Lib.pow10Tab:=Lib.tabIs_of_head (g:=1) ox ox Tryz.underlying580 Tryz.underlying195 ox ox hl;have hm:=cell_of_shapedOpen_int (P:=Tryz.prog) (g:=0) (t:=3) (zero:=#[.int .i64 0]) hsh (wd ox) ox rfl ox ox Tryz.underlying3;have gR:Tryz.prog.globalNamed "strconv.ErrRange"=some 7:=ox
 have gS:Tryz.prog.globalNamed "strconv.ErrSyntax"=some 6:=ox
 obtain⟨a1,_,hv1,_⟩:=laid_sentinel h2 gR ox Tryz.underlying297 PU Tryz.underlying649 Tryz.underlying651 rfl rfl Tryz.underlying9 ox ox;obtain⟨a2,_,hv2,_⟩:=laid_sentinel h3 gS ox Tryz.underlying297 PU Tryz.underlying649 Tryz.underlying651 rfl rfl Tryz.underlying9 ox ox;have c1:W.cell? ⟨7,0,none⟩=some (.iface 649 (.pointer (some a1))):=by simpa using World.var?_cell gR hv1 0
 have c2:W.cell? ⟨6,0,none⟩=some (.iface 649 (.pointer (some a2))):=by simpa using World.var?_cell gS hv2 0
 refine⟨λb hb=>⟨hS b,?_⟩,hm,ht,⟨_,_,c2⟩,_,_,c1⟩;obtain⟨m,hm⟩:=hm;have b0:=EQ hm;have b1:=EQ (Lib.TabIs.cell ht (g:=1) ox 0 (by rw[Lib.pow10Tab_length];decide));have b2:=EQ c1;have b3:=EQ c2;simp only at b0 b1 b2 b3;unfold gN at hb;omega
end Go.Proofs.YthdbapalogijdaaGreatDoor
