/- ReadNumbers is proved in its first form: for every form, every number, every mode the program's read.Number answers what the document's numeralref16.Number answers, and what was handed in stays. -/
import Derived.Test.YtcdimmblnbkjjaaGreatDoorPartBF
set_option linter.all false
namespace Go.Proofs.YtcdimmblnbkjjaaGreatDoor.Fin3
open Go Go.ChangeShapes Go.WideShapes Go.ChangeAt Go.RowKit Go.Deep R5
theorem rn_plain (f : FuncId) (fn : Func) (hf : Tryz.pinned.checked.prog.funcNamed "numeral/numerallaw16.ReadNumbers" = some f) (hfn : Tryz.pinned.checked.prog.funcs[f]? = some fn) :
  true=Tryz.pinned.checked.prog.looks []/\∀(j:Nat) t,fn.params[j]?=some t->Tryz.pinned.checked.prog.wantsStandIn t=false:=by
 obtain rfl : f = 3 := Option.some.inj ((show Tryz.prog.funcNamed "numeral/numerallaw16.ReadNumbers" = some 3 by kernel_rfl).symm.trans hf) |>.symm;obtain rfl:fn=Tryz.f3:=(Option.some.inj (Tryz.func3.symm.trans hfn)).symm;refine⟨by kernel_rfl,fun j t ht=>?_⟩;rw[Tryz.params3] at ht;have hm:t∈[23,33,5]:=by simpa using Array.mem_of_getElem? ht
 have hall:([23,33,5].all fun u=>!Tryz.prog.wantsStandIn u)=true:=by kernel_rfl
 exact(show Tryz.prog.wantsStandIn t=false by simpa using List.all_eq_true.1 hall t hm)
end Go.Proofs.YtcdimmblnbkjjaaGreatDoor.Fin3
namespace Go.Proofs.YtcdimmblnbkjjaaGreatDoor
open Go
set_option maxHeartbeats 16000000 in
theorem readNumbers_card:Rows.ReadNumbersCardSaid:=
 Claim7.holds_tied_plain_at .later [] _ _ _ _ Fin3.rn_said (fun _ h=>by cases h) (by as_aux_lemma=>kernel_rfl) (fun _ h=>by cases h) readNumbers_row_tie rfl ⟨rfl,rfl⟩ (by as_aux_lemma=>kernel_rfl) rfl Fin3.rn_plain (by as_aux_lemma=>kernel_rfl)
#print axioms readNumbers_card
end Go.Proofs.YtcdimmblnbkjjaaGreatDoor
