/- The law HexPrint: of any form, bits, places and mode the texts that the program's hex.Print, Places and Dump give, or their errors, are those that the document's do. The library's variables are tied to the program's text. -/
import Derived.Test.YtppgcnhlpnmieaaGreatDoorPartBZ
set_option linter.all false
namespace Go.Proofs.YtppgcnhlpnmieaaGreatDoor.Hfn
open Go Go.ChangeShapes Go.WideShapes Go.ChangeAt Go.RowKit Go.Deep R5 Hx
theorem pr_plain (f : FuncId) (fn : Func) (hf : Tryz.pinned.checked.prog.funcNamed "numeral/numerallaw12.HexPrint" = some f) (hfn : Tryz.pinned.checked.prog.funcs[f]? = some fn) :
  true=Tryz.pinned.checked.prog.looks []/\∀(j:Nat) t,fn.params[j]?=some t->Tryz.pinned.checked.prog.wantsStandIn t=false:=by
 obtain rfl : f = 5 := Option.some.inj ((show Tryz.prog.funcNamed "numeral/numerallaw12.HexPrint" = some 5 by kernel_rfl).symm.trans hf) |>.symm;obtain rfl:fn=Tryz.f5:=(Option.some.inj (Tryz.func5.symm.trans hfn)).symm;refine⟨by kernel_rfl,fun j t ht=>?_⟩;rw[Tryz.params5] at ht;have hm:t∈[23,31,3,5]:=by simpa using Array.mem_of_getElem? ht
 have hall:([23,31,3,5].all fun u=>!Tryz.prog.wantsStandIn u)=true:=by kernel_rfl
 exact(show Tryz.prog.wantsStandIn t=false by simpa using List.all_eq_true.1 hall t hm)
end Go.Proofs.YtppgcnhlpnmieaaGreatDoor.Hfn
namespace Go.Proofs.YtppgcnhlpnmieaaGreatDoor
open Go
set_option maxHeartbeats 16000000 in
theorem hexPrint_card:Rows.HexPrintCardSaid:=
 Claim7.holds_tied_plain_at .later [] _ _ _ _ Hfn.pr_said (fun _ h=>by cases h) (by as_aux_lemma=>kernel_rfl) (fun _ h=>by cases h) hexPrint_row_tie rfl ⟨rfl,rfl⟩ (by as_aux_lemma=>kernel_rfl) rfl Hfn.pr_plain (by as_aux_lemma=>kernel_rfl)
#print axioms hexPrint_card
end Go.Proofs.YtppgcnhlpnmieaaGreatDoor
