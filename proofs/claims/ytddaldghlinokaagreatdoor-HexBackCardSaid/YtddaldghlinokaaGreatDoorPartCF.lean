/- The law HexBack: in any form, what is printed of a finite float is read back as it, by every mode and without a flag, with noughts behind it too, and the dump of any bits is loaded as they. The condition: the library's variables hold what the program's text lays (the card ties them). -/
import Derived.Test.YtddaldghlinokaaGreatDoorPartCE
set_option linter.all false
namespace Go.Proofs.YtddaldghlinokaaGreatDoor.Hfn
open Go Go.ChangeShapes Go.WideShapes Go.ChangeAt Go.RowKit Go.Deep R5 Hx
theorem bk_plain (f : FuncId) (fn : Func) (hf : Tryz.pinned.checked.prog.funcNamed "numeral/numerallaw12.HexBack" = some f) (hfn : Tryz.pinned.checked.prog.funcs[f]? = some fn) :
  true = Tryz.pinned.checked.prog.looks [] /\ ∀ (j : Nat) t, fn.params[j]? = some t -> Tryz.pinned.checked.prog.wantsStandIn t = false := by
 obtain rfl : f = 5 := Option.some.inj ((show Tryz.prog.funcNamed "numeral/numerallaw12.HexBack" = some 5 by kernel_rfl).symm.trans hf) |>.symm
 obtain rfl : fn = Tryz.f5 := (Option.some.inj (Tryz.func5.symm.trans hfn)).symm
 refine ⟨by kernel_rfl, fun j t ht => ?_⟩
 rw [Tryz.params5] at ht
 have hm : t ∈ [23, 31, 5, 3] := by simpa using Array.mem_of_getElem? ht
 have hall : ([23, 31, 5, 3].all fun u => !Tryz.prog.wantsStandIn u) = true := by kernel_rfl
 exact (show Tryz.prog.wantsStandIn t = false by simpa using List.all_eq_true.1 hall t hm)
end Go.Proofs.YtddaldghlinokaaGreatDoor.Hfn
namespace Go.Proofs.YtddaldghlinokaaGreatDoor
open Go
set_option maxHeartbeats 16000000 in
theorem hexBack_card : Rows.HexBackCardSaid :=
 Claim7.holds_tied_plain_at .later [] _ _ _ _ Hfn.bk_said (fun _ h => by cases h) (by as_aux_lemma => kernel_rfl) (fun _ h => by cases h) hexBack_row_tie rfl ⟨rfl, rfl⟩ (by as_aux_lemma => kernel_rfl) rfl Hfn.bk_plain (by as_aux_lemma => kernel_rfl)
#print axioms hexBack_card
end Go.Proofs.YtddaldghlinokaaGreatDoor
