/- The law HexBetween: what is written of a binary64 with few places by Down is worth no more than it, by Up no less, by Zero it lies toward nought, and by each mode it is one of the two. The condition: the library's variables hold what the program's text lays (the card ties them). -/
import Derived.Test.YtddaldghlinokaaGreatDoorPartCB
set_option linter.all false
namespace Go.Proofs.YtddaldghlinokaaGreatDoor.Hfn
open Go Go.ChangeShapes Go.WideShapes Go.ChangeAt Go.RowKit Go.Deep R5 Hx
theorem bt_plain (f : FuncId) (fn : Func) (hf : Tryz.pinned.checked.prog.funcNamed "numeral/numerallaw12.HexBetween" = some f) (hfn : Tryz.pinned.checked.prog.funcs[f]? = some fn) :
  true = Tryz.pinned.checked.prog.looks [] /\ ∀ (j : Nat) t, fn.params[j]? = some t -> Tryz.pinned.checked.prog.wantsStandIn t = false := by
 obtain rfl : f = 6 := Option.some.inj ((show Tryz.prog.funcNamed "numeral/numerallaw12.HexBetween" = some 6 by kernel_rfl).symm.trans hf) |>.symm
 obtain rfl : fn = Tryz.f6 := (Option.some.inj (Tryz.func6.symm.trans hfn)).symm
 refine ⟨by kernel_rfl, fun j t ht => ?_⟩
 rw [Tryz.params6] at ht
 have hm : t ∈ [31, 3] := by simpa using Array.mem_of_getElem? ht
 have hall : ([31, 3].all fun u => !Tryz.prog.wantsStandIn u) = true := by kernel_rfl
 exact (show Tryz.prog.wantsStandIn t = false by simpa using List.all_eq_true.1 hall t hm)
end Go.Proofs.YtddaldghlinokaaGreatDoor.Hfn
namespace Go.Proofs.YtddaldghlinokaaGreatDoor
open Go
set_option maxHeartbeats 16000000 in
theorem hexBetween_card : Rows.HexBetweenCardSaid :=
 Claim7.holds_tied_plain_at .later [] _ _ _ _ Hfn.bt_said (fun _ h => by cases h) (by as_aux_lemma => kernel_rfl) (fun _ h => by cases h) hexBetween_row_tie rfl ⟨rfl, rfl⟩ (by as_aux_lemma => kernel_rfl) rfl Hfn.bt_plain (by as_aux_lemma => kernel_rfl)
#print axioms hexBetween_card
end Go.Proofs.YtddaldghlinokaaGreatDoor
