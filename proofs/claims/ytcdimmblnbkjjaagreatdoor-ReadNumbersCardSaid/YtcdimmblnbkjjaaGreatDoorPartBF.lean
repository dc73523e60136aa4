/- Lemmas. -/
import Derived.Test.YtcdimmblnbkjjaaGreatDoorPartBE
import Derived.Test.YtcdimmblnbkjjaaGreatDoorPartBD
set_option linter.all false
namespace Go.Proofs.YtcdimmblnbkjjaaGreatDoor.Fin3
open Go Go.ChangeShapes Go.WideShapes Go.ChangeAt Go.RowKit Go.Deep R5
theorem rn_said:Rows.ReadNumbersSaid:=
 OpenClaim.holds_of_cond 3 Tryz.f3 rfl rfl rfl rfl rfl rfl rfl ⟨rfl,rfl,rfl,rfl,rfl⟩ rfl rfl rfl rfl rfl (by kernel_rfl) Tryz.func3 q6t
  (of_decide_eq_true (by kernel_rfl)) (by unfold Func.isWrapper;first|(rw[if_pos (by decide +kernel)];kernel_rfl)|(rw[if_neg (by decide +kernel)];exact⟨rfl,rfl⟩))
  (fun os started H enc _ F=>by rw[OpenClaim.pre_eq_preRow];exact q6s os started H enc F)
end Go.Proofs.YtcdimmblnbkjjaaGreatDoor.Fin3
