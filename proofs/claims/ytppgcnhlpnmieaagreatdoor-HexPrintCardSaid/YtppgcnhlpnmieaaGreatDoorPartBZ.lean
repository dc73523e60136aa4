/- Lemmas. -/
import Derived.Test.YtppgcnhlpnmieaaGreatDoorPartBY
import Derived.Test.YtppgcnhlpnmieaaGreatDoorPartBX
set_option linter.all false
namespace Go.Proofs.YtppgcnhlpnmieaaGreatDoor.Hfn
open Go Go.ChangeShapes Go.WideShapes Go.ChangeAt Go.RowKit Go.Deep R5 Hx
theorem pr_said:Rows.HexPrintSaid:=
 OpenClaim.holds_of_cond 5 Tryz.f5 rfl rfl rfl rfl rfl rfl rfl ⟨rfl,rfl,rfl,rfl,rfl⟩ rfl rfl rfl rfl rfl (by kernel_rfl) Tryz.func5 q8g
  (of_decide_eq_true (by kernel_rfl)) (by unfold Func.isWrapper;first|(rw[if_pos (by decide +kernel)];kernel_rfl)|(rw[if_neg (by decide +kernel)];exact⟨rfl,rfl⟩))
  (fun os started H enc _ F=>by rw[OpenClaim.pre_eq_preRow];exact q8f os started H enc F)
end Go.Proofs.YtppgcnhlpnmieaaGreatDoor.Hfn
