/- Lemmas. -/
import Derived.Test.YtddaldghlinokaaGreatDoorPartCA
import Derived.Test.YtddaldghlinokaaGreatDoorPartBZ
set_option linter.all false
namespace Go.Proofs.YtddaldghlinokaaGreatDoor.Hfn
open Go Go.ChangeShapes Go.WideShapes Go.ChangeAt Go.RowKit Go.Deep R5 Hx
theorem bt_said : Rows.HexBetweenSaid :=
 OpenClaim.holds_of_cond 6 Tryz.f6 rfl rfl rfl rfl rfl rfl rfl ⟨rfl, rfl, rfl, rfl, rfl⟩ rfl rfl rfl rfl rfl (by kernel_rfl) Tryz.func6 bt_closed
  (of_decide_eq_true (by kernel_rfl)) (by unfold Func.isWrapper; first | (rw [if_pos (by decide +kernel)]; kernel_rfl) | (rw [if_neg (by decide +kernel)]; exact ⟨rfl, rfl⟩))
  (fun os started H enc _ F => by rw [OpenClaim.pre_eq_preRow]; exact bt_lifted os started H enc F)
end Go.Proofs.YtddaldghlinokaaGreatDoor.Hfn
