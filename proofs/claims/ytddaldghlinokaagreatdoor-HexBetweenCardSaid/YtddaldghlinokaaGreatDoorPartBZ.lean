/- Lemmas. -/
import Derived.Test.YtddaldghlinokaaGreatDoorPartBX
import Derived.ChangeMaps5
import Derived.SizedLaws
set_option linter.all false
namespace Go.Proofs.YtddaldghlinokaaGreatDoor.Hfn
open Go Go.ChangeShapes Go.WideShapes Go.ChangeAt Go.RowKit Go.Deep R5 Hx
theorem bt_and {a b : Bool} (h : a = true) (k : b = true) : (a && b) = true := by rw [h, k]; rfl
set_option maxHeartbeats 16000000 in
theorem bt_closed : joinedFacts Tryz.pinned.checked.prog 6 Tryz.f6 (OpenSpec.ofChange Rows.hexBetweenSpec).bare Rows.hexBetweenRow = true := by
 unfold joinedFacts
 repeat' with_reducible apply bt_and
 all_goals as_aux_lemma => kernel_rfl
end Go.Proofs.YtddaldghlinokaaGreatDoor.Hfn
