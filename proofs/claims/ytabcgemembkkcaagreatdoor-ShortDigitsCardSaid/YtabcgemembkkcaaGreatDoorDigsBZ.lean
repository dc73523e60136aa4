/- Lemmas. -/
import Derived.Test.YtabcgemembkkcaaGreatDoorDigsBY
set_option linter.all false
namespace Go.Proofs.YtabcgemembkkcaaGreatDoor
namespace Bfn
open Go Go.ChangeShapes Go.WideShapes Go.ChangeAt Go.RowKit Go.Deep R5
set_option maxHeartbeats 16000000 in
theorem b2_closed:joinedFacts Tryz.pinned.checked.prog 3 Tryz.f3 (OpenSpec.ofChange Rows.shortDigitsSpec).bare Rows.shortDigitsRow=true:=by
 unfold joinedFacts
 repeat' with_reducible apply qeD
 all_goals as_aux_lemma=>kernel_rfl
end Bfn
end Go.Proofs.YtabcgemembkkcaaGreatDoor
