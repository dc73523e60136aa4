/- Lemmas. -/
import Derived.Test.YtabcgemembkkcaaGreatDoorPartBW
set_option linter.all false
namespace Go.Proofs.YtabcgemembkkcaaGreatDoor
namespace Bfn
open Go Go.ChangeShapes Go.WideShapes Go.ChangeAt Go.RowKit Go.Deep R5
set_option maxHeartbeats 16000000 in
theorem b1_closed:joinedFacts Tryz.pinned.checked.prog 4 Tryz.f4 (OpenSpec.ofChange Rows.shortBackSpec).bare Rows.shortBackRow=true:=by
 unfold joinedFacts
 repeat' with_reducible apply qdE
 all_goals as_aux_lemma=>kernel_rfl
end Bfn
end Go.Proofs.YtabcgemembkkcaaGreatDoor
