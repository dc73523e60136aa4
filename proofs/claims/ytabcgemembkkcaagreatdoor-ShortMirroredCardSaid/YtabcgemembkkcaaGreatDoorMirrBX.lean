/- Lemmas. -/
import Derived.Test.YtabcgemembkkcaaGreatDoorMirrBW
set_option linter.all false
namespace Go.Proofs.YtabcgemembkkcaaGreatDoor
namespace Bfn
open Go Go.ChangeShapes Go.WideShapes Go.ChangeAt Go.RowKit Go.Deep R5
set_option maxHeartbeats 16000000 in
theorem b3_closed:joinedFacts Tryz.pinned.checked.prog 6 Tryz.f6 (OpenSpec.ofChange Rows.shortMirroredSpec).bare Rows.shortMirroredRow=true:=by
 unfold joinedFacts
 repeat' with_reducible apply qdm
 all_goals as_aux_lemma=>kernel_rfl
end Bfn
end Go.Proofs.YtabcgemembkkcaaGreatDoor
