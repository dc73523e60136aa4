/- Lemmas. -/
import Derived.Test.YtcdimmblnbkjjaaGreatDoorPartBC
import Derived.ChangeMaps5
set_option linter.all false
namespace Go.Proofs.YtcdimmblnbkjjaaGreatDoor.Fin3
open Go Go.ChangeShapes Go.WideShapes Go.ChangeAt Go.RowKit Go.Deep R5
theorem q8M{a b:Bool}(h:a=true)(k:b=true):(a && b)=true:=by rw[h,k];rfl
set_option maxHeartbeats 16000000 in
theorem q6t:joinedFacts Tryz.pinned.checked.prog 3 Tryz.f3 (OpenSpec.ofChange Rows.readNumbersSpec).bare Rows.readNumbersRow=true:=by
 unfold joinedFacts
 repeat' with_reducible apply q8M
 all_goals as_aux_lemma=>kernel_rfl
end Go.Proofs.YtcdimmblnbkjjaaGreatDoor.Fin3
