/- Lemmas. -/
import Derived.Test.YthopehoklmgphaaGreatDoorCards
import Derived.Test.YthopehoklmgphaaGreatDoorTie
import Derived.WalkKit
import Derived.ProofKit
import Derived.OpenShut
import Derived.Deep.Strs
import Derived.Deep.DeepHandedRow
import Derived.SizedLaws
set_option linter.all false
namespace Go.Proofs.YthopehoklmgphaaGreatDoor
namespace Sfn
open Go Go.ChangeShapes Go.WideShapes Go.ChangeAt Go.RowKit Go.Deep
theorem qdf{a b:Bool}(h:a=true)(k:b=true):(a && b)=true:=by rw[h,k];rfl
set_option maxHeartbeats 16000000 in
theorem ss_closed:joinedFacts Tryz.pinned.checked.prog 3 Tryz.f3 (OpenSpec.ofChange Rows.streamScriptSpec).bare Rows.streamScriptRow=true:=by
 unfold joinedFacts
 repeat' with_reducible apply qdf
 all_goals as_aux_lemma=>kernel_rfl
end Sfn
end Go.Proofs.YthopehoklmgphaaGreatDoor
