/- Lemmas. -/
import Derived.Test.YtppgcnhlpnmieaaGreatDoorPartBW
import Derived.ChangeMaps5
import Derived.SizedLaws
set_option linter.all false
namespace Go.Proofs.YtppgcnhlpnmieaaGreatDoor.Hfn
open Go Go.ChangeShapes Go.WideShapes Go.ChangeAt Go.RowKit Go.Deep R5 Hx
theorem qcg{a b:Bool}(h:a=true)(k:b=true):(a && b)=true:=by rw[h,k];rfl
set_option maxHeartbeats 16000000 in
theorem q8g:joinedFacts Tryz.pinned.checked.prog 5 Tryz.f5 (OpenSpec.ofChange Rows.hexPrintSpec).bare Rows.hexPrintRow=true:=by
 unfold joinedFacts
 repeat' with_reducible apply qcg
 all_goals as_aux_lemma=>kernel_rfl
end Go.Proofs.YtppgcnhlpnmieaaGreatDoor.Hfn
