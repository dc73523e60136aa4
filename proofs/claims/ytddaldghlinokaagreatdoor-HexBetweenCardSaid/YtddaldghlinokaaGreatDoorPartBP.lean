/- Lemmas. -/
import Derived.Test.YtddaldghlinokaaGreatDoorPartBO
import Derived.Outline
set_option linter.all false
namespace Go.Proofs.YtddaldghlinokaaGreatDoor.R3
open Go Go.RowKit R5 Scn Fms
end Go.Proofs.YtddaldghlinokaaGreatDoor.R3
namespace Go.Proofs.YtddaldghlinokaaGreatDoor.R12
open Go Go.RowKit R5 Scn Fms Hx
def RlI (E F : Nat) (s : ByteArray) (d : Nat) (w : World) (x i : Value) (wr : World) : Prop :=
 ∃ k : Nat, k <= 2 + d /\ i = .int .i64 (k : Int) /\ x = .int .u64 ((worthL s (k - 2) : Nat) : Int) /\ (∀ j, j < k -> 0 <= atL s j) /\ Ctx w [(w.heap.size, 23, [.int .i64 (E : Int), .int .i64 (F : Int)])] wr
end Go.Proofs.YtddaldghlinokaaGreatDoor.R12
