/- Lemmas. -/
import Derived.Test.YtddaldghlinokaaGreatDoorPartBN
import Derived.Test.YtddaldghlinokaaGreatDoorPartBJ
set_option linter.all false
namespace Go.Proofs.YtddaldghlinokaaGreatDoor.Hx
open Go Go.RowKit R5 Scn Fms Exa
end Go.Proofs.YtddaldghlinokaaGreatDoor.Hx
namespace Go.Proofs.YtddaldghlinokaaGreatDoor.R12
open Go Go.RowKit R5 Scn Fms Hx
def figB (n : Nat) : ByteArray := ⟨#[Hx.hx n]⟩
def wt (c : Nat) : Int := Lib.indexByte figS.data.toList (low c).toUInt8
def hit (c k : Nat) : Bool := c == (Hx.hx k).toNat || (decide (9 < k) && c == (Hx.hx k).toNat - 32)
end Go.Proofs.YtddaldghlinokaaGreatDoor.R12
