/- Lemmas. -/
import Derived.Test.YtcdimmblnbkjjaaGreatDoorPartBE
import Derived.Lib.FrozenHead
import Derived.Lib.UnsafeStr
import Derived.Lib.AppendStr
import Derived.Laws.Externs
import Derived.Shelf.RegionOpenPlain
set_option linter.all false
namespace Go.Proofs.YtcdimmblnbkjjaaGreatDoor.Bld
open Go Go.RowKit R5
end Go.Proofs.YtcdimmblnbkjjaaGreatDoor.Bld
namespace Go.Proofs.YtcdimmblnbkjjaaGreatDoor.Hx
open Go Go.RowKit R5 Scn Fms Exa
def hx(d:Nat):UInt8:=([48,49,50,51,52,53,54,55,56,57,97,98,99,100,101,102]:List UInt8).getD d 0
def qbu(N:Nat):Nat->List UInt8
 | 0=>[]
 | k+1=>hx (N/16^k%16)::qbu N k
end Go.Proofs.YtcdimmblnbkjjaaGreatDoor.Hx
