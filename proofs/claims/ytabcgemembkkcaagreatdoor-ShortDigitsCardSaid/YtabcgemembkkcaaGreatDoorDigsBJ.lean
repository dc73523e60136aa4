/- Lemmas. -/
import Derived.Test.YtabcgemembkkcaaGreatDoorDigsBI
import Derived.Shelf.Strings.SlTrimAscii
set_option linter.all false
namespace Go.Proofs.YtabcgemembkkcaaGreatDoor
namespace Scn
open Go Go.RowKit
end Scn
namespace Scn
open Go Go.RowKit R5
end Scn
end Go.Proofs.YtabcgemembkkcaaGreatDoor
