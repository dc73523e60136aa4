/- Lemmas. -/
import Derived.Test.YtabcgemembkkcaaGreatDoorDigsAX
set_option linter.all false
namespace Go.Proofs.YtabcgemembkkcaaGreatDoor
namespace Lex
open Go Go.RowKit R5
end Lex
end Go.Proofs.YtabcgemembkkcaaGreatDoor
