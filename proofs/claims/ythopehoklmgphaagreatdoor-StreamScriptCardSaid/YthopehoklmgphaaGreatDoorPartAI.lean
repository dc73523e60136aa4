/- Lemmas. -/
import Derived.Test.YthopehoklmgphaaGreatDoorPartAG
import Derived.Deep.MidRow
set_option linter.all false
namespace Go.Proofs.YthopehoklmgphaaGreatDoor
namespace Str
open Go Go.RowKit
def Ops(w:World)(Ad:Option Addr)(n:Nat)(C:Nat->Int × Int × ByteArray):Prop:=
 0<n->∃b o,Ad=some ⟨b,o,none⟩/\b<w.heap.size/\∀i,i<n->w.rangeAt b (o+i*3) [.int .i64 (C i).1,.int .i64 (C i).2.1,.string (C i).2.2]
theorem Ops.below{w w':World}{Ad:Option Addr}{n:Nat}{C:Nat->Int × Int × ByteArray}(h:Ops w Ad n C)(hb:Below w.heap.size w w'):Ops w' Ad n C:=fun hn=>by obtain⟨b,o,e,hl,h⟩:=h hn;exact⟨b,o,e,k01 hl hb.size,fun i hi j u hu=>(hb.cell (p:=⟨b,o+i*3+j,none⟩) hl).trans (h i hi j u hu)⟩
end Str
end Go.Proofs.YthopehoklmgphaaGreatDoor
