/- Lemmas. -/
import Derived.Test.YtcdimmblnbkjjaaGreatDoorPartBG
import Derived.Lib.ItoaLen
import Derived.Lib.LaidTab
import Derived.Lib.AppendIntMem
set_option linter.all false
namespace Go.Proofs.YtcdimmblnbkjjaaGreatDoor.Hx
open Go Go.RowKit R5 Scn Fms Exa
def Ten (w : World) : Prop := Lib.TabIs Tryz.prog w "internal/strconv.uint64pow10" .u64 Lib.pow10Tab /\ 7 < w.heap.size
def qbJ(neg:Bool)(l:List UInt8)(x:Int):List UInt8:=(if neg then[45] else[])++([48,120]++l.take 1++(if 1<l.length then 46::l.drop 1 else[])++112::Lib.itoa x)
def qcs(M:Nat):Nat:=if M=0 then 0 else M/2^tz M
def qcr(M:Nat)(p:Int):Int:=if M=0 then 0 else p+(tz M:Int)
def qct(neg:Bool)(M:Nat):Bool:=if M=0 then false else neg
def qcD(neg g:Bool)(N:Nat)(x:Int)(w:World)(e:Ending)(w':World):Prop:=
 ∃A m,e=.returned (.tuple #[q7l g A m m x,.bool neg,.int .i64 0])/\Rd w' A m m (toL N)/\Fr w.heap.size A/\Below w.heap.size w w'
def qcj(E F b:Nat):List UInt8:=[48,120]++qbu b ((E+F+4)/4)
def up4(s:Nat):Nat:=(4-(s-1)%4)%4
def qbO(neg:Bool)(N:Nat)(x:Int):List UInt8:=
 if N=0 then qbJ neg [48] 0 else qbJ neg (qbu (N*2^up4 (bl N)) ((bl N+up4 (bl N)+3)/4)) (x+(bl N:Int)-1)
end Go.Proofs.YtcdimmblnbkjjaaGreatDoor.Hx
