/- Lemmas. -/
import Derived.Test.YthopehoklmgphaaGreatDoorPartBP
import Derived.Lib.ItoaLen
import Derived.Lib.AppendIntMem
set_option linter.all false
namespace Go.Proofs.YthopehoklmgphaaGreatDoor
namespace Hx
open Go Go.RowKit R5 Scn Fms Exa
def Ten (w : World) : Prop := Lib.TabIs Tryz.prog w "internal/strconv.uint64pow10" .u64 Lib.pow10Tab /\ 7 < w.heap.size
def qet(neg:Bool)(l:List UInt8)(x:Int):List UInt8:=(if neg then[45] else[])++([48,120]++l.take 1++(if 1<l.length then 46::l.drop 1 else[])++112::Lib.itoa x)
def qfr(M:Nat):Nat:=if M=0 then 0 else M/2^tz M
def qfq(M:Nat)(p:Int):Int:=if M=0 then 0 else p+(tz M:Int)
def qfs(neg:Bool)(M:Nat):Bool:=if M=0 then false else neg
def qfA(neg g:Bool)(N:Nat)(x:Int)(w:World)(e:Ending)(w':World):Prop:=
 ∃A m,e=.returned (.tuple #[q5s g A m m x,.bool neg,.int .i64 0])/\Rd w' A m m (toL N)/\Fr w.heap.size A/\Below w.heap.size w w'
def qfb(E F b:Nat):List UInt8:=[48,120]++qef b ((E+F+4)/4)
def up4(s:Nat):Nat:=(4-(s-1)%4)%4
def qex(neg:Bool)(N:Nat)(x:Int):List UInt8:=
 if N=0 then qet neg [48] 0 else qet neg (qef (N*2^up4 (bl N)) ((bl N+up4 (bl N)+3)/4)) (x+(bl N:Int)-1)
theorem Ten.below{w w':World}(h:Ten w)(hb:Below w.heap.size w w'):Ten w':=by
 refine⟨?_,Nat.lt_of_lt_of_le h.2 hb.size⟩;have h1:=h.1;have hg : Tryz.prog.globalNamed "internal/strconv.uint64pow10" = some 7 := by kernel_rfl
 unfold Lib.TabIs World.var? at h1 ⊢;simp only[hg,Option.bind_some] at h1 ⊢;rw[hb.block _ h.2];exact h1
end Hx
end Go.Proofs.YthopehoklmgphaaGreatDoor
