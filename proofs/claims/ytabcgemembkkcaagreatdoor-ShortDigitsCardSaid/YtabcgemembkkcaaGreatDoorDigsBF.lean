/- Lemmas. -/
import Derived.Test.YtabcgemembkkcaaGreatDoorDigsBE
import Derived.Lib.OthersKept
import Derived.Lib.QuoteLoop
import Derived.Lib.MapLaws
set_option linter.all false
namespace Go.Proofs.YtabcgemembkkcaaGreatDoor
namespace Scn
open Go Go.RowKit
def zt:ByteArray:=⟨#[48,217,160,219,176,223,128,224,165,166,224,167,166,224,169,166,224,185,144,225,159,160,239,188,144,240,144,146,160,240,157,159,142]⟩
def off(k:Nat):Nat:=[0,1,3,5,7,10,13,16,19,22,25,29,33].getD k 33
def qfc(r:Nat):Value:=.tuple #[.int .i64 (((q6n zeros r).getD 0:Nat):Int),.bool (q6n zeros r).isSome]
def qds(p:Nat × Nat):Value:=.tuple #[.int .i64 (p.1:Int),.int .i64 (p.2:Int)]
def st:List UInt8:=[48,49,50,51,52,53,54,55,56,57,97,98,99,100,101,102,65,66,67,68,69,70]
end Scn
section
open Go Go.RowKit
def qeE(w:World)(b:Nat):Nat:=match w.cell? ⟨b,0,none⟩ with|some (.string r)=>r.size|_=>0
theorem inf8':(Tryz.prog.info? 5).map (fun i=>(i.zero,i.size,i.bytes))=some (some (.int .u8 0),1,1):=by kernel_rfl
end
namespace Scn
open Go Go.RowKit
structure Kind(K:Nat)(D:ByteArray->Nat × Nat):Prop where
 go:∀args w,(callFunc K args).run Tryz.prog w=.ok (.enter K args) w
 calls:∀t w,Calls Tryz.prog K #[.string t] w fun e w'=>e=.returned (qds (D t))/\Below w.heap.size w w'
 small:∀t,(D t).1<16/\(D t).2<=t.size
def qbw(b:Nat)(L:List Nat)(u:St)(w:World)(e:Ending)(w':World):Prop:=
 ∃v,e=.returned v/\w'.ownsRow w.heap.size 5 1 v L.length (u8s L)/\ScAt w' b u/\w.grownBy w' (some b)/\L.length<=65536/\∀d∈L,d<16
end Scn
end Go.Proofs.YtabcgemembkkcaaGreatDoor
