/- Lemmas. -/
import Derived.Test.YtabcgemembkkcaaGreatDoorDigsAL
import Derived.Test.YtabcgemembkkcaaGreatDoorDigsAJ
set_option linter.all false
namespace Go.Proofs.YtabcgemembkkcaaGreatDoor
namespace B
open AB
open Go Go.RowKit
theorem and_i64(h j:Nat):(bits .and .i64 ((h:Int)/2^j) 1==1)=decide (h/2^j%2=1):=by
 rw[q1m];have e:bits .and .i64 ((h/2^j:Nat):Int) 1=((h/2^j%2:Nat):Int):=by
  generalize h/2^j=n;have a:(BitVec.ofInt 64 1).toNat=2^1-1:=by decide
  have b:(BitVec.ofInt 64 (n:Int) &&& BitVec.ofInt 64 1).toNat=((n:Int)%((2^64:Nat):Int)).toNat%2^1:=by rw[BitVec.toNat_and,k2K,a,k2h]
  show IntKind.i64.wrap ((BitVec.ofInt 64 (n:Int) &&& BitVec.ofInt 64 1).toNat:Nat)=_;rw[b,IntKind.wrap_i64];omega
 rw[e];rcases k0U (h/2^j) with h|h<;>rw[h]<;>rfl
def qeK(h:Nat)(w:World)(v q:Value)(wr:World):Prop:=
 ∃(k:Nat) (A:Option Addr) (m c:Nat),q=.int .i64 ((k:Int)-1)/\k<=63/\v=.slice A m c/\Rd wr A m c (toL (16^(h/2^k)))/\Fr w.heap.size A/\Below w.heap.size w wr
end B
end Go.Proofs.YtabcgemembkkcaaGreatDoor
