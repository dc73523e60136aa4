/- Lemmas. -/
import Derived.Test.YtppgcnhlpnmieaaGreatDoorPartBP
import Derived.Test.YtppgcnhlpnmieaaGreatDoorPartBL
set_option linter.all false
namespace Go.Proofs.YtppgcnhlpnmieaaGreatDoor.Hx
open Go Go.RowKit R5 Scn Fms Exa
end Go.Proofs.YtppgcnhlpnmieaaGreatDoor.Hx
namespace Go.Proofs.YtppgcnhlpnmieaaGreatDoor.R12
open Go Go.RowKit R5 Scn Fms Hx
theorem qcY(E F:Nat)(w:World)(h1:E<=62)(h2:F<=62):
  Calls Tryz.prog 86 #[fm E F] w fun e w'=>e=.returned (.int .i64 (((E+F+4)/4:Nat):Int))/\Below w.heap.size w w':=by
 have hb:Below w.heap.size w (w.alloc (.cells #[.int .i64 (E:Int),.int .i64 (F:Int)] 23)):=(Below.refl _ _).alloc lr _;have hE:(E:Int)<=62:=by omega
 have hF:(F:Int)<=62:=by omega
 clear h1 h2;go_enter Tryz.func86,Tryz.ntmps86
 go_wp2;go_ret
 exact⟨q0T (by omega),hb⟩
def qee(n:Nat):ByteArray:=⟨#[Hx.hx n]⟩
def wt(c:Nat):Int:=Lib.indexByte q9j.data.toList (low c).toUInt8
def hit(c k:Nat):Bool:=c==(Hx.hx k).toNat || (decide (9<k) && c==(Hx.hx k).toNat-32)
end Go.Proofs.YtppgcnhlpnmieaaGreatDoor.R12
