/- Lemmas. -/
import Derived.Test.YtcdimmblnbkjjaaGreatDoorPartAH
import Derived.Shelf.Lay
import Derived.Shelf.Spec.TrailingZeros
import Derived.Test.YtcdimmblnbkjjaaGreatDoorProg
set_option linter.all false
namespace Go.Proofs.YtcdimmblnbkjjaaGreatDoor
open Go Go.RowKit
def Std(w:World):Prop:=TabAt 4 Lib.deBruijn32tab w/\4<w.heap.size
theorem Std.below{w w':World}(h:Std w)(hb:Below w.heap.size w w'):Std w':=
 ⟨fun j hj=>by rw[<- h.1 j hj];simp only[World.cell?,hb.block _ h.2],Nat.lt_of_lt_of_le h.2 hb.size⟩
theorem q6s(x k idx:Nat)(w:World)(hx0:((x:Int)==0)=false)
  (key:bits BinOp.and IntKind.u32 (x:Int) (-(x:Int)%4294967296)*125613361%4294967296/134217728=(idx:Int))
  (hi:idx<32) (hk:k<32) (hcell:w.cell? ⟨4,idx,none⟩=some (.int .u8 k)) :
  Calls Tryz.prog 255 #[.int .u32 x] w fun e w'=>e=.returned (.int .i64 k)/\w=w':=by
 go_enter Tryz.func255,Tryz.ntmps255
 go_wp2;go_ret
 exact⟨rfl,rfl⟩
theorem qc5(x:Nat)(w:World)(h:x<4294967296)(h0:0<x)(hs:Std w):
  Calls Tryz.prog 255 #[.int .u32 (x:Int)] w fun e w'=>e=.returned (.int .i64 ((Lib.ctz 32 x:Nat):Int))/\w=w':=by
 obtain⟨a1,hk⟩:=Lib.lowest_bit 32 x (by omega) h;obtain⟨hi,a2⟩:=Lib.deBruijn32_at _ hk;have a0:=hs.1 _ hi;rw[a2] at a0;exact q6s x _ _ w (by simp;omega) (tz32_key x _ h (by omega) a1) hi hk a0
end Go.Proofs.YtcdimmblnbkjjaaGreatDoor
