/- Lemmas. -/
import Derived.Test.YtabcgemembkkcaaGreatDoorDigsAG
import Derived.Shelf.Spec.TrailingZeros
import Derived.Test.YtabcgemembkkcaaGreatDoorProg
set_option linter.all false
open Go.Proofs.Tryz
namespace Go.Proofs.YtabcgemembkkcaaGreatDoor
section
open Go Go.RowKit
def Std(w:World):Prop:=TabAt 0 Lib.deBruijn32tab w/\0<w.heap.size
theorem Std.below{w w':World}(h:Std w)(hb:Below w.heap.size w w'):Std w':=⟨fun j hj=>by rw[<- h.1 j hj];simp only[World.cell?,hb.block _ h.2],k03 h.2 hb.size⟩
theorem Std.like{w w':World}(h:Std w)(e:w'.heap=w.heap):Std w':=⟨fun j hj=>by rw[<- h.1 j hj];simp only[World.cell?,e],by rw[e];exact h.2⟩
theorem Std.drew{w:World}(h:Std w):Std w.drew:=h.like rfl
theorem q7e(x k idx:Nat)(w:World)(hx0:((x:Int)==0)=false)
  (key:bits BinOp.and IntKind.u32 (x:Int) (-(x:Int)%4294967296)*125613361%4294967296/134217728=(idx:Int))
  (hi:idx<32) (hk:k<32) (hcell:w.cell? ⟨0,idx,none⟩=some (.int .u8 k)) :
  Calls Tryz.prog 222 #[.int .u32 x] w fun e w'=>e=.returned (.int .i64 k)/\w=w':=by
 go_enter func222,ntmps222;go_wp2;go_ret;exact⟨rfl,rfl⟩
theorem qdV(x:Nat)(w:World)(h:x<4294967296)(h0:0<x)(hs:Std w):Calls Tryz.prog 222 #[.int .u32 (x:Int)] w fun e w'=>e=.returned (.int .i64 ((Lib.ctz 32 x:Nat):Int))/\w=w':=by obtain⟨c,b⟩:=Lib.lowest_bit 32 x (by omega) h;obtain⟨hi,d⟩:=Lib.deBruijn32_at _ b;have a:=hs.1 _ hi;rw[d] at a;exact q7e x _ _ w (by simp;omega) (tz32_key x _ h (by omega) c) hi b a
end
end Go.Proofs.YtabcgemembkkcaaGreatDoor
