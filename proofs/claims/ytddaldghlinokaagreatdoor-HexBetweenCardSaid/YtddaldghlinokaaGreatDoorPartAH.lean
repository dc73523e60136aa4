/- Lemmas. -/
import Derived.Test.YtddaldghlinokaaGreatDoorPartAG
import Derived.Shelf.Lay
import Derived.Shelf.Spec.TrailingZeros
import Derived.Test.YtddaldghlinokaaGreatDoorProg
set_option linter.all false
namespace Go.Proofs.YtddaldghlinokaaGreatDoor
open Go Go.RowKit
def Std (w : World) : Prop := TabAt 1 Lib.deBruijn32tab w /\ 1 < w.heap.size
theorem Std.below {w w' : World} (h : Std w) (hb : Below w.heap.size w w') : Std w' :=
 ⟨fun j hj => by rw [<- h.1 j hj]; simp only [World.cell?, hb.block _ h.2], Nat.lt_of_lt_of_le h.2 hb.size⟩
theorem tz32_core (x k idx : Nat) (w : World) (hx0 : ((x : Int) == 0) = false)
  (key : bits BinOp.and IntKind.u32 (x : Int) (-(x : Int) % 4294967296) * 125613361 % 4294967296 / 134217728 = (idx : Int))
  (hi : idx < 32) (hk : k < 32) (hcell : w.cell? ⟨1, idx, none⟩ = some (.int .u8 k)) :
  Calls Tryz.prog 278 #[.int .u32 x] w fun e w' => e = .returned (.int .i64 k) /\ w = w' := by
 go_enter Tryz.func278, Tryz.ntmps278
 go_wp2
 go_ret
 exact ⟨rfl, rfl⟩
theorem tz32 (x : Nat) (w : World) (h : x < 4294967296) (h0 : 0 < x) (hs : Std w) :
  Calls Tryz.prog 278 #[.int .u32 (x : Int)] w fun e w' => e = .returned (.int .i64 ((Lib.ctz 32 x : Nat) : Int)) /\ w = w' := by
 obtain ⟨hlow, hk⟩ := Lib.lowest_bit 32 x (by omega) h
 obtain ⟨hi, htab⟩ := Lib.deBruijn32_at _ hk
 have hcell := hs.1 _ hi
 rw [htab] at hcell
 exact tz32_core x _ _ w (by simp; omega) (tz32_key x _ h (by omega) hlow) hi hk hcell
end Go.Proofs.YtddaldghlinokaaGreatDoor
