/- Lemmas. -/
import Derived.Test.YtddaldghlinokaaGreatDoorPartBQ
set_option linter.all false
namespace Go.Proofs.YtddaldghlinokaaGreatDoor.Hx
open Go Go.RowKit R5 Scn Fms Exa
set_option maxRecDepth 100000 in
set_option maxHeartbeats 2000000 in
theorem awake (w : World) (hb : Bg w) (ht : Ten w) :
  Calls Tryz.prog 12 #[] w fun e w' => e = .returned (.bool true) /\ Below w.heap.size w w' := by
 have HPr := vv fun w' (h : Below w.heap.size w w') => aw_print w' (hb.below h) (ht.below h)
 have HPl := vv fun w' (h : Below w.heap.size w w') => aw_places w' (hb.below h) (ht.below h)
 have HRe := vv fun w' (h : Below w.heap.size w w') => aw_read w' (hb.below h)
 have HDu := vv fun w' (h : Below w.heap.size w w') => aw_dump w' (hb.below h)
 clear hb ht
 go_enter Tryz.func12, Tryz.ntmps12
 go_wp2_with fail
 refine (half w).mono ?_
 rintro e w1 ⟨rfl, hB⟩
 have HB1 := vv hB
 clear hB
 go_wp2_with fail
 refine (HPr.out _ HB1.out).mono ?_
 rintro e w2 ⟨rfl, hB⟩
 have HB2 := vn HB1 hB
 clear hB
 go_wp2_with fail
 refine (HPl.out _ HB2.out).mono ?_
 rintro e w3 ⟨rfl, hB⟩
 have HB3 := vn HB2 hB
 clear hB
 go_wp2_with fail
 refine (half _).mono ?_
 rintro e w4 ⟨rfl, hB⟩
 have HB4 := vn HB3 hB
 clear hB
 go_wp2_with fail
 refine (HRe.out _ HB4.out).mono ?_
 rintro e w5 ⟨rfl, hB⟩
 have HB5 := vn HB4 hB
 clear hB
 go_wp2_with fail
 refine (half _).mono ?_
 rintro e w6 ⟨rfl, hB⟩
 have HB6 := vn HB5 hB
 clear hB
 go_wp2_with fail
 refine (HDu.out _ HB6.out).mono ?_
 rintro e w7 ⟨rfl, hB⟩
 have HB7 := vn HB6 hB
 clear hB
 go_wp2_with fail
 refine (half _).mono ?_
 rintro e w8 ⟨rfl, hB⟩
 have HB8 := vn HB7 hB
 clear hB
 go_wp2_with fail
 refine (aw_load _).mono ?_
 rintro e w9 ⟨rfl, hB⟩
 have HB9 := vn HB8 hB
 clear hB
 go_wp2
 go_ret
 exact ⟨rfl, HB9.out⟩
end Go.Proofs.YtddaldghlinokaaGreatDoor.Hx
