/- Lemmas. -/
import Derived.Test.YtddaldghlinokaaGreatDoorPartAW
import Derived.Test.YtddaldghlinokaaGreatDoorPartAV
import Derived.Laws.EntriesVeiled
import Derived.Test.YtddaldghlinokaaGreatDoorPartAU
set_option linter.all false
namespace Go.Proofs.YtddaldghlinokaaGreatDoor.Rnd
open Go Go.RowKit R5
theorem near_ (n : Int) (b : Nat) (w : World) (h1 : -4611686018427387904 <= n) (h2 : n <= 4611686018427387904) (hb : (b : Int) <= 1099511627776) :
  Calls Tryz.prog 113 #[.int .i64 n, .int .i64 (b : Int)] w fun e w' => e = .returned (.int .i64 (near n (b + 1200))) /\ w = w' := by
 have HN : Hid (near n ((b : Int) + 1200) = max (-(b : Int) - 1200) (min n ((b : Int) + 1200))) := vv (by unfold near; omega)
 go_enter Tryz.func113, Tryz.ntmps113
 go_wp2
 go_ret
 exact ⟨retI HN.out.symm, rfl⟩
abbrev betV (neg odd : Bool) (half : Int) : Value := .agg #[.bool neg, .bool odd, .int .i64 half]
theorem even (neg odd : Bool) (half : Int) (w : World) :
  Calls Tryz.prog 316 #[betV neg odd half] w fun e w' => e = .returned (.bool (more neg 0 odd half)) /\ Below w.heap.size w w' := by
 have HM : Hid (more neg 0 odd half = (decide (0 < half) || (decide (half = 0) && odd))) := vv rfl
 by_cases h1 : 0 < half
 ·have HF : Hid (more neg 0 odd half = true) := vv (by rw [HM.out, decide_eq_true h1]; rfl)
  have d1 : decide (0 < half) = true := decide_eq_true h1
  clear h1
  go_enter Tryz.func316, Tryz.ntmps316
  go_wp2
  go_ret
  exact ⟨retB HF.out.symm, (Below.refl _ _).alloc (Nat.le_refl _) _⟩
 have d1 : decide (0 < half) = false := decide_eq_false h1
 by_cases h2 : half = 0
 ·have HF : Hid (more neg 0 odd half = odd) := vv (by rw [HM.out, decide_eq_false h1, decide_eq_true h2]; simp)
  have t2 : (half == 0) = true := by rw [h2]; rfl
  clear h1 h2
  go_enter Tryz.func316, Tryz.ntmps316
  go_wp2
  go_ret
  exact ⟨retB HF.out.symm, (Below.refl _ _).alloc (Nat.le_refl _) _⟩
 ·have HF : Hid (more neg 0 odd half = false) := vv (by rw [HM.out, decide_eq_false h1, decide_eq_false h2]; rfl)
  have t2 : (half == 0) = false := by rw [beq_eq_false_iff_ne]; exact h2
  clear h1 h2
  go_enter Tryz.func316, Tryz.ntmps316
  go_wp2
  go_ret
  exact ⟨retB HF.out.symm, (Below.refl _ _).alloc (Nat.le_refl _) _⟩
theorem away (neg odd : Bool) (half : Int) (w : World) :
  Calls Tryz.prog 317 #[betV neg odd half] w fun e w' => e = .returned (.bool (more neg 1 odd half)) /\ Below w.heap.size w w' := by
 have HM : Hid (more neg 1 odd half = decide (0 <= half)) := vv rfl
 go_enter Tryz.func317, Tryz.ntmps317
 go_wp2
 go_ret
 exact ⟨retB HM.out.symm, (Below.refl _ _).alloc (Nat.le_refl _) _⟩
theorem zero (neg odd : Bool) (half : Int) (w : World) :
  Calls Tryz.prog 318 #[betV neg odd half] w fun e w' => e = .returned (.bool (more neg 2 odd half)) /\ Below w.heap.size w w' := by
 have HM : Hid (more neg 2 odd half = false) := vv rfl
 go_enter Tryz.func318, Tryz.ntmps318
 go_wp2
 go_ret
 exact ⟨retB HM.out.symm, (Below.refl _ _).alloc (Nat.le_refl _) _⟩
theorem up (neg odd : Bool) (half : Int) (w : World) :
  Calls Tryz.prog 319 #[betV neg odd half] w fun e w' => e = .returned (.bool (more neg 3 odd half)) /\ Below w.heap.size w w' := by
 have HM : Hid (more neg 3 odd half = !neg) := vv rfl
 go_enter Tryz.func319, Tryz.ntmps319
 go_wp2
 go_ret
 exact ⟨retB HM.out.symm, (Below.refl _ _).alloc (Nat.le_refl _) _⟩
theorem down (neg odd : Bool) (half : Int) (w : World) :
  Calls Tryz.prog 320 #[betV neg odd half] w fun e w' => e = .returned (.bool (more neg 4 odd half)) /\ Below w.heap.size w w' := by
 have HM : Hid (more neg 4 odd half = neg) := vv rfl
 go_enter Tryz.func320, Tryz.ntmps320
 go_wp2
 go_ret
 exact ⟨retB HM.out.symm, (Below.refl _ _).alloc (Nat.le_refl _) _⟩
abbrev modesV : Value := .agg #[.func (.func 316) #[] #[], .func (.func 317) #[] #[], .func (.func 318) #[] #[], .func (.func 319) #[] #[], .func (.func 320) #[] #[]]
theorem modes (w : World) :
  Calls Tryz.prog 264 #[] w fun e w' => e = .returned modesV /\ Below w.heap.size w w' := by
 go_enter Tryz.func264, Tryz.ntmps264
 go_wp2
 exact bodyPost_ret (v := modesV) (by simp [results, Tryz.results264, go_sem]) rfl ⟨rfl, (Below.refl _ _).alloc (Nat.le_refl _) _⟩
@[go_sem] theorem idx0 (w : World) : (Instr.index 293 modesV (.int .u8 0)).run Tryz.prog w = .ok (.func (.func 316) #[] #[]) w := by kernel_rfl
@[go_sem] theorem idx1 (w : World) : (Instr.index 293 modesV (.int .u8 1)).run Tryz.prog w = .ok (.func (.func 317) #[] #[]) w := by kernel_rfl
@[go_sem] theorem idx2 (w : World) : (Instr.index 293 modesV (.int .u8 2)).run Tryz.prog w = .ok (.func (.func 318) #[] #[]) w := by kernel_rfl
@[go_sem] theorem idx3 (w : World) : (Instr.index 293 modesV (.int .u8 3)).run Tryz.prog w = .ok (.func (.func 319) #[] #[]) w := by kernel_rfl
@[go_sem] theorem idx4 (w : World) : (Instr.index 293 modesV (.int .u8 4)).run Tryz.prog w = .ok (.func (.func 320) #[] #[]) w := by kernel_rfl
def WhPost (v : Nat) (same : Bool) (w : World) (e : Ending) (w' : World) : Prop := ∃ g, e = .returned (.tuple #[.pointer (some ⟨g, 0, none⟩), .bool same]) /\ w.heap.size <= g /\ IntAt w' g 0 (v : Int) /\ Below w.heap.size w w'
theorem cmpZ_nat (a b : Nat) : cmpZ (a : Int) (b : Int) = cmpI a b := by rw [cmpZ_ff (by omega) (by omega), Int.natAbs_natCast, Int.natAbs_natCast]
theorem rnd_ne {neg : Bool} {mode a b : Nat} (h : a % b ≠ 0) : rnd neg mode a b = if more neg mode (decide (a / b % 2 = 1)) (cmpI (2 * (a % b)) b) then a / b + 1 else a / b := if_neg h
structure BetBox (w : World) (g : Nat) (neg odd : Bool) (half : Int) : Prop where
 c0 : w.cell? ⟨g, 0, none⟩ = some (.bool neg)
 c1 : w.cell? ⟨g, 1, none⟩ = some (.bool odd)
 c2 : w.cell? ⟨g, 2, none⟩ = some (.int .i64 half)
 lt : g < w.heap.size
theorem BetBox.made (w : World) (neg odd : Bool) (half : Int) (t : TypeId) : BetBox (w.alloc (.cells #[.bool neg, .bool odd, .int .i64 half] t)) w.heap.size neg odd half := by
 constructor <;> first | (simp only [World.cell?]; rw [heap_alloc_new]; rfl) | simp
theorem BetBox.below {w w' : World} {g : Nat} {neg odd : Bool} {half : Int} (h : BetBox w g neg odd half) (hb : Below w.heap.size w w') : BetBox w' g neg odd half :=
 ⟨(hb.cell (p := ⟨g, 0, none⟩) h.lt).trans h.c0, (hb.cell (p := ⟨g, 1, none⟩) h.lt).trans h.c1, (hb.cell (p := ⟨g, 2, none⟩) h.lt).trans h.c2, Nat.lt_of_lt_of_le h.lt hb.size⟩
set_option maxHeartbeats 1000000 in
theorem whole_same (gx ox gy oy a b : Nat) (neg : Bool) (mode : Nat) (w : World) (hx : IntAt w gx ox (a : Int)) (hy : IntAt w gy oy (b : Int)) (hb : 0 < b) (sa : Sz a) (sb : Sz b) (h0 : a % b = 0) :
  Calls Tryz.prog 171 #[.pointer (some ⟨gx, ox, none⟩), .pointer (some ⟨gy, oy, none⟩), .bool neg, .int .u8 (mode : Int)] w (WhPost (rnd neg mode a b) true w) := by
 have sq : Sz (a / b) := Sz.mono sa (Nat.div_le_self a b)
 have sr : Sz (a % b) := Sz.mono sb (Nat.le_of_lt (Nat.mod_lt a hb))
 have hqr := fun (w' : World) (g gr : Nat) (h : IntAt w' g 0 0) (hz : IntAt w' gr 0 0) (hx' : IntAt w' gx ox a) (hy' : IntAt w' gy oy b) (hne : g ≠ gr) => A.QuoRem g 0 gx ox gy oy gr 0 0 (a : Int) (b : Int) 0 w' h hx' hy' hz hne (by omega) (by rw [Int.natAbs_natCast]; exact sa)
 have ea : decide ((a : Int) < 0) = false := decide_eq_false (by omega)
 have eb : decide ((b : Int) < 0) = false := decide_eq_false (by omega)
 simp only [ea, eb, Int.natAbs_natCast, bne_self_eq_false] at hqr
 obtain ⟨q, hq⟩ := yx (a / b)
 obtain ⟨r, hr⟩ := yx (a % b)
 simp only [<- hq, <- hr] at hqr sq sr
 have HQr := vv hqr
 have o1 := (Below.refl w.heap.size w).alloc (o := .cells #[.bool false, .slice none 0 0] 209) (Nat.le_refl _)
 have i1 := IntAt.zero w 209
 obtain ⟨w1, hw1⟩ := yx (w.alloc (.cells #[.bool false, .slice none 0 0] 209))
 rw [<- hw1] at o1 i1
 have s1 : w1.heap.size = w.heap.size + 1 := by rw [hw1]; simp
 have o2 := (Below.refl w1.heap.size w1).alloc (o := .cells #[.bool false, .slice none 0 0] 209) (Nat.le_refl _)
 have i2 := IntAt.zero w1 209
 obtain ⟨w2, hw2⟩ := yx (w1.alloc (.cells #[.bool false, .slice none 0 0] 209))
 rw [<- hw2] at o2 i2
 rw [s1] at i2
 have b2 : Below w.heap.size w w2 := o1.trans (o2.mono (by omega))
 have s2 : w2.heap.size = w.heap.size + 2 := by rw [hw2]; simp; omega
 have HZ1 := vv (i1.below o2)
 have HZ2 := vv i2
 have HX := vv hx
 have HY := vv hy
 have HX2 := vv (hx.below b2)
 have HY2 := vv (hy.below b2)
 have HB2 := vv b2
 have HS2 := vv s2
 have hgy := hy.lt
 have HW2 : Hid (w2 = (w.alloc (.cells #[.bool false, .slice none 0 0] 209)).alloc (.cells #[.bool false, .slice none 0 0] 209)) := vv (by rw [hw2, hw1])
 have HGy := vv hgy
 have HV : Hid (rnd neg mode a b = q) := vv (by unfold rnd; rw [if_pos h0, hq])
 obtain ⟨V, hV⟩ := yx (rnd neg mode a b)
 rw [<- hV] at HV ⊢
 have hr0 : r = 0 := by rw [hr]; exact h0
 have ts : ((r : Int).sign == 0) = true := by rw [hr0]; rfl
 clear hx hy sa o1 o2 i1 i2 b2 s1 s2 hw1 hw2 hqr ea eb hgy hV hq hr h0 hr0 hb sb sq sr
 go_enter Tryz.func171, Tryz.ntmps171
 go_wp2_with fail
 rw [<- HW2.out]
 refine (HQr.out w2 w.heap.size (w.heap.size + 1) HZ1.out HZ2.out HX2.out HY2.out (by omega)).mono ?_
 rintro e w3 ⟨rfl, hq3, hr3, hf3⟩
 have HQ3 := vv (show IntAt w3 w.heap.size 0 (q : Int) from hq3)
 have HR3 := vv (show IntAt w3 (w.heap.size + 1) 0 (r : Int) from hr3)
 have HB3 : Hid (Below w.heap.size w w3) := vv (hf3.below HB2.out (by have := HS2.out; omega) (by intro p hp; simp at hp; rcases hp with rfl | rfl <;> simp))
 clear hq3 hr3 hf3
 go_wp2_with fail
 refine (A.Sign (w.heap.size + 1) 0 (r : Int) w3 HR3.out).mono ?_
 rintro e w' ⟨rfl, rfl⟩
 go_wp2
 go_ret2
 exact ⟨w.heap.size, rfl, Nat.le_refl _, by rw [HV.out]; exact HQ3.out, HB3.out⟩
set_option maxRecDepth 100000 in
set_option maxHeartbeats 2000000 in
theorem whole_ne (mode : Nat) (hm : mode <= 4) (gx ox gy oy a b : Nat) (neg : Bool) (w : World) (hx : IntAt w gx ox (a : Int)) (hy : IntAt w gy oy (b : Int)) (hb : 0 < b) (sa : Sz a) (sb : Sz b) (h0 : a % b ≠ 0) :
  Calls Tryz.prog 171 #[.pointer (some ⟨gx, ox, none⟩), .pointer (some ⟨gy, oy, none⟩), .bool neg, .int .u8 (mode : Int)] w (WhPost (rnd neg mode a b) false w) := by
 have sq : Sz (a / b) := Sz.mono sa (Nat.div_le_self a b)
 have sr : Sz (a % b) := Sz.mono sb (Nat.le_of_lt (Nat.mod_lt a hb))
 have hqr := fun (w' : World) (g gr : Nat) (h : IntAt w' g 0 0) (hz : IntAt w' gr 0 0) (hx' : IntAt w' gx ox a) (hy' : IntAt w' gy oy b) (hne : g ≠ gr) => A.QuoRem g 0 gx ox gy oy gr 0 0 (a : Int) (b : Int) 0 w' h hx' hy' hz hne (by omega) (by rw [Int.natAbs_natCast]; exact sa)
 have ea : decide ((a : Int) < 0) = false := decide_eq_false (by omega)
 have eb : decide ((b : Int) < 0) = false := decide_eq_false (by omega)
 simp only [ea, eb, Int.natAbs_natCast, bne_self_eq_false] at hqr
 obtain ⟨q, hq⟩ := yx (a / b)
 obtain ⟨r, hr⟩ := yx (a % b)
 simp only [<- hq, <- hr] at hqr sq sr
 have HQr := vv hqr
 have o1 := (Below.refl w.heap.size w).alloc (o := .cells #[.bool false, .slice none 0 0] 209) (Nat.le_refl _)
 have i1 := IntAt.zero w 209
 obtain ⟨w1, hw1⟩ := yx (w.alloc (.cells #[.bool false, .slice none 0 0] 209))
 rw [<- hw1] at o1 i1
 have s1 : w1.heap.size = w.heap.size + 1 := by rw [hw1]; simp
 have o2 := (Below.refl w1.heap.size w1).alloc (o := .cells #[.bool false, .slice none 0 0] 209) (Nat.le_refl _)
 have i2 := IntAt.zero w1 209
 obtain ⟨w2, hw2⟩ := yx (w1.alloc (.cells #[.bool false, .slice none 0 0] 209))
 rw [<- hw2] at o2 i2
 rw [s1] at i2
 have b2 : Below w.heap.size w w2 := o1.trans (o2.mono (by omega))
 have s2 : w2.heap.size = w.heap.size + 2 := by rw [hw2]; simp; omega
 have HZ1 := vv (i1.below o2)
 have HZ2 := vv i2
 have HX := vv hx
 have HY := vv hy
 have HX2 := vv (hx.below b2)
 have HY2 := vv (hy.below b2)
 have HB2 := vv b2
 have HS2 := vv s2
 have hgy := hy.lt
 have HW2 : Hid (w2 = (w.alloc (.cells #[.bool false, .slice none 0 0] 209)).alloc (.cells #[.bool false, .slice none 0 0] 209)) := vv (by rw [hw2, hw1])
 have HGy := vv hgy
 have hV1 := rnd_ne (neg := neg) (mode := mode) h0
 rw [<- hq, <- hr] at hV1
 have hr0 : 0 < r := by omega
 have ts : ((r : Int).sign == 0) = false := by rw [Int.sign_eq_one_of_pos (by omega)]; rfl
 obtain ⟨odd, hodd⟩ := yx (decide (q % 2 = 1))
 obtain ⟨half, hhalf⟩ := yx (cmpI (2 * r) b)
 obtain ⟨mo, hmo⟩ := yx (more neg mode odd half)
 rw [<- hodd, <- hhalf, <- hmo] at hV1
 obtain ⟨V, hV⟩ := yx (rnd neg mode a b)
 rw [<- hV] at hV1 ⊢
 have HV := vv hV1
 have HLs := vv fun w' (h : IntAt w' (w.heap.size + 1) 0 (r : Int)) => A.Lsh (w.heap.size + 1) 0 (w.heap.size + 1) 0 1 (r : Int) (r : Int) w' h h (by rw [Int.natAbs_natCast]; exact sr) (by omega)
 have HCm := vv fun w' (h : IntAt w' (w.heap.size + 1) 0 ((r : Int) * 2 ^ 1)) (h' : IntAt w' gy oy (b : Int)) => A.Cmp (w.heap.size + 1) 0 gy oy _ _ w' h h'
 have ec : cmpZ ((r : Int) * 2 ^ 1) (b : Int) = half := by
  have e : (r : Int) * 2 ^ 1 = ((2 * r : Nat) : Int) := by omega
  rw [e, cmpZ_nat, <- hhalf]
 simp only [ec] at HCm
 obtain ⟨mi, hmi⟩ : ∃ z : Int, z = (mode : Int) := ⟨_, rfl⟩
 rw [<- hmi]
 have HM0 := vv fun (h : mi = 0) w' => (show Calls Tryz.prog 316 #[betV neg odd half] w' fun e w'' => e = .returned (.bool mo) /\ Below w'.heap.size w' w'' by rw [hmo, show mode = 0 by omega]; exact even neg odd half w')
 have HM1 := vv fun (h : mi = 1) w' => (show Calls Tryz.prog 317 #[betV neg odd half] w' fun e w'' => e = .returned (.bool mo) /\ Below w'.heap.size w' w'' by rw [hmo, show mode = 1 by omega]; exact away neg odd half w')
 have HM2 := vv fun (h : mi = 2) w' => (show Calls Tryz.prog 318 #[betV neg odd half] w' fun e w'' => e = .returned (.bool mo) /\ Below w'.heap.size w' w'' by rw [hmo, show mode = 2 by omega]; exact zero neg odd half w')
 have HM3 := vv fun (h : mi = 3) w' => (show Calls Tryz.prog 319 #[betV neg odd half] w' fun e w'' => e = .returned (.bool mo) /\ Below w'.heap.size w' w'' by rw [hmo, show mode = 3 by omega]; exact up neg odd half w')
 have HM4 := vv fun (h : mi = 4) w' => (show Calls Tryz.prog 320 #[betV neg odd half] w' fun e w'' => e = .returned (.bool mo) /\ Below w'.heap.size w' w'' by rw [hmo, show mode = 4 by omega]; exact down neg odd half w')
 have HM5 : Hid (mi = 0 \/ mi = 1 \/ mi = 2 \/ mi = 3 \/ mi = 4) := vv (by omega)
 have HOd : Hid (((q : Int) % 2 == 1) = odd) := vv (by
  rw [hodd]
  by_cases h : q % 2 = 1
  ·rw [decide_eq_true h, beq_iff_eq]; omega
  ·rw [decide_eq_false h, beq_eq_false_iff_ne]; omega)
 have HAd := vv fun w' g1 (h : IntAt w' w.heap.size 0 (q : Int)) (h1 : IntAt w' g1 0 1) => A.Add w.heap.size 0 w.heap.size 0 g1 0 (q : Int) (q : Int) 1 w' h h h1 (by rw [Int.natAbs_natCast]; exact sq) (by unfold Sz; decide)
 clear hx hy sa o1 o2 i1 i2 b2 s1 s2 hw1 hw2 hqr ea eb hgy hV hq hr h0 hr0 hb sb sq sr hodd hhalf hmo ec hV1 hmi hm
 go_enter Tryz.func171, Tryz.ntmps171
 go_wp2_with fail
 rw [<- HW2.out]
 refine (HQr.out w2 w.heap.size (w.heap.size + 1) HZ1.out HZ2.out HX2.out HY2.out (by omega)).mono ?_
 rintro e w3 ⟨rfl, hq3, hr3, hf3⟩
 have HQ3 := vv (show IntAt w3 w.heap.size 0 (q : Int) from hq3)
 have HR3 := vv (show IntAt w3 (w.heap.size + 1) 0 (r : Int) from hr3)
 have HB3 : Hid (Below w.heap.size w w3) := vv (hf3.below HB2.out (by have := HS2.out; omega) (by intro p hp; simp at hp; rcases hp with rfl | rfl <;> simp))
 clear hq3 hr3 hf3
 go_wp2_with fail
 refine (A.Sign (w.heap.size + 1) 0 (r : Int) w3 HR3.out).mono ?_
 rintro e w' ⟨rfl, rfl⟩
 go_wp2_with fail
 refine (A.Bit0 w.heap.size 0 (q : Int) w3 HQ3.out).mono ?_
 rintro e w' ⟨rfl, rfl⟩
 go_wp2_with fail
 refine (HLs.out _ HR3.out).mono ?_
 rintro e w4 ⟨rfl, hr4, hf4⟩
 have hF4 := hf4.fs HR3.out hr4
 have HR4 := vv hr4
 have HQ4 := vv (HQ3.out.fs1 hF4 (by omega))
 have HB4 := vv (hF4.below HB3.out (by have := HB3.out.size; omega) (by intro p hp; simp at hp; rw [hp]; simp))
 have HY4 := vv (HY.out.below HB4.out)
 clear hr4 hf4 hF4
 go_wp2_with fail
 refine (HCm.out _ HR4.out HY4.out).mono ?_
 rintro e w5 ⟨rfl, hB5⟩
 have HQ5 := vv (HQ4.out.below hB5)
 have HB5 := vn HB4 hB5
 clear hB5
 go_wp2_with fail
 rw [HOd.out]
 have o6 := (Below.refl w5.heap.size w5).alloc (o := .cells #[.bool neg, .bool odd, .int .i64 half] 291) (Nat.le_refl _)
 have x6 := BetBox.made w5 neg odd half 291
 obtain ⟨w6, hw6⟩ := yx (w5.alloc (.cells #[.bool neg, .bool odd, .int .i64 half] 291))
 rw [<- hw6] at o6 x6 ⊢
 have HBx := vv x6
 have HQ6 := vv (HQ5.out.below o6)
 have HB6 := vn HB5 o6
 clear o6 x6 hw6
 obtain ⟨g6, hg6⟩ := yx (w5.heap.size)
 rw [<- hg6] at HBx ⊢
 clear hg6
 rcases HM5.out with rfl | rfl | rfl | rfl | rfl
 all_goals
  refine wp_region_sch (fun w' => w'.cell? ⟨g6, 0, none⟩ = some (.bool neg) /\ w'.cell? ⟨g6, 1, none⟩ = some (.bool odd) /\ w'.cell? ⟨g6, 2, none⟩ = some (.int .i64 half)) 5
   (.still 1 (.still 3 (.one 0 (.still 2 (.one 4 .done))))) (by kernel_rfl) (by kernel_rfl) (fun _ _ d _ _ h => by cases d <;> exact h) ⟨HBx.out.c0, HBx.out.c1, HBx.out.c2⟩ (fun hS0 => ?_)
  iterate 2
   refine sch_still (v := ?_) rfl (by rfl) ?_ ?_
   rotate_left
   ·intro w hSw; go_simp; with_reducible rfl
   simp only [Act.put, List.setIfInBounds_toArray, List.set_cons_zero, List.set_cons_succ]
  refine sch_one rfl (by rfl) (fun K hK => ?_)
  go_simp
  refine (modes _).mono ?_
  rintro e w7 ⟨rfl, hB7⟩
  have hB7 : Below w6.heap.size w6 w7 := ⟨hB7.os, hB7.tape, hB7.output, hB7.size, hB7.block⟩
  have HBx := vv (HBx.out.below hB7)
  have HQ7 := vv (HQ6.out.below hB7)
  have HB7 := vn HB6 hB7
  clear hB7
  go_wp2_with fail
  refine hK.out _ _ ⟨HBx.out.c0, HBx.out.c1, HBx.out.c2⟩ (fun hHeld => ?_)
  clear hK
  iterate 1
   refine sch_still (v := ?_) rfl (by rfl) ?_ ?_
   rotate_left
   ·intro w hSw; go_simp; with_reducible rfl
   simp only [Act.put, List.setIfInBounds_toArray, List.set_cons_zero, List.set_cons_succ]
  refine sch_one rfl (by rfl) (fun K hK => ?_)
  go_simp
  first | refine (HM0.out (by trivial) _).mono ?_ | refine (HM1.out (by trivial) _).mono ?_ | refine (HM2.out (by trivial) _).mono ?_ | refine (HM3.out (by trivial) _).mono ?_ | refine (HM4.out (by trivial) _).mono ?_
  rintro e w8 ⟨rfl, hB8⟩
  have HBx := vv (HBx.out.below hB8)
  have HQ8 := vv (HQ7.out.below hB8)
  have HB8 := vn HB7 hB8
  clear hB8
  go_wp2_with fail
  refine hK.out _ _ ⟨HBx.out.c0, HBx.out.c1, HBx.out.c2⟩ (fun hHeld => ?_)
  clear hK
  refine sch_end rfl ?_
  clear hHeld hS0
  cases mo
  ·go_wp2
   go_ret2
   exact ⟨w.heap.size, rfl, Nat.le_refl _, by rw [HV.out]; exact HQ8.out, HB8.out⟩
  ·go_wp2_with fail
   refine (A.NewInt 1 _ (by omega) (by omega)).mono ?_
   rintro e w9 ⟨g9, rfl, hg9, hi9, hb9⟩
   have HQ9 := vv (HQ8.out.below hb9)
   have HI9 := vv hi9
   have HB9 := vn HB8 hb9
   clear hg9 hi9 hb9
   go_wp2_with fail
   refine (HAd.out _ g9 HQ9.out HI9.out).mono ?_
   rintro e w10 ⟨rfl, hi10, hf10⟩
   have hF10 := hf10.fs HQ9.out hi10
   have HI10 := vv hi10
   have HB10 := vv (hF10.below HB9.out (by have := HB9.out.size; omega) (by intro p hp; simp at hp; rw [hp]; simp))
   clear hi10 hf10 hF10
   go_wp2
   go_ret2
   exact ⟨w.heap.size, rfl, Nat.le_refl _, by rw [HV.out]; exact HI10.out, HB10.out⟩
set_option maxRecDepth 100000 in
theorem whole (gx ox gy oy a b : Nat) (neg : Bool) (mode : Nat) (w : World) (hx : IntAt w gx ox (a : Int)) (hy : IntAt w gy oy (b : Int)) (hb : 0 < b) (sa : Sz a) (sb : Sz b) (hm : mode <= 4) :
  Calls Tryz.prog 171 #[.pointer (some ⟨gx, ox, none⟩), .pointer (some ⟨gy, oy, none⟩), .bool neg, .int .u8 (mode : Int)] w (WhPost (rnd neg mode a b) (decide (a % b = 0)) w) := by
 by_cases h0 : a % b = 0
 ·rw [decide_eq_true h0]; exact whole_same gx ox gy oy a b neg mode w hx hy hb sa sb h0
 ·rw [decide_eq_false h0]
  exact whole_ne mode hm gx ox gy oy a b neg w hx hy hb sa sb h0
abbrev numbV (gn on gd od : Nat) : Value := .agg #[.pointer (some ⟨gn, on, none⟩), .pointer (some ⟨gd, od, none⟩)]
structure NbBox (w : World) (g gn on gd od : Nat) : Prop where
 c0 : w.cell? ⟨g, 0, none⟩ = some (.pointer (some ⟨gn, on, none⟩))
 c1 : w.cell? ⟨g, 1, none⟩ = some (.pointer (some ⟨gd, od, none⟩))
 lt : g < w.heap.size
theorem NbBox.made (w : World) (gn on gd od : Nat) (t : TypeId) : NbBox (w.alloc (.cells #[.pointer (some ⟨gn, on, none⟩), .pointer (some ⟨gd, od, none⟩)] t)) w.heap.size gn on gd od := by
 constructor <;> first | (simp only [World.cell?]; rw [heap_alloc_new]; rfl) | simp
theorem NbBox.below {w w' : World} {g gn on gd od : Nat} (h : NbBox w g gn on gd od) (hb : Below w.heap.size w w') : NbBox w' g gn on gd od :=
 ⟨(hb.cell (p := ⟨g, 0, none⟩) h.lt).trans h.c0, (hb.cell (p := ⟨g, 1, none⟩) h.lt).trans h.c1, Nat.lt_of_lt_of_le h.lt hb.size⟩
theorem NbBox.drew {w : World} {g gn on gd od : Nat} (h : NbBox w g gn on gd od) : NbBox w.drew g gn on gd od := ⟨h.c0, h.c1, h.lt⟩
theorem Fs.cell0 {l : List Ob} {w w' : World} {k j : Nat} {v : Value} (hf : Fs l w w') (h : w.cell? ⟨k, j, none⟩ = some v) (hk : k < w.heap.size) (hne : ∀ p ∈ l, p.1 ≠ k) : w'.cell? ⟨k, j, none⟩ = some v :=
 (hf.cell k j hk (fun p hp e => absurd e (hne p hp))).trans h
theorem NbBox.fs {l : List Ob} {w w' : World} {g gn on gd od : Nat} (h : NbBox w g gn on gd od) (hf : Fs l w w') (hne : ∀ p ∈ l, p.1 ≠ g) : NbBox w' g gn on gd od :=
 ⟨Fs.cell0 hf h.c0 h.lt hne, Fs.cell0 hf h.c1 h.lt hne, Nat.lt_of_lt_of_le h.lt hf.size⟩
def TwoPost (x y : Nat) (w : World) (e : Ending) (w' : World) : Prop := ∃ g1 o1 g2 o2, e = .returned (.tuple #[.pointer (some ⟨g1, o1, none⟩), .pointer (some ⟨g2, o2, none⟩)]) /\ IntAt w' g1 o1 (x : Int) /\ IntAt w' g2 o2 (y : Int) /\ Below w.heap.size w w'
set_option maxHeartbeats 1000000 in
theorem times_up (gn on gd od a b k : Nat) (w : World) (hn : IntAt w gn on (a : Int)) (hd : IntAt w gd od (b : Int)) (sa : Sz a) (hk : (k : Int) < 1000000000000) :
  Calls Tryz.prog 112 #[numbV gn on gd od, .int .i64 (k : Int)] w (TwoPost (a * 2 ^ k) b w) := by
 have o0 := (Below.refl w.heap.size w).alloc (o := .cells #[.pointer (some ⟨gn, on, none⟩), .pointer (some ⟨gd, od, none⟩)] 162) (Nat.le_refl _)
 have x0 := NbBox.made w gn on gd od 162
 obtain ⟨w0, hw0⟩ := yx (w.alloc (.cells #[.pointer (some ⟨gn, on, none⟩), .pointer (some ⟨gd, od, none⟩)] 162))
 rw [<- hw0] at o0 x0
 have HX := vv x0
 have HB := vv o0
 have HW0 := vv hw0
 have HN := vv (hn.below o0)
 have HD := vv (hd.below o0)
 have HL := vv fun w' g (h : IntAt w' g 0 0) (h' : IntAt w' gn on (a : Int)) => A.Lsh g 0 gn on k 0 (a : Int) w' h h' (by rw [Int.natAbs_natCast]; exact sa) (by omega)
 have HP : Hid ((a : Int) * 2 ^ k = ((a * 2 ^ k : Nat) : Int)) := vv (by rw [Int.natCast_mul, Int.natCast_pow]; rfl)
 have d0 : decide ((0 : Int) <= (k : Int)) = true := decide_eq_true (by omega)
 have HWk : Hid (IntKind.u64.wrap (k : Int) = (k : Int)) := vv (by rw [IntKind.wrap_u64]; omega)
 clear o0 x0 hw0 hn hd sa
 go_enter Tryz.func112, Tryz.ntmps112
 go_wp2_with fail
 rw [<- HW0.out]
 refine wp_region_sch (fun w' => w'.cell? ⟨w.heap.size, 0, none⟩ = some (.pointer (some ⟨gn, on, none⟩)) /\ w'.cell? ⟨w.heap.size, 1, none⟩ = some (.pointer (some ⟨gd, od, none⟩))) 10
  (.still 1 (.still 2 (.still 3 (.still 4 (.still 6 (.still 7 (.one 0 (.one 5 (.still 8 (.still 9 .done)))))))))) (by kernel_rfl) (by kernel_rfl) (fun _ _ d _ _ h => by cases d <;> exact h) ⟨HX.out.c0, HX.out.c1⟩ (fun hS0 => ?_)
 obtain ⟨wc, hwc⟩ := yx (w0.drew)
 have HX : Hid (NbBox wc w.heap.size gn on gd od) := vv (by rw [hwc]; exact HX.out.drew)
 have HB : Hid (Below w.heap.size w wc) := vv (by rw [hwc]; exact below_drew HB.out)
 have HN : Hid (IntAt wc gn on (a : Int)) := vv (by rw [hwc]; exact HN.out.drew)
 have HD : Hid (IntAt wc gd od (b : Int)) := vv (by rw [hwc]; exact HD.out.drew)
 rw [<- hwc] at hS0 ⊢
 clear hwc
 iterate 6
  refine sch_still (v := ?_) rfl (by rfl) ?_ ?_
  rotate_left
  ·intro w hSw; go_simp; with_reducible rfl
  simp only [Act.put, List.setIfInBounds_toArray, List.set_cons_zero, List.set_cons_succ]
 refine sch_one rfl (by rfl) (fun K hK => ?_)
 go_simp
 have hz := IntAt.zero wc 209
 have hb := (Below.refl wc.heap.size wc).alloc (o := .cells #[.bool false, .slice none 0 0] 209) (Nat.le_refl _)
 obtain ⟨wd, hwd⟩ := yx (wc.alloc (.cells #[.bool false, .slice none 0 0] 209))
 rw [<- hwd] at hz hb ⊢
 have HZ := vv hz
 have HD0 := vv HD.out.lt
 have HX0l := HX.out.lt
 have HX := vv (HX.out.below hb)
 have HN := vv (HN.out.below hb)
 have HD := vv (HD.out.below hb)
 have hgd := HD0.out
 have HBc := vv HB.out
 have HXl := vv HX0l
 have HB := vn HB hb
 clear hz hb hwd hS0
 refine hK.out _ _ ⟨HX.out.c0, HX.out.c1⟩ (fun hHeld => ?_)
 clear hK
 refine sch_one rfl (by rfl) (fun K hK => ?_)
 go_simp
 rw [HWk.out]
 refine (HL.out wd wc.heap.size HZ.out HN.out).mono ?_
 rintro e we ⟨rfl, hi, hf⟩
 rw [HP.out] at hi
 have hF := hf.fs HZ.out hi
 have HI := vv hi
 have HD := vv (HD.out.fs1 hF (by omega))
 have HB := vv (hF.below HB.out (by have := HB.out.size; omega) (by intro p hp; simp at hp; rw [hp]; exact HBc.out.size))
 have HX := vv (HX.out.fs hF (by intro p hp; simp at hp; rw [hp]; have := HXl.out; show wc.heap.size ≠ w.heap.size; omega))
 clear hi hf hF
 go_wp2_with fail
 refine hK.out _ _ ⟨HX.out.c0, HX.out.c1⟩ (fun hHeld => ?_)
 clear hK
 iterate 2
  refine sch_still (v := ?_) rfl (by rfl) ?_ ?_
  rotate_left
  ·intro w hSw; go_simp; with_reducible rfl
  simp only [Act.put, List.setIfInBounds_toArray, List.set_cons_zero, List.set_cons_succ]
 refine sch_end rfl ?_
 go_wp2
 go_ret2
 exact ⟨wc.heap.size, 0, gd, od, rfl, HI.out, HD.out, HB.out⟩
set_option maxRecDepth 100000 in
set_option maxHeartbeats 1000000 in
theorem times_down (gn on gd od a b k : Nat) (w : World) (hn : IntAt w gn on (a : Int)) (hd : IntAt w gd od (b : Int)) (sb : Sz b) (hk0 : 0 < k) (e : Int) (he : -e = (k : Int)) (hk : (k : Int) < 1000000000000) :
  Calls Tryz.prog 112 #[numbV gn on gd od, .int .i64 e] w (TwoPost a (b * 2 ^ k) w) := by
 have o0 := (Below.refl w.heap.size w).alloc (o := .cells #[.pointer (some ⟨gn, on, none⟩), .pointer (some ⟨gd, od, none⟩)] 162) (Nat.le_refl _)
 have x0 := NbBox.made w gn on gd od 162
 obtain ⟨w0, hw0⟩ := yx (w.alloc (.cells #[.pointer (some ⟨gn, on, none⟩), .pointer (some ⟨gd, od, none⟩)] 162))
 rw [<- hw0] at o0 x0
 have HX := vv x0
 have HB := vv o0
 have HW0 := vv hw0
 have HN := vv (hn.below o0)
 have HD := vv (hd.below o0)
 have HL := vv fun w' g (h : IntAt w' g 0 0) (h' : IntAt w' gd od (b : Int)) => A.Lsh g 0 gd od k 0 (b : Int) w' h h' (by rw [Int.natAbs_natCast]; exact sb) (by omega)
 have HP : Hid ((b : Int) * 2 ^ k = ((b * 2 ^ k : Nat) : Int)) := vv (by rw [Int.natCast_mul, Int.natCast_pow]; rfl)
 have d0 : decide ((0 : Int) <= e) = false := decide_eq_false (by omega)
 have HWk : Hid (IntKind.u64.wrap (IntKind.i64.wrap (k : Int)) = (k : Int)) := vv (by rw [IntWalk.i64_in _ (by omega), IntKind.wrap_u64]; omega)
 have hel : e <= 0 := by omega
 have heg : -1000000000000 <= e := by omega
 clear o0 x0 hw0 hn hd sb hk0
 go_enter Tryz.func112, Tryz.ntmps112
 go_wp2_with fail
 rw [<- HW0.out]
 refine wp_region_sch (fun w' => w'.cell? ⟨w.heap.size, 0, none⟩ = some (.pointer (some ⟨gn, on, none⟩)) /\ w'.cell? ⟨w.heap.size, 1, none⟩ = some (.pointer (some ⟨gd, od, none⟩))) 11
  (.still 0 (.still 1 (.still 3 (.still 4 (.still 5 (.still 6 (.still 7 (.one 2 (.one 8 (.still 9 (.still 10 .done))))))))))) (by kernel_rfl) (by kernel_rfl) (fun _ _ d _ _ h => by cases d <;> exact h) ⟨HX.out.c0, HX.out.c1⟩ (fun hS0 => ?_)
 obtain ⟨wc, hwc⟩ := yx (w0.drew)
 have HX : Hid (NbBox wc w.heap.size gn on gd od) := vv (by rw [hwc]; exact HX.out.drew)
 have HB : Hid (Below w.heap.size w wc) := vv (by rw [hwc]; exact below_drew HB.out)
 have HN : Hid (IntAt wc gn on (a : Int)) := vv (by rw [hwc]; exact HN.out.drew)
 have HD : Hid (IntAt wc gd od (b : Int)) := vv (by rw [hwc]; exact HD.out.drew)
 rw [<- hwc] at hS0 ⊢
 clear hwc
 iterate 7
  refine sch_still (v := ?_) rfl (by rfl) ?_ ?_
  rotate_left
  ·intro w hSw; go_simp; with_reducible rfl
  simp only [Act.put, List.setIfInBounds_toArray, List.set_cons_zero, List.set_cons_succ]
 refine sch_one rfl (by rfl) (fun K hK => ?_)
 go_simp
 have hz := IntAt.zero wc 209
 have hb := (Below.refl wc.heap.size wc).alloc (o := .cells #[.bool false, .slice none 0 0] 209) (Nat.le_refl _)
 obtain ⟨wd, hwd⟩ := yx (wc.alloc (.cells #[.bool false, .slice none 0 0] 209))
 rw [<- hwd] at hz hb ⊢
 have HZ := vv hz
 have HD0 := vv HN.out.lt
 have HX0l := HX.out.lt
 have HX := vv (HX.out.below hb)
 have HN := vv (HN.out.below hb)
 have HD := vv (HD.out.below hb)
 have hgd := HD0.out
 have HBc := vv HB.out
 have HXl := vv HX0l
 have HB := vn HB hb
 clear hz hb hwd hS0
 refine hK.out _ _ ⟨HX.out.c0, HX.out.c1⟩ (fun hHeld => ?_)
 clear hK
 refine sch_one rfl (by rfl) (fun K hK => ?_)
 go_simp
 rw [HWk.out]
 refine (HL.out wd wc.heap.size HZ.out HD.out).mono ?_
 rintro e' we ⟨rfl, hi, hf⟩
 rw [HP.out] at hi
 have hF := hf.fs HZ.out hi
 have HI := vv hi
 have HN := vv (HN.out.fs1 hF (by omega))
 have HB := vv (hF.below HB.out (by have := HB.out.size; omega) (by intro p hp; simp at hp; rw [hp]; exact HBc.out.size))
 have HX := vv (HX.out.fs hF (by intro p hp; simp at hp; rw [hp]; have := HXl.out; show wc.heap.size ≠ w.heap.size; omega))
 clear hi hf hF
 go_wp2_with fail
 refine hK.out _ _ ⟨HX.out.c0, HX.out.c1⟩ (fun hHeld => ?_)
 clear hK
 iterate 2
  refine sch_still (v := ?_) rfl (by rfl) ?_ ?_
  rotate_left
  ·intro w hSw; go_simp; with_reducible rfl
  simp only [Act.put, List.setIfInBounds_toArray, List.set_cons_zero, List.set_cons_succ]
 refine sch_end rfl ?_
 go_wp2
 go_ret2
 exact ⟨gn, on, wc.heap.size, 0, rfl, HN.out, HI.out, HB.out⟩
theorem times (gn on gd od a b : Nat) (e : Int) (w : World) (hn : IntAt w gn on (a : Int)) (hd : IntAt w gd od (b : Int)) (sa : Sz a) (sb : Sz b) (h1 : e < 1000000000000) (h2 : -1000000000000 < e) :
  Calls Tryz.prog 112 #[numbV gn on gd od, .int .i64 e] w (TwoPost (a * p2 e) (b * p2 (-e)) w) := by
 by_cases h : 0 <= e
 ·obtain ⟨k, rfl⟩ : ∃ k : Nat, e = k := ⟨e.toNat, by omega⟩
  rw [p2_nat, p2_nonpos (by omega), Nat.mul_one]
  exact times_up gn on gd od a b k w hn hd sa h1
 ·obtain ⟨k, rfl⟩ : ∃ k : Nat, e = -(k : Int) := ⟨(-e).toNat, by omega⟩
  rw [p2_nonpos (n := -(k : Int)) (by omega), Nat.mul_one, Int.neg_neg, p2_nat]
  exact times_down gn on gd od a b k w hn hd sb (by omega) _ (by omega) (by omega)
set_option maxHeartbeats 1000000 in
theorem log (gn on gd od a b : Nat) (w : World) (hn : IntAt w gn on (a : Int)) (hd : IntAt w gd od (b : Int)) (sa : Sz a) (sb : Sz b) :
  Calls Tryz.prog 296 #[numbV gn on gd od] w fun e w' => e = .returned (.int .i64 (ilog a b)) /\ Below w.heap.size w w' := by
 have o0 := (Below.refl w.heap.size w).alloc (o := .cells #[.pointer (some ⟨gn, on, none⟩), .pointer (some ⟨gd, od, none⟩)] 162) (Nat.le_refl _)
 have x0 := NbBox.made w gn on gd od 162
 obtain ⟨w0, hw0⟩ := yx (w.alloc (.cells #[.pointer (some ⟨gn, on, none⟩), .pointer (some ⟨gd, od, none⟩)] 162))
 rw [<- hw0] at o0 x0
 have HX := vv x0
 have HB := vv o0
 have HW0 := vv hw0
 have HN := vv (hn.below o0)
 have HD := vv (hd.below o0)
 have ba : (bl a : Int) <= 274877906944 := by have := sa; unfold Sz at this; omega
 have bb : (bl b : Int) <= 274877906944 := by have := sb; unfold Sz at this; omega
 obtain ⟨D, hD⟩ : ∃ D : Int, (bl a : Int) - (bl b : Int) = D := ⟨_, rfl⟩
 obtain ⟨D', hD'⟩ : ∃ D' : Int, -D = D' := ⟨_, rfl⟩
 have hL : ilog a b = if a * p2 D' < b * p2 (-D') then D - 1 else D := by unfold ilog; rw [hD, <- hD', Int.neg_neg]
 have HL := vv hL
 have HBa := vv fun w' (h : IntAt w' gn on (a : Int)) => A.BitLen gn on (a : Int) w' h
 have HBb := vv fun w' (h : IntAt w' gd od (b : Int)) => A.BitLen gd od (b : Int) w' h
 rw [Int.natAbs_natCast] at HBa HBb
 have HT := vv fun w' (h : IntAt w' gn on (a : Int)) (h' : IntAt w' gd od (b : Int)) => times gn on gd od a b D' w' h h' sa sb (by omega) (by omega)
 obtain ⟨X, hX⟩ := yx (a * p2 D')
 obtain ⟨Y, hY⟩ := yx (b * p2 (-D'))
 simp only [<- hX, <- hY] at HT
 rw [<- hX, <- hY] at HL
 obtain ⟨la, hla⟩ := yx (bl a)
 obtain ⟨lb, hlb⟩ := yx (bl b)
 rw [<- hla, <- hlb] at hD
 rw [<- hla] at ba HBa
 rw [<- hlb] at bb HBb
 have HWD : Hid (IntKind.i64.wrap D = D) := vv (IntWalk.i64_in _ (by omega))
 have r1 : D <= 274877906944 := by omega
 have r2 : -274877906944 <= D := by omega
 have HCm := vv fun w' g1 o1 g2 o2 (h : IntAt w' g1 o1 (X : Int)) (h' : IntAt w' g2 o2 (Y : Int)) => A.Cmp g1 o1 g2 o2 (X : Int) (Y : Int) w' h h'
 obtain ⟨z, hz⟩ := yx (cmpZ (X : Int) (Y : Int))
 simp only [<- hz] at HCm
 clear o0 x0 hw0 hn hd sa sb hL hla hlb hX hY
 go_enter Tryz.func296, Tryz.ntmps296
 go_wp2_with fail
 rw [<- HW0.out]
 refine wp_region_sch (fun w' => w'.cell? ⟨w.heap.size, 0, none⟩ = some (.pointer (some ⟨gn, on, none⟩)) /\ w'.cell? ⟨w.heap.size, 1, none⟩ = some (.pointer (some ⟨gd, od, none⟩))) 7
  (.still 0 (.still 1 (.still 3 (.still 4 (.one 2 (.one 5 (.still 6 .done))))))) (by kernel_rfl) (by kernel_rfl) (fun _ _ d _ _ h => by cases d <;> exact h) ⟨HX.out.c0, HX.out.c1⟩ (fun hS0 => ?_)
 obtain ⟨wc, hwc⟩ := yx (w0.drew)
 have HX : Hid (NbBox wc w.heap.size gn on gd od) := vv (by rw [hwc]; exact HX.out.drew)
 have HB : Hid (Below w.heap.size w wc) := vv (by rw [hwc]; exact below_drew HB.out)
 have HN : Hid (IntAt wc gn on (a : Int)) := vv (by rw [hwc]; exact HN.out.drew)
 have HD : Hid (IntAt wc gd od (b : Int)) := vv (by rw [hwc]; exact HD.out.drew)
 rw [<- hwc] at hS0 ⊢
 clear hwc
 iterate 4
  refine sch_still (v := ?_) rfl (by rfl) ?_ ?_
  rotate_left
  ·intro w hSw; go_simp; with_reducible rfl
  simp only [Act.put, List.setIfInBounds_toArray, List.set_cons_zero, List.set_cons_succ]
 refine sch_one rfl (by rfl) (fun K hK => ?_)
 go_simp
 refine (HBa.out _ HN.out).mono ?_
 rintro e w' ⟨rfl, rfl⟩
 go_wp2_with fail
 refine hK.out _ _ ⟨HX.out.c0, HX.out.c1⟩ (fun hHeld => ?_)
 clear hK
 refine sch_one rfl (by rfl) (fun K hK => ?_)
 go_simp
 refine (HBb.out _ HD.out).mono ?_
 rintro e w' ⟨rfl, rfl⟩
 go_wp2_with fail
 refine hK.out _ _ ⟨HX.out.c0, HX.out.c1⟩ (fun hHeld => ?_)
 clear hK
 iterate 1
  refine sch_still (v := ?_) rfl (by rfl) ?_ ?_
  rotate_left
  ·intro w hSw; go_simp; with_reducible rfl
  simp only [Act.put, List.setIfInBounds_toArray, List.set_cons_zero, List.set_cons_succ]
 rw [HWD.out]
 refine sch_done ?_
 clear hHeld hS0
 obtain ⟨x0, x1, xl⟩ := HX.out
 go_wp2_with fail
 refine (HT.out _ HN.out HD.out).mono ?_
 rintro e w2 ⟨g1, o1, g2, o2, rfl, h1, h2, hB2⟩
 have H1 := vv h1
 have H2 := vv h2
 have HB2 := vn HB hB2
 clear h1 h2 hB2
 go_wp2_with fail
 refine (HCm.out _ g1 o1 g2 o2 H1.out H2.out).mono ?_
 rintro e w3 ⟨rfl, hB3⟩
 have HB3 := vn HB2 hB3
 clear hB3 x0 x1 xl
 by_cases h : X < Y
 ·have HF : Hid (ilog a b = D - 1) := vv (by rw [HL.out, if_pos h])
  have dz : decide (z < 0) = true := decide_eq_true (by rw [hz, cmpZ_lt (by omega)]; decide)
  clear h hz
  go_wp2
  go_ret
  exact ⟨retI HF.out.symm, HB3.out⟩
 ·have HF : Hid (ilog a b = D) := vv (by rw [HL.out, if_neg h])
  have dz : decide (z < 0) = false := decide_eq_false (by
   rw [hz]
   rcases (by omega : (X : Int) = (Y : Int) \/ (Y : Int) < (X : Int)) with e | e
   ·rw [e, cmpZ_eq]; decide
   ·rw [cmpZ_gt e]; decide)
  clear h hz
  go_wp2
  go_ret
  exact ⟨retI HF.out.symm, HB3.out⟩
end Go.Proofs.YtddaldghlinokaaGreatDoor.Rnd
namespace Go.Proofs.YtddaldghlinokaaGreatDoor.A
open Go Go.RowKit
theorem or_zero (y : Nat) (h : y < 4294967296) : bits .or .u32 0 (y : Int) = (y : Int) := by
 have := u32_or_nat 0 y (by omega) h
 rw [Nat.zero_or] at this
 exact this
set_option maxHeartbeats 2000000 in
set_option maxRecDepth 100000 in
theorem Or0 (g o gx ox gy oy : Nat) (v : Int) (X Y : Nat) (w : World) (h : IntAt w g o v) (hx : IntAt w gx ox (X : Int)) (hy : IntAt w gy oy (Y : Int)) (sX : Sz X) (hY : Y < 4294967296) (hX : X % 4294967296 = 0) :
  Calls Tryz.prog 211 #[.pointer (some ⟨g, o, none⟩), .pointer (some ⟨gx, ox, none⟩), .pointer (some ⟨gy, oy, none⟩)] w (SetPost g o ((X + Y : Nat) : Int) w) := by
 have HI := vv h
 have hlx := hx.lt
 have hly := hy.lt
 obtain ⟨A, n, c, h0, h1, hr, hz⟩ := hx.ex
 obtain ⟨B, m, d, k0, k1, hs, hzy⟩ := hy.ex
 rw [Int.natAbs_natCast] at hr hs
 have hm1 : m <= 1 := hs.bound (k := 1) (by rw [Nat.pow_one]; exact hY)
 have hn1 := hr.sz sX
 obtain ⟨L, hL⟩ : ∃ L, max n m = L := ⟨_, rfl⟩
 obtain ⟨Z, hZ⟩ := yx (X + Y)
 rw [<- hZ]
 have HZ := vv hZ
 have hmax : max (n : Int) (m : Int) = (L : Int) := by omega
 have hLb : L <= 1099511627776 := by omega
 have hLi : (L : Int) <= 1099511627776 := by omega
 have hmk := mk L hLb
 have hni : (n : Int) <= 8589934592 := by omega
 have HX := vv hr
 have HY := vv hs
 have hnL : n <= L := by omega
 have hmL : m <= L := by omega
 have HHI := vv (show IntAt w.drew g o v from h.drew)
 have H1 : Hid ((w.drew.alloc (.cells (madeCells #[.int .u32 0] L) 34)).heap[w.heap.size]? = some (.cells (u32s (List.replicate L 0)).toArray 34 (0, 0))) := vv (Own.made w.drew L 34).heap
 have H3 : Hid (Below w.heap.size w (w.drew.alloc (.cells (madeCells #[.int .u32 0] L) 34))) := vv ((below_drew (Below.refl _ w)).alloc (Nat.le_refl _) _)
 have H2 := vv (hr.below H3.out rfl)
 have HLn := vv hr.len
 have Hl : Hid ((u32s (toL X)).length = Nat.min n L) := vv (by rw [show Nat.min n L = n from Nat.min_eq_left hnL]; simp [u32s, HLn.out])
 have Hf : Hid (0 + (u32s (toL X)).length <= (u32s (List.replicate L 0)).length) := vv (by simp [u32s, HLn.out]; omega)
 have Hs : Hid ((Tryz.prog.info? 34).map (·.size) = some 1) := vv (by kernel_rfl)
 have HLL := vv hL
 have HX0 := vv hX
 have HYb := vv hY
 have HnL := vv hnL
 clear hX hz hzy hx hy h hZ hY hnL
 go_enter Tryz.func211, Tryz.ntmps211
 go_wp2_with fail
 refine wp_region_sch (fun w' => w'.cell? ⟨gx, ox + 1, none⟩ = some (.slice A n c) /\ w'.cell? ⟨gy, oy + 1, none⟩ = some (.slice B m d)) 12
  (.still 0 (.still 1 (.still 2 (.still 3 (.still 4 (.still 5 (.still 6 (.still 7 (.still 8 (.still 9 (.still 10 (.one 11 .done)))))))))))) (by kernel_rfl) (by kernel_rfl) (fun _ _ d _ _ h => by cases d <;> exact h) ⟨h1, k1⟩ (fun hS0 => ?_)
 iterate 11
  refine sch_still (v := ?_) rfl (by rfl) ?_ ?_
  rotate_left
  ·intro w hSw; go_simp; with_reducible rfl
  simp only [Act.put, List.setIfInBounds_toArray, List.set_cons_zero, List.set_cons_succ]
 refine sch_one rfl (by rfl) (fun K hK => ?_)
 go_simp
 obtain ⟨wn, hwn⟩ := yx ((w.alloc (.cells (madeCells #[.int .u32 0] L) 34)).drew)
 rw [<- hwn]
 have H1 : Hid (wn.heap[w.heap.size]? = some (.cells (u32s (List.replicate L 0)).toArray 34 (0, 0))) := vv (by rw [hwn]; exact H1.out)
 have H3 : Hid (Below w.heap.size w wn) := vv (by rw [hwn]; exact ⟨H3.out.os, H3.out.tape, H3.out.output, H3.out.size, H3.out.block⟩)
 have H2 := vv (hr.below H3.out rfl)
 clear hwn
 refine hK.out _ _ ⟨(H3.out.cell (p := ⟨gx, ox + 1, none⟩) hlx).trans h1, (H3.out.cell (p := ⟨gy, oy + 1, none⟩) hly).trans k1⟩ (fun hHeld => ?_)
 clear hK
 refine sch_done ?_
 have j1 := (H3.out.cell (p := ⟨gx, ox + 1, none⟩) hlx).trans h1
 go_wp2_with (with_reducible refine wpList_copy_splice (o := ⟨some 27, _, _, _, _, _⟩) rfl _ _ 26 26 rfl 34 Tryz.underlying26 Hs.out _ _ L L n c rfl rfl w.heap.size 0 _ 34 H1.out (u32s (toL X)) Hl.out (fun hp => ⟨rfl, (H2.out.copyPos (d := none) (e := none) rfl hp).2⟩) Hf.out (u32s_one (toL X)) w.heap.size w H3.out (Nat.le_refl _) ?_)
 intro w2 hh hb
 have e : splice (u32s (List.replicate L 0)) 0 (u32s (toL X)) = u32s (toL X ++ List.replicate (L - n) 0) := by
  unfold splice u32s
  rw [List.take_zero, List.nil_append, Nat.zero_add, List.length_map, HLn.out, List.map_replicate, List.drop_replicate, List.map_append, List.map_replicate]
 have hown0 : Own w2 w.heap.size 34 (toL X ++ List.replicate (L - n) 0) := Own.of_heap (by have := hh.out; rw [e] at this; exact this) (Lim_append.2 ⟨hr.lim, Lim_replicate _⟩)
 obtain ⟨W0, hW0⟩ := yx (toL X ++ List.replicate (L - n) 0)
 have hvW : val W0 = X := by rw [hW0, val_append, val_replicate, val_toL]; simp
 have hlW : W0.length = L := by rw [hW0, List.length_append, HLn.out, List.length_replicate]; have := HnL.out; omega
 rw [<- hW0] at hown0
 have hw00 : nth W0 0 = 0 := by rw [nth_val hown0.2, hvW, Nat.pow_zero, Nat.div_one]; exact HX0.out
 have HOwn := vv hown0
 have HvW := vv hvW
 have HlW := vv hlW
 have Hw0 := vv hw00
 have HI2 := vv (HI.out.below (hb.mono (Nat.le_refl _)))
 have HB2 := vv hb
 have j2 := (hb.cell (p := ⟨gy, oy + 1, none⟩) hly).trans k1
 have hly2 : gy < w2.heap.size := Nat.lt_of_lt_of_le hly hb.size
 clear e hown0 hW0 hvW hlW hw00 hh hb hmk hS0 hHeld j1 H1 H2 H3
 rcases (by omega : m = 0 \/ m = 1) with rfl | rfl
 ·have hY0 : Y = 0 := by
   have h1 := HY.out.len
   have h2 : val (toL Y) = val [] := by rw [List.eq_nil_of_length_eq_zero h1]
   rw [val_toL] at h2
   exact h2
  have HZX : Hid (Z = X) := vv (by rw [HZ.out, hY0]; rfl)
  clear hY0
  go_wp2
  go_loop [33] (fun t => t = .int .i64 0) (fun _ => 0)
  case atStart => rfl
  case round =>
   subst hrel
   go_wp2_with fail
   refine (trim (some ⟨w.heap.size, 0, none⟩) L L W0 w2 (HOwn.out.rd HlW.out.symm (Nat.le_refl _) (by omega))).mono ?_
   rintro e w' ⟨m', rfl, rfl, hR⟩
   rw [HvW.out] at hR
   have HR := vv hR
   clear hR
   go_wp2_with fail
   refine (set_of g o v (Z : Int) false _ m' L X w2 HI2.out HR.out (fun a e => by cases e; rfl) (by rw [Int.natAbs_natCast, HZX.out]) (by rw [Bool.false_and]; exact decide_eq_false (by omega))).mono ?_
   rintro e w3 ⟨rfl, hI, hF⟩
   have HI3 := vv hI
   have HF3 := vv (Fm.trans (Fm.of_below HB2.out HI.out.lt) hF)
   clear hI hF
   go_wp2
   go_ret
   exact ⟨rfl, HI3.out, HF3.out⟩
 ·have hYn : nth (toL Y) 0 = Y := by rw [nth_toL, Nat.pow_zero, Nat.div_one, Nat.mod_eq_of_lt HYb.out]
  obtain ⟨b, off, rfl, hbl, hc⟩ := hs.cell (by omega)
  have hyc := hc 0 (by omega)
  rw [Nat.add_zero, hYn] at hyc
  have hyc2 : w2.cell? ⟨b, off, none⟩ = some (.int .u32 (Y : Int)) := (HB2.out.cell (p := ⟨b, off, none⟩) hbl).trans hyc
  have hL1 : 0 < L := by have := hmL; omega
  have hwc := HOwn.out.cell (i := 0) (by rw [HlW.out]; exact hL1)
  rw [Hw0.out] at hwc
  have hwf := HOwn.out.frozen 0
  have hwl := HOwn.out.lt
  have hO := or_zero Y HYb.out
  have hYi : (Y : Int) <= 4294967295 := by have := HYb.out; omega
  have HS3 := vv (HOwn.out.set (i := 0) (x := Y) (z := (Y : Int)) (by rw [HlW.out]; exact hL1) HYb.out rfl)
  have HvS : Hid (val (W0.set 0 Y) = Z) := vv (by
   have h1 := HvW.out
   have h2 := Hw0.out
   have h3 := HlW.out
   rcases W0 with _ | ⟨x, tl⟩
   ·exact absurd h3 (by simp; omega)
   ·have h4 : x = 0 := h2
    rw [h4] at h1
    show val (Y :: tl) = Z
    simp only [val] at h1 ⊢
    rw [HZ.out]; omega)
  have HlS : Hid ((W0.set 0 Y).length = L) := vv (by rw [List.length_set]; exact HlW.out)
  have HIs := vv (show IntAt (w2.setCell ⟨w.heap.size, 0, none⟩ (.int .u32 (Y : Int))) g o v from HI.out.below (HB2.out.setCell (Nat.le_refl _) _))
  have HBs := vv (HB2.out.setCell (p := ⟨w.heap.size, 0, none⟩) (Nat.le_refl _) (.int .u32 (Y : Int)))
  have hLi1 : (0 : Int) < (L : Int) := by omega
  clear hc hyc hYn hs
  go_wp2
  go_loopw [33] (fun t wr => (t = .int .i64 0 /\ wr = w2) \/ (t = .int .i64 1 /\ wr = w2.setCell ⟨w.heap.size, 0, none⟩ (.int .u32 (Y : Int)))) (fun t _ => 1 - (intOf t).toNat)
  case atStart => exact .inl ⟨rfl, rfl⟩
  case round =>
   rcases hrel with ⟨rfl, rfl⟩ | ⟨rfl, rfl⟩
   ·go_wp2
    go_roundw
    case rel => exact .inr ⟨by go_num, trivial⟩
    case measure => simp [intOf]
   ·obtain ⟨w3, hw3⟩ := yx (w2.setCell ⟨w.heap.size, 0, none⟩ (.int .u32 (Y : Int)))
    rw [<- hw3] at HS3 HIs HBs ⊢
    clear hw3
    go_wp2_with fail
    refine (trim (some ⟨w.heap.size, 0, none⟩) L L (W0.set 0 Y) w3 (HS3.out.rd HlS.out.symm (Nat.le_refl _) (by omega))).mono ?_
    rintro e w' ⟨m', rfl, rfl, hR⟩
    rw [HvS.out] at hR
    have HR := vv hR
    clear hR
    go_wp2_with fail
    refine (set_of g o v (Z : Int) false _ m' L Z w3 HIs.out HR.out (fun a e => by cases e; rfl) (by rw [Int.natAbs_natCast]) (by rw [Bool.false_and]; exact decide_eq_false (by omega))).mono ?_
    rintro e w4 ⟨rfl, hI, hF⟩
    have HI4 := vv hI
    have HF4 := vv (Fm.trans (Fm.of_below HBs.out HI.out.lt) hF)
    clear hI hF
    go_wp2
    go_ret
    exact ⟨rfl, HI4.out, HF4.out⟩
end Go.Proofs.YtddaldghlinokaaGreatDoor.A
namespace Go.Proofs.YtddaldghlinokaaGreatDoor.Rnd
open Go Go.RowKit R5
theorem val_drop_le (xs : List Nat) (k : Nat) : val (xs.drop k) * 4294967296 ^ k <= val xs := by
 have h := val_append (xs.take k) (xs.drop k)
 rw [List.take_append_drop] at h
 rcases Nat.le_total k xs.length with hk | hk
 ·rw [List.length_take, Nat.min_eq_left hk] at h
  rw [h, Nat.mul_comm]; omega
 ·rw [List.drop_of_length_le hk]; simp [val]
set_option maxHeartbeats 2000000 in
set_option maxRecDepth 100000 in
theorem large (A : Option Addr) (n c N : Nat) (w : World) (hr : Rd w A n c (toL N)) (sN : Sz N) :
  Calls Tryz.prog 110 #[natV A n c] w (NewPost (N : Int) w) := by
 have hb8 := hr.sz sN
 have hni : (n : Int) <= 8589934592 := by omega
 have HSN := vv sN
 have o0 := (Below.refl w.heap.size w).alloc (o := .cells #[.slice A n c] 28) (Nat.le_refl _)
 have c0 : (w.alloc (.cells #[.slice A n c] 28)).cell? ⟨w.heap.size, 0, none⟩ = some (.slice A n c) := by simp only [World.cell?]; rw [heap_alloc_new]; rfl
 obtain ⟨w0, hw0⟩ := yx (w.alloc (.cells #[.slice A n c] 28))
 rw [<- hw0] at o0 c0
 have s0 : w0.heap.size = w.heap.size + 1 := by rw [hw0]; simp
 have o1 := (Below.refl w0.heap.size w0).alloc (o := .cells #[.bool false, .slice none 0 0] 209) (Nat.le_refl _)
 have i1 := IntAt.zero w0 209
 obtain ⟨w1, hw1⟩ := yx (w0.alloc (.cells #[.bool false, .slice none 0 0] 209))
 rw [<- hw1] at o1 i1
 rw [s0] at i1
 have s1 : w1.heap.size = w.heap.size + 2 := by rw [hw1]; simp; omega
 have b1 : Below w.heap.size w w1 := o0.trans (o1.mono (by omega))
 have c1 := (o1.cell (p := ⟨w.heap.size, 0, none⟩) (by show w.heap.size < w0.heap.size; omega)).trans c0
 have HI1 := vv i1
 have HB1 := vv b1
 have HC1 := vv c1
 have HS1 := vv s1
 have HW1 : Hid (w1 = (w.alloc (.cells #[.slice A n c] 28)).alloc (.cells #[.bool false, .slice none 0 0] 209)) := vv (by rw [hw1, hw0])
 have HR := vv hr
 have l1 : w.heap.size < w1.heap.size := by omega
 clear o0 c0 hw0 s0 o1 i1 hw1 s1 b1 hr sN
 go_enter Tryz.func110, Tryz.ntmps110
 go_wp2
 rw [<- HW1.out]
 clear c1 l1
 go_loopw [4] (fun t wr => ∃ (z : Int) (k : Nat), t = .int .i64 z /\ z + 1 = k /\ k <= n /\ IntAt wr (w.heap.size + 1) 0 ((val ((toL N).drop k) : Nat) : Int) /\ wr.cell? ⟨w.heap.size, 0, none⟩ = some (.slice A n c) /\ w.heap.size + 1 < wr.heap.size /\ Below w.heap.size w wr) (fun t _ => (intOf t + 1).toNat)
 case atStart => exact ⟨_, n, rfl, by omega, Nat.le_refl _, by rw [List.drop_of_length_le (by rw [HR.out.len]; exact Nat.le_refl _)]; exact HI1.out, HC1.out, by have := HS1.out; omega, HB1.out⟩
 case round =>
  obtain ⟨z, k, rfl, hz, hk, hI, hC, hl, hB⟩ := hrel
  have HI := vv hI
  have HC := vv hC
  have HB := vv hB
  rcases Nat.eq_zero_or_pos k with rfl | hpos
  ·obtain rfl : z = -1 := by omega
   rw [List.drop_zero, val_toL] at hI
   have HI := vv hI
   clear hz hI hC hB
   go_wp2
   go_ret
   exact ⟨w.heap.size + 1, rfl, by omega, HI.out, HB.out⟩
  ·obtain ⟨j, rfl⟩ : ∃ j, k = j + 1 := ⟨k - 1, by omega⟩
   obtain rfl : z = (j : Int) := by omega
   obtain ⟨b, off, rfl, hbl, hcell⟩ := HR.out.cell (by omega)
   have hx := hcell j (by omega)
   have HXc := vv (fun (w' : World) (h : Below w.heap.size w w') => (h.cell (p := ⟨b, off + j, none⟩) hbl).trans hx)
   have hv : nth (toL N) j < 4294967296 := HR.out.nth_lt j
   obtain ⟨V, hV⟩ := yx (val ((toL N).drop (j + 1)))
   have hstep := val_drop_nth (toL N) j
   obtain ⟨y, hy⟩ := yx (nth (toL N) j)
   rw [<- hV, <- hy] at hstep
   rw [<- hy] at hv HXc
   rw [<- hV] at HI
   have hle := val_drop_le (toL N) (j + 1)
   rw [val_toL, <- hV] at hle
   have hp1 : 4294967296 ^ 1 <= 4294967296 ^ (j + 1) := Nat.pow_le_pow_right (by omega) (by omega)
   rw [Nat.pow_one] at hp1
   have hVN : V * 4294967296 <= N := Nat.le_trans (Nat.mul_le_mul_left V hp1) hle
   have sV : Sz (V * 4294967296) := Sz.mono HSN.out hVN
   have sV1 : Sz V := Sz.mono HSN.out (by omega)
   obtain ⟨X, hX⟩ := yx (V * 4294967296)
   rw [<- hX] at sV
   have HLs := vv fun w' (h : IntAt w' (w.heap.size + 1) 0 (V : Int)) => A.Lsh (w.heap.size + 1) 0 (w.heap.size + 1) 0 32 (V : Int) (V : Int) w' h h (by rw [Int.natAbs_natCast]; exact sV1) (by omega)
   have hsh : (V : Int) * 2 ^ 32 = (X : Int) := by rw [hX]; omega
   simp only [hsh] at HLs
   have HOr := vv fun w' gy (h : IntAt w' (w.heap.size + 1) 0 (X : Int)) (h' : IntAt w' gy 0 (y : Int)) => A.Or0 (w.heap.size + 1) 0 (w.heap.size + 1) 0 gy 0 (X : Int) X y w' h h h' sV hv (by omega)
   have HNi := vv fun w' => A.NewInt (y : Int) w' (by omega) (by omega)
   have HWy : Hid (IntKind.i64.wrap (y : Int) = (y : Int)) := vv (IntWalk.i64_in _ (by omega))
   have HStep : Hid (val ((toL N).drop j) = X + y) := vv (by rw [hstep, hX]; omega)
   have hji : (j : Int) < (n : Int) := by omega
   have hyi : (y : Int) <= 4294967295 := by omega
   have hbw : b < w.heap.size := hbl
   have HHL := vv hl
   clear hz hI hC hB hcell hx hV hstep hy hle hp1 hVN sV sV1 hX hsh hv
   go_wp2_with fail
   refine wp_region_sch (fun w' => w'.cell? ⟨w.heap.size, 0, none⟩ = some (.slice (some ⟨b, off, none⟩) n c) /\ w'.cell? ⟨b, off + j, none⟩ = some (.int .u32 (y : Int))) 12
    (.still 0 (.still 1 (.still 3 (.still 4 (.still 5 (.still 6 (.still 7 (.still 8 (.still 9 (.one 2 (.one 10 (.one 11 .done)))))))))))) (by kernel_rfl) (by kernel_rfl) (fun _ _ d _ _ h => by cases d <;> exact h) ⟨HC.out, HXc.out _ (below_drew HB.out)⟩ (fun hS0 => ?_)
   obtain ⟨wc, hwc⟩ := yx (wr.drew)
   have HI : Hid (IntAt wc (w.heap.size + 1) 0 (V : Int)) := vv (by rw [hwc]; exact HI.out.drew)
   have HB : Hid (Below w.heap.size w wc) := vv (by rw [hwc]; exact below_drew HB.out)
   have HC : Hid (wc.cell? ⟨w.heap.size, 0, none⟩ = some (.slice (some ⟨b, off, none⟩) n c)) := vv (by rw [hwc]; exact HC.out)
   have HHL : Hid (w.heap.size + 1 < wc.heap.size) := vv (by rw [hwc]; exact HHL.out)
   rw [<- hwc] at hS0 ⊢
   clear hwc hl
   iterate 9
    refine sch_still (v := ?_) rfl (by rfl) ?_ ?_
    rotate_left
    ·intro w hSw; go_simp; with_reducible rfl
    simp only [Act.put, List.setIfInBounds_toArray, List.set_cons_zero, List.set_cons_succ]
   refine sch_one rfl (by rfl) (fun K hK => ?_)
   go_simp
   refine (HLs.out _ HI.out).mono ?_
   rintro e w2 ⟨rfl, hi, hf⟩
   have hF := hf.fs HI.out hi
   have HI2 := vv hi
   have HB2 := vv (hF.below HB.out (by have := HB.out.size; omega) (by intro p hp; simp at hp; rw [hp]; simp))
   have HC2 := vv (Fs.cell0 hF HC.out (by have := HHL.out; omega) (by intro p hp; simp at hp; rw [hp]; simp))
   have HHL2 := vv (Nat.lt_of_lt_of_le HHL.out hF.size)
   clear hi hf hF
   go_wp2_with fail
   refine hK.out _ _ ⟨HC2.out, HXc.out _ HB2.out⟩ (fun hHeld => ?_)
   clear hK
   refine sch_one rfl (by rfl) (fun K hK => ?_)
   go_simp
   rw [HWy.out]
   refine (HNi.out _).mono ?_
   rintro e w3 ⟨g3, rfl, hg3, hi3, hb3⟩
   have HI3 := vv hi3
   have HX3 := vv (HI2.out.below hb3)
   have HB3 := vn HB2 hb3
   have HC3 := vv ((hb3.cell (p := ⟨w.heap.size, 0, none⟩) (by show w.heap.size < w2.heap.size; have := HHL2.out; omega)).trans HC2.out)
   have HHL3 := vv (Nat.lt_of_lt_of_le HHL2.out hb3.size)
   clear hg3 hi3 hb3
   go_wp2_with fail
   refine hK.out _ _ ⟨HC3.out, HXc.out _ HB3.out⟩ (fun hHeld => ?_)
   clear hK
   refine sch_one rfl (by rfl) (fun K hK => ?_)
   go_simp
   refine (HOr.out _ g3 HX3.out HI3.out).mono ?_
   rintro e w4 ⟨rfl, hi, hf⟩
   have hF := hf.fs HX3.out hi
   have HI4 := vv hi
   have HB4 := vv (hF.below HB3.out (by have := HB3.out.size; omega) (by intro p hp; simp at hp; rw [hp]; simp))
   have HC4 := vv (Fs.cell0 hF HC3.out (by have := HHL3.out; omega) (by intro p hp; simp at hp; rw [hp]; simp))
   have HHL4 := vv (Nat.lt_of_lt_of_le HHL3.out hF.size)
   clear hi hf hF
   go_wp2_with fail
   refine hK.out _ _ ⟨HC4.out, HXc.out _ HB4.out⟩ (fun hHeld => ?_)
   clear hK
   refine sch_end rfl ?_
   clear hHeld hS0
   go_wp2
   go_roundw
   case rel => exact ⟨_, j, rfl, by omega, by omega, by rw [HStep.out]; exact HI4.out, HC4.out, HHL4.out, HB4.out⟩
   case measure => simp [intOf]
end Go.Proofs.YtddaldghlinokaaGreatDoor.Rnd
namespace Go.Proofs.YtddaldghlinokaaGreatDoor.Rtp
open Go Go.RowKit R5
theorem long_no (g o : Nat) (u : Int) (w : World) (h : IntAt w g o u) (hb : bl u.natAbs <= 524288) :
  Calls Tryz.prog 249 #[.pointer (some ⟨g, o, none⟩)] w fun e w' => e = .returned (.bool false) /\ w = w' := by
 have HM := vv (A.BitLen g o u w h)
 obtain ⟨l, hl⟩ := yx (bl u.natAbs)
 rw [<- hl] at HM hb
 have d0 : decide ((524288 : Int) < (l : Int)) = false := decide_eq_false (by omega)
 have hli : (l : Int) <= 524288 := by omega
 clear hl hb h
 go_enter Tryz.func249, Tryz.ntmps249
 go_wp2_with fail
 refine HM.out.mono ?_
 rintro e w' ⟨rfl, rfl⟩
 go_wp2
 go_ret
 exact ⟨rfl, rfl⟩
abbrev lookV (neg : Bool) (n m : Nat) : Value := .agg #[.bool neg, .int .i64 (n : Int), .int .i64 (m : Int)]
theorem seen (neg : Bool) (A : Option Addr) (n c : Nat) (B' : Option Addr) (m d : Nat) (w : World) :
  Calls Tryz.prog 254 #[ratioV neg A n c B' m d] w fun e w' => e = .returned (lookV neg n m) /\ Below w.heap.size w w' := by
 go_enter Tryz.func254, Tryz.ntmps254
 go_wp2
 exact bodyPost_ret (v := lookV neg n m) (by simp [results, Tryz.results254, go_sem]) rfl ⟨rfl, ((Below.refl _ _).alloc (Nat.le_refl _) _).alloc (by simp) _⟩
structure RtCell (w : World) (g : Nat) : Prop where
 c0 : w.cell? ⟨g, 0, none⟩ = some (.bool false)
 c1 : w.cell? ⟨g, 1, none⟩ = some (.slice none 0 0)
 c2 : w.cell? ⟨g, 2, none⟩ = some (.slice none 0 0)
 fz : ∀ j, w.frozen? ⟨g, j, none⟩ = false
 lt : g < w.heap.size
theorem RtCell.made (w : World) (t : TypeId) : RtCell (w.alloc (.cells #[.bool false, .slice none 0 0, .slice none 0 0] t)) w.heap.size := by
 constructor <;> first | (simp only [World.cell?]; rw [heap_alloc_new]; rfl) | (intro j; simp only [World.frozen?]; rw [heap_alloc_new]; simp) | simp
theorem RtCell.below {w w' : World} {g : Nat} (h : RtCell w g) (hb : Below w.heap.size w w') : RtCell w' g :=
 ⟨(hb.cell (p := ⟨g, 0, none⟩) h.lt).trans h.c0, (hb.cell (p := ⟨g, 1, none⟩) h.lt).trans h.c1, (hb.cell (p := ⟨g, 2, none⟩) h.lt).trans h.c2, fun j => (hb.frozen (p := ⟨g, j, none⟩) h.lt).trans (h.fz j), Nat.lt_of_lt_of_le h.lt hb.size⟩
set_option maxRecDepth 100000 in
set_option maxHeartbeats 2000000 in
theorem told (g : Nat) (p : Int) (d : Nat) (w : World) (h : RatAt w g p d) (h1 : bl (lp p d).natAbs <= 524288) (h2 : bl (ld p d) <= 524288) :
  Calls Tryz.prog 160 #[.pointer (some ⟨g, 0, none⟩)] w fun e w' => ∃ X n Y m, e = .returned (.tuple #[ratioV (decide (p < 0)) X n n Y m m, .int .i64 0]) /\ Rd w' X n n (toL (lp p d).natAbs) /\ Rd w' Y m m (toL (ld p d)) /\ Below w.heap.size w w' := by
 obtain ⟨w0, hw0⟩ := yx (w.alloc (.cells #[.bool false, .slice none 0 0, .slice none 0 0] 114))
 have b0 : Below w.heap.size w w0 := by rw [hw0]; exact (Below.refl _ w).alloc (Nat.le_refl _) _
 have r0 : RtCell w0 w.heap.size := by rw [hw0]; exact RtCell.made _ _
 have HW0 := vv hw0
 have HB := vv b0
 have HRt := vv r0
 have HH := vv (h.below b0)
 have HNu := vv fun w' (h : RatAt w' g p d) => A.Num g p d w' h
 have HDe := vv fun w' (h : RatAt w' g p d) => A.Denom g p d w' h
 have HSi := vv fun w' (h : RatAt w' g p d) => A.RSign g p d w' h
 obtain ⟨P, hP⟩ := yx (lp p d)
 obtain ⟨D, hD⟩ := yx (ld p d)
 rw [<- hP] at HNu h1 ⊢
 rw [<- hD] at HDe h2 ⊢
 have HL1 := vv fun w' g (h : IntAt w' g 0 P) => long_no g 0 P w' h h1
 have HL2 := vv fun w' g (h : IntAt w' g 0 (D : Int)) => long_no g 0 (D : Int) w' h (by rw [Int.natAbs_natCast]; exact h2)
 have HM1 := vv fun w' g (h : IntAt w' g 0 P) => limbs g 0 P w' h (by omega)
 have HM2 := vv fun w' g (h : IntAt w' g 0 (D : Int)) => limbs g 0 (D : Int) w' h (by rw [Int.natAbs_natCast]; omega)
 simp only [Int.natAbs_natCast] at HM2
 obtain ⟨neg, hneg⟩ := yx (decide (p < 0))
 obtain ⟨sg, hsg⟩ := yx (p.sign)
 have tneg : decide (sg < 0) = neg := by
  rw [hneg, hsg]
  rcases Int.lt_trichotomy p 0 with h | h | h
  ·rw [Int.sign_eq_neg_one_of_neg h, decide_eq_true h]; rfl
  ·rw [h]; rfl
  ·rw [Int.sign_eq_one_of_pos h, decide_eq_false (p := p < 0) (by omega)]; rfl
 rw [<- hneg]
 rw [<- hsg] at HSi
 clear h hw0 b0 r0 hP hD h1 h2 hneg hsg
 go_enter Tryz.func160, Tryz.ntmps160
 go_wp2_with fail
 rw [<- HW0.out]
 refine (HNu.out _ HH.out).mono ?_
 rintro e w1 ⟨g1, rfl, hg1, hI1, hB1⟩
 have HI1 := vv hI1
 have HH := vv (HH.out.below hB1)
 have HRt := vv (HRt.out.below hB1)
 have HB := vn HB hB1
 clear hg1 hI1 hB1
 go_wp2_with fail
 refine (HL1.out _ g1 HI1.out).mono ?_
 rintro e w' ⟨rfl, rfl⟩
 go_wp2_with fail
 refine (HDe.out _ HH.out).mono ?_
 rintro e w2 ⟨g2, rfl, hg2, hI2, hB2⟩
 have HI2 := vv hI2
 have HH := vv (HH.out.below hB2)
 have HRt := vv (HRt.out.below hB2)
 have HB := vn HB hB2
 clear hg2 hI2 hB2
 go_wp2_with fail
 refine (HL2.out _ g2 HI2.out).mono ?_
 rintro e w' ⟨rfl, rfl⟩
 go_wp2_with fail
 refine (HSi.out _ HH.out).mono ?_
 rintro e w' ⟨rfl, rfl⟩
 go_wp2_with fail
 refine (HNu.out _ HH.out).mono ?_
 rintro e w3 ⟨g3, rfl, hg3, hI3, hB3⟩
 have HI3 := vv hI3
 have HH := vv (HH.out.below hB3)
 have HRt := vv (HRt.out.below hB3)
 have HB := vn HB hB3
 clear hg3 hI3 hB3
 go_wp2_with fail
 refine (HM1.out _ g3 HI3.out).mono ?_
 rintro e w4 ⟨X, n, rfl, hX, hfX, hB4⟩
 have HfX : Hid (Fr (w.heap.size + 1) X) := vv (hfX.mono (by have := HRt.out.lt; omega))
 have HX := vv hX
 have HH := vv (HH.out.below hB4)
 have HRt := vv (HRt.out.below hB4)
 have HB := vn HB hB4
 clear hX hfX hB4
 go_wp2_with fail
 refine (HDe.out _ HH.out).mono ?_
 rintro e w5 ⟨g5, rfl, hg5, hI5, hB5⟩
 have HI5 := vv hI5
 have HX := vv (HX.out.below hB5 rfl)
 have HRt := vv (HRt.out.below hB5)
 have HB := vn HB hB5
 clear hg5 hI5 hB5 HH
 go_wp2_with fail
 refine (HM2.out _ g5 HI5.out).mono ?_
 rintro e w6 ⟨Y, m, rfl, hY, hfY, hB6⟩
 have HfY : Hid (Fr (w.heap.size + 1) Y) := vv (hfY.mono (by have := HRt.out.lt; omega))
 have HY := vv hY
 have HX := vv (HX.out.below hB6 rfl)
 have HRt := vv (HRt.out.below hB6)
 have HB := vn HB hB6
 clear hY hfY hB6
 have c0 := HRt.out.c0
 have c1 := HRt.out.c1
 have c2 := HRt.out.c2
 have fz := HRt.out.fz
 have lt := HRt.out.lt
 obtain ⟨w9, hw9⟩ := yx (((w6.setCell ⟨w.heap.size, 0, none⟩ (.bool neg)).setCell ⟨w.heap.size, 1, none⟩ (.slice X n n)).setCell ⟨w.heap.size, 2, none⟩ (.slice Y m m))
 have nX : ∀ a, X = some a -> a.block ≠ w.heap.size := fun a e => by have := (HfX.out a e).1; omega
 have nY : ∀ a, Y = some a -> a.block ≠ w.heap.size := fun a e => by have := (HfY.out a e).1; omega
 have HX9 : Hid (Rd w9 X n n (toL P.natAbs)) := vv (by rw [hw9]; exact ((HX.out.other _ _ _ nX).other _ _ _ nX).other _ _ _ nX)
 have HY9 : Hid (Rd w9 Y m m (toL D)) := vv (by rw [hw9]; exact ((HY.out.other _ _ _ nY).other _ _ _ nY).other _ _ _ nY)
 have HB9 : Hid (Below w.heap.size w w9) := vv (by rw [hw9]; exact ((HB.out.setCell (Nat.le_refl _) _).setCell (Nat.le_refl _) _).setCell (Nat.le_refl _) _)
 have ne : ∀ i j : Nat, i ≠ j -> (⟨w.heap.size, i, none⟩ : Addr) ≠ ⟨w.heap.size, j, none⟩ := fun i j h e => by injection e with _ e; exact h e
 have k0 : w9.cell? ⟨w.heap.size, 0, none⟩ = some (.bool neg) := by rw [hw9, cell_ne (ne 2 0 (by decide)), cell_ne (ne 1 0 (by decide))]; exact cell_eq c0
 have k1 : w9.cell? ⟨w.heap.size, 1, none⟩ = some (.slice X n n) := by rw [hw9, cell_ne (ne 2 1 (by decide))]; exact cell_eq ((cell_ne (ne 0 1 (by decide))).trans c1)
 have k2 : w9.cell? ⟨w.heap.size, 2, none⟩ = some (.slice Y m m) := by rw [hw9]; exact cell_eq ((cell_ne (ne 1 2 (by decide))).trans ((cell_ne (ne 0 2 (by decide))).trans c2))
 have HW9 := vv hw9
 have K := vv (And.intro k0 (And.intro k1 k2))
 clear hw9 nX nY ne k0 k1 k2
 go_wp2
 rw [<- HW9.out]
 obtain ⟨k0, k1, k2⟩ := K.out
 exact bodyPost_ret (v := .tuple #[ratioV neg X n n Y m m, .int .i64 0]) (by simp [results, Tryz.results160, go_sem, k0, k1, k2]) rfl ⟨X, n, Y, m, rfl, HX9.out, HY9.out, HB9.out⟩
end Go.Proofs.YtddaldghlinokaaGreatDoor.Rtp
