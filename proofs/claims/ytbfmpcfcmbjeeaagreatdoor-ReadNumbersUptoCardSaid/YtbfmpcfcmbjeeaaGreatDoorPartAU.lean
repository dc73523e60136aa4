/- Lemmas for ReadNumbers. -/
import Derived.Test.YtbfmpcfcmbjeeaaGreatDoorPartAT
set_option linter.all false
namespace Go.Proofs.YtbfmpcfcmbjeeaaGreatDoor.R5
open Go Go.RowKit
abbrev ratZ : Obj := .cells #[.bool false, .slice none 0 0, .slice none 0 0] 80
abbrev intZ : Obj := .cells #[.bool false, .slice none 0 0] 78
theorem one_rat (w : World) : RatAt (w.alloc ratZ) w.heap.size 0 1 /\ Below w.heap.size w (w.alloc ratZ) := ⟨RatAt.zero w _, (Below.refl _ w).alloc (Nat.le_refl _) _⟩
theorem one_int (w : World) : IntAt (w.alloc intZ) w.heap.size 0 0 /\ Below w.heap.size w (w.alloc intZ) := ⟨IntAt.zero w _, (Below.refl _ w).alloc (Nat.le_refl _) _⟩
theorem two_rats (w : World) : RatAt ((w.alloc ratZ).alloc ratZ) w.heap.size 0 1 /\ RatAt ((w.alloc ratZ).alloc ratZ) (w.heap.size + 1) 0 1 /\ Below w.heap.size w ((w.alloc ratZ).alloc ratZ) := by
 obtain ⟨h1, h2⟩ := one_rat w
 obtain ⟨k1, k2⟩ := one_rat (w.alloc ratZ)
 have e : (w.alloc ratZ).heap.size = w.heap.size + 1 := by simp
 rw [e] at k1
 exact ⟨h1.below k2, k1, h2.trans (k2.mono h2.size)⟩
def moreN (neg : Bool) (mode N D : Nat) : Bool := more neg mode (decide (N / D % 2 = 1)) (cmpI (2 * (N % D)) D)
set_option maxHeartbeats 1000000 in
set_option maxRecDepth 100000 in
theorem whole_ (g N D : Nat) (neg : Bool) (mode : Nat) (w : World) (hx : RatAt w g (N : Int) D) (hN : ∀ w', Below w.heap.size w w' -> Calls Tryz.prog 117 #[.pointer (some ⟨g, 0, none⟩)] w' (NewPost (N : Int) w'))
  (hD : ∀ w', Below w.heap.size w w' -> Calls Tryz.prog 118 #[.pointer (some ⟨g, 0, none⟩)] w' (NewPost (D : Int) w')) (sa : Sm N) (sb : Sm D) (hst : Std w) (hm : mode <= 4) :
  Calls Tryz.prog 131 #[.pointer (some ⟨g, 0, none⟩), .bool neg, .int .u8 (mode : Int)] w (NewPost ((rnd neg mode N D : Nat) : Int) w) := by
 have hd := hx.pos
 have HX := vv hx
 have HNum := vv hN
 have HDen := vv hD
 have HST := vv hst
 have HSA := vv sa
 have HSB := vv sb
 have hlt := hx.lt
 have hm2 := Nat.mod_lt N hd
 have hle := Nat.div_le_self N D
 have hda := Nat.div_add_mod N D
 have HSQ : Hid (Sm (N / D)) := vv (sa.mono hle)
 have HSR : Hid (Sm (N % D)) := vv (sb.mono (by omega))
 have HDV : Hid ((N : Int) / (D : Int) = ((N / D : Nat) : Int)) := vv (by rw [Int.natCast_ediv])
 have HD0 := vv hd
 have HSUB : Hid ((N : Int) * ((1 : Nat) : Int) - ((N / D : Nat) : Int) * (D : Nat) = ((N % D : Nat) : Int) /\ D * 1 = D) := vv ⟨by
  have : ((D * (N / D) + N % D : Nat) : Int) = N := by rw [hda]
  rw [Int.natCast_add, Int.natCast_mul, Int.mul_comm] at this
  rw [Int.natCast_one, Int.mul_one, <- this]
  omega, Nat.mul_one _⟩
 have H1 : Hid (N % D = 0 -> rnd neg mode N D = N / D) := vv fun h => by unfold rnd; rw [if_pos h]
 have H2 : Hid (N % D ≠ 0 -> moreN neg mode N D = true -> rnd neg mode N D = N / D + 1) := vv fun h k => by unfold rnd; rw [if_neg h]; exact if_pos k
 have H3 : Hid (N % D ≠ 0 -> moreN neg mode N D = false -> rnd neg mode N D = N / D) := vv fun h k => by unfold rnd; rw [if_neg h]; exact if_neg (by unfold moreN at k; rw [k]; decide)
 have HM := vv hm
 clear hx hN hD hst sa sb hd hm2 hle hda hm
 go_enter Tryz.func131, Tryz.ntmps131
 go_wp2_with fail
 obtain ⟨z1, z2⟩ := one_int w
 obtain ⟨w0, hw0⟩ := yx (w.alloc intZ)
 rw [<- hw0] at z1 z2 ⊢
 have HZ0 := vv z1
 have HB0 := vv z2
 have hsz0 := z2.size
 clear z1 z2 hw0
 refine (HNum.out _ HB0.out).mono ?_
 rintro e w1 ⟨g1, rfl, hg1, hI1, hB1⟩
 have HI1 := vv hI1
 have HZ1 := vv (HZ0.out.below hB1)
 have HB1 := vn HB0 hB1
 clear hI1 hB1
 go_wp2_with fail
 refine (HDen.out _ HB1.out).mono ?_
 rintro e w2 ⟨g2, rfl, hg2, hI2, hB2⟩
 have HI2 := vv hI2
 have HI1 := vv (HI1.out.below hB2)
 have HZ2 := vv (HZ1.out.below hB2)
 have HB2 := vn HB1 hB2
 clear hI2 hB2
 go_wp2_with fail
 refine (B.Div w.heap.size 0 g1 0 g2 0 _ _ _ _ HZ2.out HI1.out HI2.out (by have := HD0.out; omega) HSA.out.sz).mono ?_
 rintro e w3 hP
 have hP : SetF w.heap.size 0 ((N : Int) / (D : Int)) w2 e w3 := hP
 have HB3 := vv (hP.below HB2.out HB2.out.size (Nat.le_refl _))
 obtain ⟨rfl, hI3, -⟩ := hP
 rw [HDV.out] at hI3
 have HI3 := vv hI3
 have hsz3 := HB3.out.size
 have hlt3 := hI3.lt
 clear hI3
 go_wp2_with fail
 obtain ⟨z1, z2, z3⟩ := two_rats w3
 obtain ⟨w4, hw4⟩ := yx ((w3.alloc ratZ).alloc ratZ)
 rw [<- hw4] at z1 z2 z3 ⊢
 have HZ4a := vv z1
 have HZ4b := vv z2
 have HI4 := vv (HI3.out.below z3)
 have HB4 := vn HB3 z3
 clear z1 z2 z3 hw4
 refine (B.SetInt (w3.heap.size + 1) w.heap.size _ _ HZ4b.out.sh HI4.out).mono ?_
 rintro e w5 hP
 have HI5 := vv (HI4.out.fs1 hP.2.2 (by omega))
 have HZ5a := vv (HZ4a.out.fs1 hP.2.2 (by omega))
 have HB5 := vv (hP.below HB4.out HB4.out.size (by omega))
 obtain ⟨rfl, hR5, -⟩ := hP
 have HR5 := vv hR5
 clear hR5
 go_wp2_with fail
 refine (B.SubR w3.heap.size g (w3.heap.size + 1) (N : Int) ((N / D : Nat) : Int) D 1 _ HZ5a.out.sh (HX.out.below HB5.out) HR5.out (HST.out.fs (Fs.of_nil HB5.out)) (by exact HSA.out) HSB.out (by exact HSQ.out) (by unfold Sm; decide)).mono ?_
 rintro e w6 hP
 rw [HSUB.out.1, HSUB.out.2] at hP
 have HI6 := vv (HI5.out.fs1 hP.2.2 (by omega))
 have HB6 := vv (hP.below HB5.out HB5.out.size (by omega))
 obtain ⟨rfl, hR6, -⟩ := hP
 have HR6 := vv hR6
 clear hR6
 go_wp2_with fail
 refine (B.RSign w3.heap.size _ _ _ HR6.out).mono ?_
 rintro e w' ⟨rfl, rfl⟩
 by_cases h0 : N % D = 0
 ·have HRN := vv (H1.out h0)
  have hs : ((N % D : Nat) : Int).sign = 0 := by rw [h0]; rfl
  rw [hs]
  clear h0 hs
  go_wp2
  go_ret
  exact ⟨_, rfl, Nat.le_refl _, by rw [HRN.out]; exact HI6.out, HB6.out⟩
 have hs : ((N % D : Nat) : Int).sign = 1 := Int.sign_eq_one_of_pos (by omega)
 rw [hs]
 have H0 := vv h0
 clear h0 hs
 go_wp2_with fail
 refine (B.NewRat 1 2 _ (by omega) (by omega) (by omega) (by omega) (HST.out.fs (Fs.of_nil HB6.out))).mono ?_
 rintro e w7 ⟨g7, rfl, hg7, hR7, hB7⟩
 have HR7 := vv hR7
 have HR6 := vv (HR6.out.below hB7)
 have HI7 := vv (HI6.out.below hB7)
 have HB7 := vn HB6 hB7
 clear hR7 hB7
 go_wp2_with fail
 refine (B.CmpR w3.heap.size g7 (N % D) 1 D 2 _ HR6.out HR7.out HSR.out.sz HSB.out.sz (by unfold Sz; decide) (by unfold Sz; decide)).mono ?_
 rintro e w8 ⟨rfl, hB8⟩
 have HI8 := vv (HI7.out.below hB8)
 have HB8 := vn HB7 hB8
 clear hB8
 have hc : cmpI (N % D * 2) (1 * D) = cmpI (2 * (N % D)) D := by rw [Nat.mul_comm, Nat.one_mul]
 rw [hc]
 clear hc
 have hm := HM.out
 have HMore : Hid (moreN neg mode N D = more neg mode (decide (N / D % 2 = 1)) (cmpI (2 * (N % D)) D)) := vv rfl
 have hcb := cmpI_bd (2 * (N % D)) D
 have HO := vv (Nat.mod_two_eq_zero_or_one (N / D))
 have HBit := vv (B.Bit0 w.heap.size 0 _ _ HI8.out)
 have HADD : Hid (∀ w9 g9, Below w8.heap.size w8 w9 -> IntAt w9 g9 0 1 -> Calls Tryz.prog 171 #[.pointer (some ⟨w.heap.size, 0, none⟩), .pointer (some ⟨w.heap.size, 0, none⟩), .pointer (some ⟨g9, 0, none⟩)] w9 fun e w' => e = .returned (.pointer (some ⟨w.heap.size, 0, none⟩)) /\ IntAt w' w.heap.size 0 ((N / D + 1 : Nat) : Int) /\ Below w.heap.size w w') := by
  refine vv fun w9 g9 hb h9 => ?_
  refine (B.Add w.heap.size 0 w.heap.size 0 g9 0 _ _ _ _ (HI8.out.below hb) (HI8.out.below hb) h9 (by exact HSQ.out.sz) (by unfold Sz; decide)).mono ?_
  rintro e w' hP
  have hP := hP.f (HI8.out.below hb)
  have hbb := HB8.out.trans (hb.mono HB8.out.size)
  exact ⟨hP.1, hP.2.1, hP.below hbb hbb.size (Nat.le_refl _)⟩
 rw [Int.natAbs_natCast] at HBit
 generalize cmpI (2 * (N % D)) D = c at *
 rcases (by omega : mode = 0 /\ c = 1 \/ mode = 0 /\ c = -1 \/ mode = 0 /\ c = 0 \/ mode = 1 /\ 0 <= c \/ mode = 1 /\ c < 0 \/ mode = 2 \/ mode = 3 \/ mode = 4) with ⟨hmode, hc⟩ | ⟨hmode, hc⟩ | ⟨hmode, hc⟩ | ⟨hmode, hc⟩ | ⟨hmode, hc⟩ | hmode | hmode | hmode
 ·
  have t0 : ((mode : Int) == 0) = true := by rw [hmode]; rfl
  have t1 : ((mode : Int) == 1) = false := by rw [hmode]; rfl
  have t2 : ((mode : Int) == 2) = false := by rw [hmode]; rfl
  have t3 : ((mode : Int) == 3) = false := by rw [hmode]; rfl
  have t4 : ((mode : Int) == 4) = false := by rw [hmode]; rfl
  have HMo : Hid (moreN neg mode N D = true) := vv (by rw [HMore.out, hmode, hc]; rfl)
  have c0 : decide (0 < c) = true := by rw [hc]; rfl
  clear hc
  clear hmode hm hcb
  have HRN := vv (H2.out H0.out HMo.out)
  go_wp2_with fail
  refine (B.NewInt 1 _ (by omega) (by omega)).mono ?_
  rintro e w9 ⟨g9, rfl, hg9, hI9, hB9⟩
  have HI9 := vv hI9
  have HB9 := vv hB9
  clear hI9 hB9
  go_wp2_with fail
  refine (HADD.out _ _ HB9.out HI9.out).mono ?_
  rintro e w10 ⟨rfl, hI, hB⟩
  have HI := vv hI
  have HBf := vv hB
  clear hI hB
  go_wp2
  go_ret
  exact ⟨_, rfl, Nat.le_refl _, by rw [HRN.out]; exact HI.out, HBf.out⟩
 ·
  have t0 : ((mode : Int) == 0) = true := by rw [hmode]; rfl
  have t1 : ((mode : Int) == 1) = false := by rw [hmode]; rfl
  have t2 : ((mode : Int) == 2) = false := by rw [hmode]; rfl
  have t3 : ((mode : Int) == 3) = false := by rw [hmode]; rfl
  have t4 : ((mode : Int) == 4) = false := by rw [hmode]; rfl
  have HMo : Hid (moreN neg mode N D = false) := vv (by rw [HMore.out, hmode, hc]; rfl)
  have c0 : decide (0 < c) = false := by rw [hc]; rfl
  have c1 : (c == 0) = false := by rw [hc]; rfl
  clear hc
  clear hmode hm hcb
  have HRN := vv (H3.out H0.out HMo.out)
  go_wp2
  go_ret
  exact ⟨_, rfl, Nat.le_refl _, by rw [HRN.out]; exact HI8.out, HB8.out⟩
 ·rcases HO.out with ho | ho
  ·
   have t0 : ((mode : Int) == 0) = true := by rw [hmode]; rfl
   have t1 : ((mode : Int) == 1) = false := by rw [hmode]; rfl
   have t2 : ((mode : Int) == 2) = false := by rw [hmode]; rfl
   have t3 : ((mode : Int) == 3) = false := by rw [hmode]; rfl
   have t4 : ((mode : Int) == 4) = false := by rw [hmode]; rfl
   have HMo : Hid (moreN neg mode N D = false) := vv (by rw [HMore.out, hmode, hc, ho]; rfl)
   have c0 : decide (0 < c) = false := by rw [hc]; rfl
   have c1 : (c == 0) = true := by rw [hc]; rfl
   have HOd := vv ho
   clear hc ho
   clear hmode hm hcb
   have HRN := vv (H3.out H0.out HMo.out)
   go_wp2_with fail
   refine HBit.out.mono ?_
   rintro e w' ⟨rfl, rfl⟩
   rw [HOd.out]
   go_wp2_with fail
   go_wp2
   go_ret
   exact ⟨_, rfl, Nat.le_refl _, by rw [HRN.out]; exact HI8.out, HB8.out⟩
  ·
   have t0 : ((mode : Int) == 0) = true := by rw [hmode]; rfl
   have t1 : ((mode : Int) == 1) = false := by rw [hmode]; rfl
   have t2 : ((mode : Int) == 2) = false := by rw [hmode]; rfl
   have t3 : ((mode : Int) == 3) = false := by rw [hmode]; rfl
   have t4 : ((mode : Int) == 4) = false := by rw [hmode]; rfl
   have HMo : Hid (moreN neg mode N D = true) := vv (by rw [HMore.out, hmode, hc, ho]; rfl)
   have c0 : decide (0 < c) = false := by rw [hc]; rfl
   have c1 : (c == 0) = true := by rw [hc]; rfl
   have HOd := vv ho
   clear hc ho
   clear hmode hm hcb
   have HRN := vv (H2.out H0.out HMo.out)
   go_wp2_with fail
   refine HBit.out.mono ?_
   rintro e w' ⟨rfl, rfl⟩
   rw [HOd.out]
   go_wp2_with fail
   refine (B.NewInt 1 _ (by omega) (by omega)).mono ?_
   rintro e w9 ⟨g9, rfl, hg9, hI9, hB9⟩
   have HI9 := vv hI9
   have HB9 := vv hB9
   clear hI9 hB9
   go_wp2_with fail
   refine (HADD.out _ _ HB9.out HI9.out).mono ?_
   rintro e w10 ⟨rfl, hI, hB⟩
   have HI := vv hI
   have HBf := vv hB
   clear hI hB
   go_wp2
   go_ret
   exact ⟨_, rfl, Nat.le_refl _, by rw [HRN.out]; exact HI.out, HBf.out⟩
 ·
  have t0 : ((mode : Int) == 0) = false := by rw [hmode]; rfl
  have t1 : ((mode : Int) == 1) = true := by rw [hmode]; rfl
  have t2 : ((mode : Int) == 2) = false := by rw [hmode]; rfl
  have t3 : ((mode : Int) == 3) = false := by rw [hmode]; rfl
  have t4 : ((mode : Int) == 4) = false := by rw [hmode]; rfl
  have c0 : decide (0 <= c) = true := decide_eq_true hc
  have HMo : Hid (moreN neg mode N D = true) := vv (by rw [HMore.out, hmode]; exact c0)
  clear hc
  clear hmode hm hcb
  have HRN := vv (H2.out H0.out HMo.out)
  go_wp2_with fail
  refine (B.NewInt 1 _ (by omega) (by omega)).mono ?_
  rintro e w9 ⟨g9, rfl, hg9, hI9, hB9⟩
  have HI9 := vv hI9
  have HB9 := vv hB9
  clear hI9 hB9
  go_wp2_with fail
  refine (HADD.out _ _ HB9.out HI9.out).mono ?_
  rintro e w10 ⟨rfl, hI, hB⟩
  have HI := vv hI
  have HBf := vv hB
  clear hI hB
  go_wp2
  go_ret
  exact ⟨_, rfl, Nat.le_refl _, by rw [HRN.out]; exact HI.out, HBf.out⟩
 ·
  have t0 : ((mode : Int) == 0) = false := by rw [hmode]; rfl
  have t1 : ((mode : Int) == 1) = true := by rw [hmode]; rfl
  have t2 : ((mode : Int) == 2) = false := by rw [hmode]; rfl
  have t3 : ((mode : Int) == 3) = false := by rw [hmode]; rfl
  have t4 : ((mode : Int) == 4) = false := by rw [hmode]; rfl
  have c0 : decide (0 <= c) = false := decide_eq_false (by omega)
  have HMo : Hid (moreN neg mode N D = false) := vv (by rw [HMore.out, hmode]; exact c0)
  clear hc
  clear hmode hm hcb
  have HRN := vv (H3.out H0.out HMo.out)
  go_wp2
  go_ret
  exact ⟨_, rfl, Nat.le_refl _, by rw [HRN.out]; exact HI8.out, HB8.out⟩
 ·
  have t0 : ((mode : Int) == 0) = false := by rw [hmode]; rfl
  have t1 : ((mode : Int) == 1) = false := by rw [hmode]; rfl
  have t2 : ((mode : Int) == 2) = true := by rw [hmode]; rfl
  have t3 : ((mode : Int) == 3) = false := by rw [hmode]; rfl
  have t4 : ((mode : Int) == 4) = false := by rw [hmode]; rfl
  have HMo : Hid (moreN neg mode N D = false) := vv (by rw [HMore.out, hmode]; rfl)
  clear hmode hm hcb
  have HRN := vv (H3.out H0.out HMo.out)
  go_wp2
  go_ret
  exact ⟨_, rfl, Nat.le_refl _, by rw [HRN.out]; exact HI8.out, HB8.out⟩
 ·cases neg
  ·
   have t0 : ((mode : Int) == 0) = false := by rw [hmode]; rfl
   have t1 : ((mode : Int) == 1) = false := by rw [hmode]; rfl
   have t2 : ((mode : Int) == 2) = false := by rw [hmode]; rfl
   have t3 : ((mode : Int) == 3) = true := by rw [hmode]; rfl
   have t4 : ((mode : Int) == 4) = false := by rw [hmode]; rfl
   have HMo : Hid (moreN _ mode N D = true) := vv (by rw [HMore.out, hmode]; rfl)
   clear hmode hm hcb
   have HRN := vv (H2.out H0.out HMo.out)
   go_wp2_with fail
   refine (B.NewInt 1 _ (by omega) (by omega)).mono ?_
   rintro e w9 ⟨g9, rfl, hg9, hI9, hB9⟩
   have HI9 := vv hI9
   have HB9 := vv hB9
   clear hI9 hB9
   go_wp2_with fail
   refine (HADD.out _ _ HB9.out HI9.out).mono ?_
   rintro e w10 ⟨rfl, hI, hB⟩
   have HI := vv hI
   have HBf := vv hB
   clear hI hB
   go_wp2
   go_ret
   exact ⟨_, rfl, Nat.le_refl _, by rw [HRN.out]; exact HI.out, HBf.out⟩
  ·
   have t0 : ((mode : Int) == 0) = false := by rw [hmode]; rfl
   have t1 : ((mode : Int) == 1) = false := by rw [hmode]; rfl
   have t2 : ((mode : Int) == 2) = false := by rw [hmode]; rfl
   have t3 : ((mode : Int) == 3) = true := by rw [hmode]; rfl
   have t4 : ((mode : Int) == 4) = false := by rw [hmode]; rfl
   have HMo : Hid (moreN _ mode N D = false) := vv (by rw [HMore.out, hmode]; rfl)
   clear hmode hm hcb
   have HRN := vv (H3.out H0.out HMo.out)
   go_wp2
   go_ret
   exact ⟨_, rfl, Nat.le_refl _, by rw [HRN.out]; exact HI8.out, HB8.out⟩
 ·cases neg
  ·
   have t0 : ((mode : Int) == 0) = false := by rw [hmode]; rfl
   have t1 : ((mode : Int) == 1) = false := by rw [hmode]; rfl
   have t2 : ((mode : Int) == 2) = false := by rw [hmode]; rfl
   have t3 : ((mode : Int) == 3) = false := by rw [hmode]; rfl
   have t4 : ((mode : Int) == 4) = true := by rw [hmode]; rfl
   have HMo : Hid (moreN _ mode N D = false) := vv (by rw [HMore.out, hmode]; rfl)
   clear hmode hm hcb
   have HRN := vv (H3.out H0.out HMo.out)
   go_wp2
   go_ret
   exact ⟨_, rfl, Nat.le_refl _, by rw [HRN.out]; exact HI8.out, HB8.out⟩
  ·
   have t0 : ((mode : Int) == 0) = false := by rw [hmode]; rfl
   have t1 : ((mode : Int) == 1) = false := by rw [hmode]; rfl
   have t2 : ((mode : Int) == 2) = false := by rw [hmode]; rfl
   have t3 : ((mode : Int) == 3) = false := by rw [hmode]; rfl
   have t4 : ((mode : Int) == 4) = true := by rw [hmode]; rfl
   have HMo : Hid (moreN _ mode N D = true) := vv (by rw [HMore.out, hmode]; rfl)
   clear hmode hm hcb
   have HRN := vv (H2.out H0.out HMo.out)
   go_wp2_with fail
   refine (B.NewInt 1 _ (by omega) (by omega)).mono ?_
   rintro e w9 ⟨g9, rfl, hg9, hI9, hB9⟩
   have HI9 := vv hI9
   have HB9 := vv hB9
   clear hI9 hB9
   go_wp2_with fail
   refine (HADD.out _ _ HB9.out HI9.out).mono ?_
   rintro e w10 ⟨rfl, hI, hB⟩
   have HI := vv hI
   have HBf := vv hB
   clear hI hB
   go_wp2
   go_ret
   exact ⟨_, rfl, Nat.le_refl _, by rw [HRN.out]; exact HI.out, HBf.out⟩
theorem whole (g a b : Nat) (neg : Bool) (mode : Nat) (w : World) (hx : RatAt w g (a : Int) b) (sa : Sm a) (sb : Sm b) (hst : Std w) (hm : mode <= 4) :
  Calls Tryz.prog 131 #[.pointer (some ⟨g, 0, none⟩), .bool neg, .int .u8 (mode : Int)] w (NewPost ((rnd neg mode a b : Nat) : Int) w) := by
 have hb := hx.pos
 rw [rnd_cross hb (ld_pos (p := (a : Int)) hb) (kept_cross hb)]
 exact whole_ g _ _ neg mode w (RatAt.kept hx) (fun w' hw => NumN g a b w' (hx.below hw)) (fun w' hw => B.Denom g _ _ w' (hx.below hw)) (sa.mono (lp_le _ _)) (sb.mono (ld_le _ _)) hst hm
set_option maxRecDepth 100000 in
theorem unit (g a b : Nat) (q : Int) (neg : Bool) (mode : Nat) (w : World) (hx : RatAt w g (a : Int) b) (hq : -2147483648 <= q) (hq' : q <= 2147483648) (sa : bl a <= 1073741824) (sb : bl b <= 1073741824) (hst : Std w) (hm : mode <= 4) :
  Calls Tryz.prog 91 #[.pointer (some ⟨g, 0, none⟩), .int .i64 q, .bool neg, .int .u8 (mode : Int)] w (NewRat' ((rnd neg mode (a * p2 (-q)) (b * p2 q) * p2 q : Nat) : Int) (p2 (-q)) w) := by
 have HX := vv hx
 have HST := vv hst
 have hlt := hx.lt
 have hP1 : bl (p2 q) <= 2147483649 := by unfold p2; rw [bl_pow]; omega
 have hP2 : bl (p2 (-q)) <= 2147483649 := by unfold p2; rw [bl_pow]; omega
 have hA := bl_mul_le a (p2 (-q))
 have hB := bl_mul_le b (p2 q)
 have hrd : bl (rnd neg mode (a * p2 (-q)) (b * p2 q)) <= 3758096384 := by
  have h1 := rnd_le neg mode (a * p2 (-q)) (b * p2 q)
  have h2 := Nat.div_le_self (a * p2 (-q)) (b * p2 q)
  have h3 := bl_mono (Nat.le_trans h1 (Nat.add_le_add_right h2 1))
  have h4 := bl_add_le (a * p2 (-q)) 1
  have h5 : bl 1 = 1 := rfl
  omega
 have HSZ : Hid (Sz a /\ Sz b /\ Sz (p2 q) /\ Sz (p2 (-q)) /\ Sm (a * p2 (-q)) /\ Sm (b * p2 q) /\ Sz (rnd neg mode (a * p2 (-q)) (b * p2 q))) := vv (by unfold Sz Sm; exact ⟨by omega, by omega, by omega, by omega, by omega, by omega, by omega⟩)
 have HP1 := vv fun w => power (-q) w (by omega) (by omega)
 have HP2 := vv fun w => power q w (by omega) (by omega)
 have HE : Hid (- -q = q) := vv (by omega)
 have HC : Hid (((a : Int) * ((p2 (-q) : Nat) : Int)) = ((a * p2 (-q) : Nat) : Int) /\ (((rnd neg mode (a * p2 (-q)) (b * p2 q) : Nat) : Int) * ((p2 q : Nat) : Int)) = ((rnd neg mode (a * p2 (-q)) (b * p2 q) * p2 q : Nat) : Int) /\ 1 * p2 (-q) = p2 (-q)) := vv ⟨by rw [Int.natCast_mul], by rw [Int.natCast_mul], Nat.one_mul _⟩
 clear hx hst sa sb hP1 hP2 hA hB hrd
 go_enter Tryz.func91, Tryz.ntmps91
 go_wp2_with fail
 obtain ⟨z1, z2⟩ := one_rat w
 obtain ⟨w0, hw0⟩ := yx (w.alloc ratZ)
 rw [<- hw0] at z1 z2 ⊢
 have HZ0 := vv z1
 have HB0 := vv z2
 clear z1 z2 hw0
 refine (HP1.out _).mono ?_
 rintro e w1 ⟨g1, rfl, hg1, hR1, hB1⟩
 have HR1 := vv hR1
 have HZ1 := vv (HZ0.out.below hB1)
 have HB1 := vn HB0 hB1
 clear hR1 hB1
 go_wp2_with fail
 refine (B.MulR w.heap.size g g1 _ _ _ _ _ HZ1.out.sh (HX.out.below HB1.out) HR1.out (HST.out.fs (Fs.of_nil HB1.out)) (by exact HSZ.out.1) HSZ.out.2.1 (by exact HSZ.out.2.2.2.1) (by rw [HE.out]; exact HSZ.out.2.2.1)).mono ?_
 rintro e w2 hP
 rw [HE.out, HC.out.1] at hP
 have HB2 := vv (hP.below HB1.out HB1.out.size (Nat.le_refl _))
 obtain ⟨rfl, hR2, -⟩ := hP
 have HR2 := vv hR2
 clear hR2
 go_wp2_with fail
 refine (whole w.heap.size (a * p2 (-q)) (b * p2 q) neg mode _ HR2.out HSZ.out.2.2.2.2.1 HSZ.out.2.2.2.2.2.1 (HST.out.fs (Fs.of_nil HB2.out)) hm).mono ?_
 rintro e w3 ⟨g3, rfl, hg3, hI3, hB3⟩
 have HI3 := vv hI3
 have HB3 := vn HB2 hB3
 have hlt3 := hI3.lt
 have hsz3 := HB3.out.size
 clear hI3 hB3
 go_wp2_with fail
 obtain ⟨z1, z2, z3⟩ := two_rats w3
 obtain ⟨w4, hw4⟩ := yx ((w3.alloc ratZ).alloc ratZ)
 rw [<- hw4] at z1 z2 z3 ⊢
 have HZ4a := vv z1
 have HZ4b := vv z2
 have HI4 := vv (HI3.out.below z3)
 have HB4 := vn HB3 z3
 clear z1 z2 z3 hw4
 refine (B.SetInt (w3.heap.size + 1) g3 _ _ HZ4b.out.sh HI4.out).mono ?_
 rintro e w5 hP
 have HZ5a := vv (HZ4a.out.fs1 hP.2.2 (by omega))
 have HB5 := vv (hP.below HB4.out HB4.out.size (by omega))
 obtain ⟨rfl, hR5, -⟩ := hP
 have HR5 := vv hR5
 clear hR5
 go_wp2_with fail
 refine (HP2.out _).mono ?_
 rintro e w6 ⟨g6, rfl, hg6, hR6, hB6⟩
 have HR6 := vv hR6
 have HR5 := vv (HR5.out.below hB6)
 have HZ6a := vv (HZ5a.out.below hB6)
 have HB6 := vn HB5 hB6
 clear hR6 hB6
 go_wp2_with fail
 refine (B.MulR w3.heap.size (w3.heap.size + 1) g6 _ _ _ _ _ HZ6a.out.sh HR5.out HR6.out (HST.out.fs (Fs.of_nil HB6.out)) (by exact HSZ.out.2.2.2.2.2.2) (by unfold Sz; decide) (by exact HSZ.out.2.2.1) HSZ.out.2.2.2.1).mono ?_
 rintro e w7 hP
 rw [HC.out.2.1, HC.out.2.2] at hP
 have HB7 := vv (hP.below HB6.out HB6.out.size (by omega))
 obtain ⟨rfl, hR7, -⟩ := hP
 have HR7 := vv hR7
 clear hR7
 go_wp2
 go_ret
 exact ⟨_, rfl, by omega, HR7.out, HB7.out⟩
theorem Least (E : Nat) (F : Int) (w : World) (h1 : 2 <= E) (h2 : E <= 11) :
  Calls Tryz.prog 94 #[fm E F] w (NewRat' ((p2 (1 - bias E) : Nat) : Int) (p2 (bias E - 1)) w) := by
 have hb1 := bias_pos h1
 have hb2 := bias_le h2
 have HP := vv fun w => power (1 - bias E) w (by omega) (by omega)
 have HE : Hid (-(1 - bias E) = bias E - 1) := vv (by omega)
 have HB := vv fun w => Bias E F w h1 h2
 clear h1 h2
 go_enter Tryz.func94, Tryz.ntmps94
 go_wp2_with fail
 refine (HB.out _).mono ?_
 rintro e w1 ⟨rfl, hB1⟩
 have HB1 : Hid (Below w.heap.size w w1) := vv (((Below.refl _ w).alloc (Nat.le_refl _) _).trans (hB1.mono (by simp)))
 clear hB1
 go_wp2_with fail
 refine (HP.out _).mono ?_
 rintro e w2 ⟨g, rfl, hg, hR, hB2⟩
 have hs := HB1.out.size
 have HR := vv hR
 have HB2 := vn HB1 hB2
 rw [HE.out] at HR
 clear hR hB2
 go_wp2
 go_ret
 exact ⟨_, rfl, by omega, HR.out, HB2.out⟩
theorem beyond (E F : Nat) (neg : Bool) (mode : Nat) (w : World) (h1 : 2 <= E) (h2 : E <= 11) (h3 : 1 <= F) (h4 : F <= 52) (hm : mode <= 4) :
  Calls Tryz.prog 96 #[fm E F, .bool neg, .int .u8 (mode : Int)] w fun e w' => e = .returned (.int .u64 ((if inner neg mode then inf_ E F - 1 else inf_ E F : Nat) : Int)) /\ Below w.heap.size w w' := by
 have HV : Hid (IntKind.u64.wrap (IntKind.u64.wrap (2 ^ (E + F)) - IntKind.u64.wrap (2 ^ F)) = ((inf_ E F : Nat) : Int) /\ IntKind.u64.wrap (((inf_ E F : Nat) : Int) - 1) = ((inf_ E F - 1 : Nat) : Int)) := by
  have a1 : 2 ^ (F + 1) <= 2 ^ (E + F) := Nat.pow_le_pow_right (by omega) (by omega)
  have a2 : 2 ^ (E + F) <= 2 ^ 63 := Nat.pow_le_pow_right (by omega) (by omega)
  have a3 := Nat.two_pow_pos F
  rw [Nat.pow_succ] at a1
  refine vv ⟨?_, ?_⟩
  ·rw [wu_pow (by omega), wu_pow (by omega), IntKind.wrap_u64]
   unfold inf_
   omega
  ·rw [IntKind.wrap_u64]
   unfold inf_
   omega
 rcases (by omega : mode = 0 \/ mode = 1 \/ mode = 2 \/ mode = 3 \/ mode = 4) with hmode | hmode | hmode | hmode | hmode <;> cases neg
 ·have HI : Hid (inner false mode = false) := vv (by rw [hmode]; rfl)
  have t0 : ((mode : Int) == 2) = false := by rw [hmode]; rfl
  have t1 : ((mode : Int) == 3) = false := by rw [hmode]; rfl
  have t2 : ((mode : Int) == 4) = false := by rw [hmode]; rfl
  rw [HI.out, if_neg (by decide)]
  clear HI hmode hm h1
  go_enter Tryz.func96, Tryz.ntmps96
  go_wp2
  go_ret
  exact ⟨retI (by rw [HV.out.1]), (Below.refl _ _).alloc (Nat.le_refl _) _⟩
 ·have HI : Hid (inner true mode = false) := vv (by rw [hmode]; rfl)
  have t0 : ((mode : Int) == 2) = false := by rw [hmode]; rfl
  have t1 : ((mode : Int) == 3) = false := by rw [hmode]; rfl
  have t2 : ((mode : Int) == 4) = false := by rw [hmode]; rfl
  rw [HI.out, if_neg (by decide)]
  clear HI hmode hm h1
  go_enter Tryz.func96, Tryz.ntmps96
  go_wp2
  go_ret
  exact ⟨retI (by rw [HV.out.1]), (Below.refl _ _).alloc (Nat.le_refl _) _⟩
 ·have HI : Hid (inner false mode = false) := vv (by rw [hmode]; rfl)
  have t0 : ((mode : Int) == 2) = false := by rw [hmode]; rfl
  have t1 : ((mode : Int) == 3) = false := by rw [hmode]; rfl
  have t2 : ((mode : Int) == 4) = false := by rw [hmode]; rfl
  rw [HI.out, if_neg (by decide)]
  clear HI hmode hm h1
  go_enter Tryz.func96, Tryz.ntmps96
  go_wp2
  go_ret
  exact ⟨retI (by rw [HV.out.1]), (Below.refl _ _).alloc (Nat.le_refl _) _⟩
 ·have HI : Hid (inner true mode = false) := vv (by rw [hmode]; rfl)
  have t0 : ((mode : Int) == 2) = false := by rw [hmode]; rfl
  have t1 : ((mode : Int) == 3) = false := by rw [hmode]; rfl
  have t2 : ((mode : Int) == 4) = false := by rw [hmode]; rfl
  rw [HI.out, if_neg (by decide)]
  clear HI hmode hm h1
  go_enter Tryz.func96, Tryz.ntmps96
  go_wp2
  go_ret
  exact ⟨retI (by rw [HV.out.1]), (Below.refl _ _).alloc (Nat.le_refl _) _⟩
 ·have HI : Hid (inner false mode = true) := vv (by rw [hmode]; rfl)
  have t0 : ((mode : Int) == 2) = true := by rw [hmode]; rfl
  have t1 : ((mode : Int) == 3) = false := by rw [hmode]; rfl
  have t2 : ((mode : Int) == 4) = false := by rw [hmode]; rfl
  rw [HI.out, if_pos rfl]
  clear HI hmode hm h1
  go_enter Tryz.func96, Tryz.ntmps96
  go_wp2
  go_ret
  exact ⟨retI (by rw [HV.out.1, HV.out.2]), (Below.refl _ _).alloc (Nat.le_refl _) _⟩
 ·have HI : Hid (inner true mode = true) := vv (by rw [hmode]; rfl)
  have t0 : ((mode : Int) == 2) = true := by rw [hmode]; rfl
  have t1 : ((mode : Int) == 3) = false := by rw [hmode]; rfl
  have t2 : ((mode : Int) == 4) = false := by rw [hmode]; rfl
  rw [HI.out, if_pos rfl]
  clear HI hmode hm h1
  go_enter Tryz.func96, Tryz.ntmps96
  go_wp2
  go_ret
  exact ⟨retI (by rw [HV.out.1, HV.out.2]), (Below.refl _ _).alloc (Nat.le_refl _) _⟩
 ·have HI : Hid (inner false mode = false) := vv (by rw [hmode]; rfl)
  have t0 : ((mode : Int) == 2) = false := by rw [hmode]; rfl
  have t1 : ((mode : Int) == 3) = true := by rw [hmode]; rfl
  have t2 : ((mode : Int) == 4) = false := by rw [hmode]; rfl
  rw [HI.out, if_neg (by decide)]
  clear HI hmode hm h1
  go_enter Tryz.func96, Tryz.ntmps96
  go_wp2
  go_ret
  exact ⟨retI (by rw [HV.out.1]), (Below.refl _ _).alloc (Nat.le_refl _) _⟩
 ·have HI : Hid (inner true mode = true) := vv (by rw [hmode]; rfl)
  have t0 : ((mode : Int) == 2) = false := by rw [hmode]; rfl
  have t1 : ((mode : Int) == 3) = true := by rw [hmode]; rfl
  have t2 : ((mode : Int) == 4) = false := by rw [hmode]; rfl
  rw [HI.out, if_pos rfl]
  clear HI hmode hm h1
  go_enter Tryz.func96, Tryz.ntmps96
  go_wp2
  go_ret
  exact ⟨retI (by rw [HV.out.1, HV.out.2]), (Below.refl _ _).alloc (Nat.le_refl _) _⟩
 ·have HI : Hid (inner false mode = true) := vv (by rw [hmode]; rfl)
  have t0 : ((mode : Int) == 2) = false := by rw [hmode]; rfl
  have t1 : ((mode : Int) == 3) = false := by rw [hmode]; rfl
  have t2 : ((mode : Int) == 4) = true := by rw [hmode]; rfl
  rw [HI.out, if_pos rfl]
  clear HI hmode hm h1
  go_enter Tryz.func96, Tryz.ntmps96
  go_wp2
  go_ret
  exact ⟨retI (by rw [HV.out.1, HV.out.2]), (Below.refl _ _).alloc (Nat.le_refl _) _⟩
 ·have HI : Hid (inner true mode = false) := vv (by rw [hmode]; rfl)
  have t0 : ((mode : Int) == 2) = false := by rw [hmode]; rfl
  have t1 : ((mode : Int) == 3) = false := by rw [hmode]; rfl
  have t2 : ((mode : Int) == 4) = true := by rw [hmode]; rfl
  rw [HI.out, if_neg (by decide)]
  clear HI hmode hm h1
  go_enter Tryz.func96, Tryz.ntmps96
  go_wp2
  go_ret
  exact ⟨retI (by rw [HV.out.1]), (Below.refl _ _).alloc (Nat.le_refl _) _⟩
structure FmAt (w : World) (g : Nat) (E F : Int) : Prop where
 c0 : w.cell? ⟨g, 0, none⟩ = some (.int .i64 E)
 c1 : w.cell? ⟨g, 1, none⟩ = some (.int .i64 F)
 lt : g < w.heap.size
theorem FmAt.made (w : World) (E F : Int) (t : TypeId) : FmAt (w.alloc (.cells #[.int .i64 E, .int .i64 F] t)) w.heap.size E F :=
 ⟨by simp only [World.cell?]; rw [heap_alloc_new]; rfl, by simp only [World.cell?]; rw [heap_alloc_new]; rfl, by simp⟩
theorem FmAt.below {w w' : World} {g : Nat} {E F : Int} (h : FmAt w g E F) (hb : Below w.heap.size w w') : FmAt w' g E F :=
 ⟨(hb.cell (p := ⟨g, 0, none⟩) h.lt).trans h.c0, (hb.cell (p := ⟨g, 1, none⟩) h.lt).trans h.c1, Nat.lt_of_lt_of_le h.lt hb.size⟩
theorem w64_two {F : Nat} (h : F <= 52) : wrap64 (wrap64 (2 ^ (F + 1)) - 1) = ((2 ^ (F + 1) - 1 : Nat) : Int) := by
 have h1 := pow_le64 (k := F + 1) (by omega)
 have h2 := Nat.two_pow_pos (F + 1)
 have h3 : ((2 ^ (F + 1) : Nat) : Int) = (2 : Int) ^ (F + 1) := by rw [Int.natCast_pow]; rfl
 unfold wrap64
 omega
set_option maxRecDepth 100000 in
set_option maxHeartbeats 1000000 in
theorem Greatest (E F : Nat) (w : World) (h1 : 2 <= E) (h2 : E <= 11) (h3 : 1 <= F) (h4 : F <= 52) (hst : Std w) :
  Calls Tryz.prog 95 #[fm E F] w (NewRat' (((2 ^ (F + 1) - 1) * p2 (bias E - F) : Nat) : Int) (p2 (F - bias E)) w) := by
 have hb1 := bias_pos h1
 have hb2 := bias_le h2
 have HW := vv (w64_two h4)
 have HWR : Hid (IntKind.i64.wrap (bias E - (F : Int)) = bias E - F) := vv (IntWalk.i64_in _ (by omega))
 have HBi := vv fun w => Bias E F w h1 h2
 have HPw := vv fun w => power (bias E - F) w (by omega) (by omega)
 have h62 : 2 ^ (F + 1) <= 2 ^ 62 := Nat.pow_le_pow_right (by omega) (by omega)
 have H63 : Hid (-9223372036854775808 <= ((2 ^ (F + 1) - 1 : Nat) : Int) /\ ((2 ^ (F + 1) - 1 : Nat) : Int) <= 9223372036854775807) := vv (by omega)
 have HSZ : Hid (Sz (2 ^ (F + 1) - 1) /\ Sz 1 /\ Sz (p2 (bias E - F)) /\ Sz (p2 (-(bias E - F)))) := vv ⟨Sz.small (by omega), by unfold Sz; decide, (Sm.p2 (by omega)).sz, (Sm.p2 (by omega)).sz⟩
 have HC : Hid ((((2 ^ (F + 1) - 1 : Nat) : Int) * ((p2 (bias E - F) : Nat) : Int)) = (((2 ^ (F + 1) - 1) * p2 (bias E - F) : Nat) : Int) /\ 1 * p2 (-(bias E - F)) = p2 (-(bias E - F)) /\ p2 (-(bias E - F)) = p2 (F - bias E)) := vv ⟨by rw [Int.natCast_mul], Nat.one_mul _, by congr 1; omega⟩
 obtain ⟨w0, hw0⟩ := yx (w.alloc (.cells #[.int .i64 (E : Int), .int .i64 (F : Int)] 23))
 have HB0 : Hid (Below w.heap.size w w0) := vv (by rw [hw0]; exact (Below.refl _ w).alloc (Nat.le_refl _) _)
 have HF : Hid (FmAt w0 w.heap.size E F) := vv (by rw [hw0]; exact FmAt.made w _ _ _)
 have HST := vv (hst.fs (Fs.of_nil HB0.out))
 have HW0 := vv hw0
 clear h62 hw0 hst h1 h2
 go_enter Tryz.func95, Tryz.ntmps95
 go_wp2_with fail
 rw [HW.out, <- HW0.out]
 refine wp_region_sch (fun w' => w'.cell? ⟨w.heap.size, 0, none⟩ = some (.int .i64 (E : Int)) /\ w'.cell? ⟨w.heap.size, 1, none⟩ = some (.int .i64 (F : Int))) 10
  (.still 2 (.still 4 (.still 6 (.still 7 (.two 0 (.one 1 (.one 3 (.one 5 (.still 8 (.one 9 .done))))) 1 (.two 0 (.one 3 (.one 5 (.still 8 (.one 9 .done)))) 3 (.two 0 (.one 5 (.still 8 (.one 9 .done))) 5 (.still 8 (.two 0 (.one 9 .done) 9 (.one 0 .done))))))))))
  (by kernel_rfl) (by kernel_rfl) (fun _ _ d _ _ h => by cases d <;> exact h) ⟨HF.out.c0, HF.out.c1⟩ (fun hS0 => ?_)
 iterate 4
  refine sch_still (v := ?_) rfl (by rfl) ?_ ?_
  rotate_left
  ·intro w hSw; go_simp; with_reducible rfl
  simp only [Act.put, List.setIfInBounds_toArray, List.set_cons_zero, List.set_cons_succ]
 have hB : Below w0.heap.size w0 w0.drew := below_drew (Below.refl _ _)
 obtain ⟨wc, hwc⟩ := yx (w0.drew)
 rw [<- hwc] at hB hS0 ⊢
 have HB := vv hB
 clear hB hwc
 refine sch_two rfl (by rfl) rfl (by rfl) (fun K hK => ?_) (fun K hK => ?_)
 ·go_simp
  obtain ⟨z0, hBn⟩ := one_rat wc
  obtain ⟨g0, hg0⟩ := yx (wc.heap.size)
  have hge0 : w0.heap.size <= g0 := by have := HB.out.size; omega
  have hn0 : ∀ g, g < wc.heap.size -> g ≠ g0 := fun g h => by omega
  have HN0 := vv hn0
  obtain ⟨wn, hwn⟩ := yx (wc.alloc ratZ)
  rw [<- hwn] at z0 hBn ⊢
  rw [<- hg0] at z0 ⊢
  try have HNE : Hid (g1 ≠ g0) := vv (HN0.out g1 HZ1.out.lt)
  try have HNE : Hid (g1 ≠ g0) := vv (HN0.out g1 HR3.out.lt)
  clear hn0 hwn hg0
  try have HZ0 := vv (HZ0.out.below hBn)
  try have HZ1 := vv (HZ1.out.below hBn)
  try have HR3 := vv (HR3.out.below hBn)
  try have HR9 := vv (HR9.out.below hBn)
  have hbn := HB.out.trans (hBn.mono HB.out.size)
  have HB := vv hbn
  clear hBn hbn
  obtain ⟨wc, rfl⟩ := yx wn
  have HZ0 := vv z0
  clear z0
  go_wp2_with fail
  refine hK.out _ _ ⟨(HF.out.below HB.out).c0, (HF.out.below HB.out).c1⟩ (fun hHeld => ?_)
  clear hK
  refine sch_one rfl (by rfl) (fun K hK => ?_)
  go_simp
  obtain ⟨z1, hBn⟩ := one_rat wc
  obtain ⟨g1, hg1⟩ := yx (wc.heap.size)
  have hge1 : w0.heap.size <= g1 := by have := HB.out.size; omega
  have hn1 : ∀ g, g < wc.heap.size -> g ≠ g1 := fun g h => by omega
  have HN1 := vv hn1
  obtain ⟨wn, hwn⟩ := yx (wc.alloc ratZ)
  rw [<- hwn] at z1 hBn ⊢
  rw [<- hg1] at z1 ⊢
  try have HNE : Hid (g1 ≠ g0) := vv (Ne.symm (HN1.out g0 HZ0.out.lt))
  clear hn1 hwn hg1
  try have HZ0 := vv (HZ0.out.below hBn)
  try have HZ1 := vv (HZ1.out.below hBn)
  try have HR3 := vv (HR3.out.below hBn)
  try have HR9 := vv (HR9.out.below hBn)
  have hbn := HB.out.trans (hBn.mono HB.out.size)
  have HB := vv hbn
  clear hBn hbn
  obtain ⟨wc, rfl⟩ := yx wn
  have HZ1 := vv z1
  clear z1
  go_wp2_with fail
  refine hK.out _ _ ⟨(HF.out.below HB.out).c0, (HF.out.below HB.out).c1⟩ (fun hHeld => ?_)
  clear hK
  refine sch_one rfl (by rfl) (fun K hK => ?_)
  go_simp
  refine (B.SetInt64R g1 _ _ HZ1.out.sh H63.out.1 H63.out.2).mono ?_
  rintro e wn hP
  try have HZ0 := vv (HZ0.out.fs1 hP.2.2 HNE.out)
  have hbn := hP.below HB.out HB.out.size hge1
  have HB := vv hbn
  obtain ⟨rfl, hR3, -⟩ := hP
  have HR3 := vv hR3
  clear hR3 hbn HZ1
  obtain ⟨wc, rfl⟩ := yx wn
  go_wp2_with fail
  refine hK.out _ _ ⟨(HF.out.below HB.out).c0, (HF.out.below HB.out).c1⟩ (fun hHeld => ?_)
  clear hK
  refine sch_one rfl (by rfl) (fun K hK => ?_)
  go_simp
  refine (HBi.out _).mono ?_
  rintro e wn ⟨rfl, hBn⟩
  try have HZ0 := vv (HZ0.out.below hBn)
  try have HZ1 := vv (HZ1.out.below hBn)
  try have HR3 := vv (HR3.out.below hBn)
  try have HR9 := vv (HR9.out.below hBn)
  have hbn := HB.out.trans (hBn.mono HB.out.size)
  have HB := vv hbn
  clear hBn hbn
  obtain ⟨wc, rfl⟩ := yx wn
  go_wp2_with fail
  refine hK.out _ _ ⟨(HF.out.below HB.out).c0, (HF.out.below HB.out).c1⟩ (fun hHeld => ?_)
  clear hK
  have hwr := HWR.out
  iterate 1
   refine sch_still (v := ?_) rfl (by rfl) ?_ ?_
   rotate_left
   ·intro w hSw; go_simp; with_reducible rfl
   simp only [Act.put, List.setIfInBounds_toArray, List.set_cons_zero, List.set_cons_succ]
  clear hwr
  refine sch_one rfl (by rfl) (fun K hK => ?_)
  go_simp
  refine (HPw.out _).mono ?_
  rintro e wn ⟨g9, rfl, hg9, hR9, hBn⟩
  try have HZ0 := vv (HZ0.out.below hBn)
  try have HZ1 := vv (HZ1.out.below hBn)
  try have HR3 := vv (HR3.out.below hBn)
  try have HR9 := vv (HR9.out.below hBn)
  have hbn := HB.out.trans (hBn.mono HB.out.size)
  have HB := vv hbn
  clear hBn hbn
  obtain ⟨wc, rfl⟩ := yx wn
  have HR9 := vv hR9
  clear hR9
  go_wp2_with fail
  refine hK.out _ _ ⟨(HF.out.below HB.out).c0, (HF.out.below HB.out).c1⟩ (fun hHeld => ?_)
  clear hK
  refine sch_done ?_
  go_wp2_with fail
  refine (B.MulR g0 g1 g9 _ _ _ _ _ HZ0.out.sh HR3.out HR9.out (HST.out.fs (Fs.of_nil HB.out)) (by exact HSZ.out.1) HSZ.out.2.1 (by exact HSZ.out.2.2.1) HSZ.out.2.2.2).mono ?_
  rintro e wn hP
  rw [HC.out.1, HC.out.2.1, HC.out.2.2] at hP
  have HBB := vv (HB0.out.trans ((hP.below HB.out HB.out.size hge0).mono HB0.out.size))
  obtain ⟨rfl, hR, -⟩ := hP
  have HR := vv hR
  clear hR
  go_wp2
  go_ret
  exact ⟨_, rfl, Nat.le_trans HB0.out.size hge0, HR.out, HBB.out⟩
 ·go_simp
  obtain ⟨z1, hBn⟩ := one_rat wc
  obtain ⟨g1, hg1⟩ := yx (wc.heap.size)
  have hge1 : w0.heap.size <= g1 := by have := HB.out.size; omega
  have hn1 : ∀ g, g < wc.heap.size -> g ≠ g1 := fun g h => by omega
  have HN1 := vv hn1
  obtain ⟨wn, hwn⟩ := yx (wc.alloc ratZ)
  rw [<- hwn] at z1 hBn ⊢
  rw [<- hg1] at z1 ⊢
  try have HNE : Hid (g1 ≠ g0) := vv (Ne.symm (HN1.out g0 HZ0.out.lt))
  clear hn1 hwn hg1
  try have HZ0 := vv (HZ0.out.below hBn)
  try have HZ1 := vv (HZ1.out.below hBn)
  try have HR3 := vv (HR3.out.below hBn)
  try have HR9 := vv (HR9.out.below hBn)
  have hbn := HB.out.trans (hBn.mono HB.out.size)
  have HB := vv hbn
  clear hBn hbn
  obtain ⟨wc, rfl⟩ := yx wn
  have HZ1 := vv z1
  clear z1
  go_wp2_with fail
  refine hK.out _ _ ⟨(HF.out.below HB.out).c0, (HF.out.below HB.out).c1⟩ (fun hHeld => ?_)
  clear hK
  refine sch_two rfl (by rfl) rfl (by rfl) (fun K hK => ?_) (fun K hK => ?_)
  ·go_simp
   obtain ⟨z0, hBn⟩ := one_rat wc
   obtain ⟨g0, hg0⟩ := yx (wc.heap.size)
   have hge0 : w0.heap.size <= g0 := by have := HB.out.size; omega
   have hn0 : ∀ g, g < wc.heap.size -> g ≠ g0 := fun g h => by omega
   have HN0 := vv hn0
   obtain ⟨wn, hwn⟩ := yx (wc.alloc ratZ)
   rw [<- hwn] at z0 hBn ⊢
   rw [<- hg0] at z0 ⊢
   try have HNE : Hid (g1 ≠ g0) := vv (HN0.out g1 HZ1.out.lt)
   try have HNE : Hid (g1 ≠ g0) := vv (HN0.out g1 HR3.out.lt)
   clear hn0 hwn hg0
   try have HZ0 := vv (HZ0.out.below hBn)
   try have HZ1 := vv (HZ1.out.below hBn)
   try have HR3 := vv (HR3.out.below hBn)
   try have HR9 := vv (HR9.out.below hBn)
   have hbn := HB.out.trans (hBn.mono HB.out.size)
   have HB := vv hbn
   clear hBn hbn
   obtain ⟨wc, rfl⟩ := yx wn
   have HZ0 := vv z0
   clear z0
   go_wp2_with fail
   refine hK.out _ _ ⟨(HF.out.below HB.out).c0, (HF.out.below HB.out).c1⟩ (fun hHeld => ?_)
   clear hK
   refine sch_one rfl (by rfl) (fun K hK => ?_)
   go_simp
   refine (B.SetInt64R g1 _ _ HZ1.out.sh H63.out.1 H63.out.2).mono ?_
   rintro e wn hP
   try have HZ0 := vv (HZ0.out.fs1 hP.2.2 HNE.out)
   have hbn := hP.below HB.out HB.out.size hge1
   have HB := vv hbn
   obtain ⟨rfl, hR3, -⟩ := hP
   have HR3 := vv hR3
   clear hR3 hbn HZ1
   obtain ⟨wc, rfl⟩ := yx wn
   go_wp2_with fail
   refine hK.out _ _ ⟨(HF.out.below HB.out).c0, (HF.out.below HB.out).c1⟩ (fun hHeld => ?_)
   clear hK
   refine sch_one rfl (by rfl) (fun K hK => ?_)
   go_simp
   refine (HBi.out _).mono ?_
   rintro e wn ⟨rfl, hBn⟩
   try have HZ0 := vv (HZ0.out.below hBn)
   try have HZ1 := vv (HZ1.out.below hBn)
   try have HR3 := vv (HR3.out.below hBn)
   try have HR9 := vv (HR9.out.below hBn)
   have hbn := HB.out.trans (hBn.mono HB.out.size)
   have HB := vv hbn
   clear hBn hbn
   obtain ⟨wc, rfl⟩ := yx wn
   go_wp2_with fail
   refine hK.out _ _ ⟨(HF.out.below HB.out).c0, (HF.out.below HB.out).c1⟩ (fun hHeld => ?_)
   clear hK
   have hwr := HWR.out
   iterate 1
    refine sch_still (v := ?_) rfl (by rfl) ?_ ?_
    rotate_left
    ·intro w hSw; go_simp; with_reducible rfl
    simp only [Act.put, List.setIfInBounds_toArray, List.set_cons_zero, List.set_cons_succ]
   clear hwr
   refine sch_one rfl (by rfl) (fun K hK => ?_)
   go_simp
   refine (HPw.out _).mono ?_
   rintro e wn ⟨g9, rfl, hg9, hR9, hBn⟩
   try have HZ0 := vv (HZ0.out.below hBn)
   try have HZ1 := vv (HZ1.out.below hBn)
   try have HR3 := vv (HR3.out.below hBn)
   try have HR9 := vv (HR9.out.below hBn)
   have hbn := HB.out.trans (hBn.mono HB.out.size)
   have HB := vv hbn
   clear hBn hbn
   obtain ⟨wc, rfl⟩ := yx wn
   have HR9 := vv hR9
   clear hR9
   go_wp2_with fail
   refine hK.out _ _ ⟨(HF.out.below HB.out).c0, (HF.out.below HB.out).c1⟩ (fun hHeld => ?_)
   clear hK
   refine sch_done ?_
   go_wp2_with fail
   refine (B.MulR g0 g1 g9 _ _ _ _ _ HZ0.out.sh HR3.out HR9.out (HST.out.fs (Fs.of_nil HB.out)) (by exact HSZ.out.1) HSZ.out.2.1 (by exact HSZ.out.2.2.1) HSZ.out.2.2.2).mono ?_
   rintro e wn hP
   rw [HC.out.1, HC.out.2.1, HC.out.2.2] at hP
   have HBB := vv (HB0.out.trans ((hP.below HB.out HB.out.size hge0).mono HB0.out.size))
   obtain ⟨rfl, hR, -⟩ := hP
   have HR := vv hR
   clear hR
   go_wp2
   go_ret
   exact ⟨_, rfl, Nat.le_trans HB0.out.size hge0, HR.out, HBB.out⟩
  ·go_simp
   refine (B.SetInt64R g1 _ _ HZ1.out.sh H63.out.1 H63.out.2).mono ?_
   rintro e wn hP
   try have HZ0 := vv (HZ0.out.fs1 hP.2.2 HNE.out)
   have hbn := hP.below HB.out HB.out.size hge1
   have HB := vv hbn
   obtain ⟨rfl, hR3, -⟩ := hP
   have HR3 := vv hR3
   clear hR3 hbn HZ1
   obtain ⟨wc, rfl⟩ := yx wn
   go_wp2_with fail
   refine hK.out _ _ ⟨(HF.out.below HB.out).c0, (HF.out.below HB.out).c1⟩ (fun hHeld => ?_)
   clear hK
   refine sch_two rfl (by rfl) rfl (by rfl) (fun K hK => ?_) (fun K hK => ?_)
   ·go_simp
    obtain ⟨z0, hBn⟩ := one_rat wc
    obtain ⟨g0, hg0⟩ := yx (wc.heap.size)
    have hge0 : w0.heap.size <= g0 := by have := HB.out.size; omega
    have hn0 : ∀ g, g < wc.heap.size -> g ≠ g0 := fun g h => by omega
    have HN0 := vv hn0
    obtain ⟨wn, hwn⟩ := yx (wc.alloc ratZ)
    rw [<- hwn] at z0 hBn ⊢
    rw [<- hg0] at z0 ⊢
    try have HNE : Hid (g1 ≠ g0) := vv (HN0.out g1 HZ1.out.lt)
    try have HNE : Hid (g1 ≠ g0) := vv (HN0.out g1 HR3.out.lt)
    clear hn0 hwn hg0
    try have HZ0 := vv (HZ0.out.below hBn)
    try have HZ1 := vv (HZ1.out.below hBn)
    try have HR3 := vv (HR3.out.below hBn)
    try have HR9 := vv (HR9.out.below hBn)
    have hbn := HB.out.trans (hBn.mono HB.out.size)
    have HB := vv hbn
    clear hBn hbn
    obtain ⟨wc, rfl⟩ := yx wn
    have HZ0 := vv z0
    clear z0
    go_wp2_with fail
    refine hK.out _ _ ⟨(HF.out.below HB.out).c0, (HF.out.below HB.out).c1⟩ (fun hHeld => ?_)
    clear hK
    refine sch_one rfl (by rfl) (fun K hK => ?_)
    go_simp
    refine (HBi.out _).mono ?_
    rintro e wn ⟨rfl, hBn⟩
    try have HZ0 := vv (HZ0.out.below hBn)
    try have HZ1 := vv (HZ1.out.below hBn)
    try have HR3 := vv (HR3.out.below hBn)
    try have HR9 := vv (HR9.out.below hBn)
    have hbn := HB.out.trans (hBn.mono HB.out.size)
    have HB := vv hbn
    clear hBn hbn
    obtain ⟨wc, rfl⟩ := yx wn
    go_wp2_with fail
    refine hK.out _ _ ⟨(HF.out.below HB.out).c0, (HF.out.below HB.out).c1⟩ (fun hHeld => ?_)
    clear hK
    have hwr := HWR.out
    iterate 1
     refine sch_still (v := ?_) rfl (by rfl) ?_ ?_
     rotate_left
     ·intro w hSw; go_simp; with_reducible rfl
     simp only [Act.put, List.setIfInBounds_toArray, List.set_cons_zero, List.set_cons_succ]
    clear hwr
    refine sch_one rfl (by rfl) (fun K hK => ?_)
    go_simp
    refine (HPw.out _).mono ?_
    rintro e wn ⟨g9, rfl, hg9, hR9, hBn⟩
    try have HZ0 := vv (HZ0.out.below hBn)
    try have HZ1 := vv (HZ1.out.below hBn)
    try have HR3 := vv (HR3.out.below hBn)
    try have HR9 := vv (HR9.out.below hBn)
    have hbn := HB.out.trans (hBn.mono HB.out.size)
    have HB := vv hbn
    clear hBn hbn
    obtain ⟨wc, rfl⟩ := yx wn
    have HR9 := vv hR9
    clear hR9
    go_wp2_with fail
    refine hK.out _ _ ⟨(HF.out.below HB.out).c0, (HF.out.below HB.out).c1⟩ (fun hHeld => ?_)
    clear hK
    refine sch_done ?_
    go_wp2_with fail
    refine (B.MulR g0 g1 g9 _ _ _ _ _ HZ0.out.sh HR3.out HR9.out (HST.out.fs (Fs.of_nil HB.out)) (by exact HSZ.out.1) HSZ.out.2.1 (by exact HSZ.out.2.2.1) HSZ.out.2.2.2).mono ?_
    rintro e wn hP
    rw [HC.out.1, HC.out.2.1, HC.out.2.2] at hP
    have HBB := vv (HB0.out.trans ((hP.below HB.out HB.out.size hge0).mono HB0.out.size))
    obtain ⟨rfl, hR, -⟩ := hP
    have HR := vv hR
    clear hR
    go_wp2
    go_ret
    exact ⟨_, rfl, Nat.le_trans HB0.out.size hge0, HR.out, HBB.out⟩
   ·go_simp
    refine (HBi.out _).mono ?_
    rintro e wn ⟨rfl, hBn⟩
    try have HZ0 := vv (HZ0.out.below hBn)
    try have HZ1 := vv (HZ1.out.below hBn)
    try have HR3 := vv (HR3.out.below hBn)
    try have HR9 := vv (HR9.out.below hBn)
    have hbn := HB.out.trans (hBn.mono HB.out.size)
    have HB := vv hbn
    clear hBn hbn
    obtain ⟨wc, rfl⟩ := yx wn
    go_wp2_with fail
    refine hK.out _ _ ⟨(HF.out.below HB.out).c0, (HF.out.below HB.out).c1⟩ (fun hHeld => ?_)
    clear hK
    have hwr := HWR.out
    iterate 1
     refine sch_still (v := ?_) rfl (by rfl) ?_ ?_
     rotate_left
     ·intro w hSw; go_simp; with_reducible rfl
     simp only [Act.put, List.setIfInBounds_toArray, List.set_cons_zero, List.set_cons_succ]
    clear hwr
    refine sch_two rfl (by rfl) rfl (by rfl) (fun K hK => ?_) (fun K hK => ?_)
    ·go_simp
     obtain ⟨z0, hBn⟩ := one_rat wc
     obtain ⟨g0, hg0⟩ := yx (wc.heap.size)
     have hge0 : w0.heap.size <= g0 := by have := HB.out.size; omega
     have hn0 : ∀ g, g < wc.heap.size -> g ≠ g0 := fun g h => by omega
     have HN0 := vv hn0
     obtain ⟨wn, hwn⟩ := yx (wc.alloc ratZ)
     rw [<- hwn] at z0 hBn ⊢
     rw [<- hg0] at z0 ⊢
     try have HNE : Hid (g1 ≠ g0) := vv (HN0.out g1 HZ1.out.lt)
     try have HNE : Hid (g1 ≠ g0) := vv (HN0.out g1 HR3.out.lt)
     clear hn0 hwn hg0
     try have HZ0 := vv (HZ0.out.below hBn)
     try have HZ1 := vv (HZ1.out.below hBn)
     try have HR3 := vv (HR3.out.below hBn)
     try have HR9 := vv (HR9.out.below hBn)
     have hbn := HB.out.trans (hBn.mono HB.out.size)
     have HB := vv hbn
     clear hBn hbn
     obtain ⟨wc, rfl⟩ := yx wn
     have HZ0 := vv z0
     clear z0
     go_wp2_with fail
     refine hK.out _ _ ⟨(HF.out.below HB.out).c0, (HF.out.below HB.out).c1⟩ (fun hHeld => ?_)
     clear hK
     refine sch_one rfl (by rfl) (fun K hK => ?_)
     go_simp
     refine (HPw.out _).mono ?_
     rintro e wn ⟨g9, rfl, hg9, hR9, hBn⟩
     try have HZ0 := vv (HZ0.out.below hBn)
     try have HZ1 := vv (HZ1.out.below hBn)
     try have HR3 := vv (HR3.out.below hBn)
     try have HR9 := vv (HR9.out.below hBn)
     have hbn := HB.out.trans (hBn.mono HB.out.size)
     have HB := vv hbn
     clear hBn hbn
     obtain ⟨wc, rfl⟩ := yx wn
     have HR9 := vv hR9
     clear hR9
     go_wp2_with fail
     refine hK.out _ _ ⟨(HF.out.below HB.out).c0, (HF.out.below HB.out).c1⟩ (fun hHeld => ?_)
     clear hK
     refine sch_done ?_
     go_wp2_with fail
     refine (B.MulR g0 g1 g9 _ _ _ _ _ HZ0.out.sh HR3.out HR9.out (HST.out.fs (Fs.of_nil HB.out)) (by exact HSZ.out.1) HSZ.out.2.1 (by exact HSZ.out.2.2.1) HSZ.out.2.2.2).mono ?_
     rintro e wn hP
     rw [HC.out.1, HC.out.2.1, HC.out.2.2] at hP
     have HBB := vv (HB0.out.trans ((hP.below HB.out HB.out.size hge0).mono HB0.out.size))
     obtain ⟨rfl, hR, -⟩ := hP
     have HR := vv hR
     clear hR
     go_wp2
     go_ret
     exact ⟨_, rfl, Nat.le_trans HB0.out.size hge0, HR.out, HBB.out⟩
    ·go_simp
     refine (HPw.out _).mono ?_
     rintro e wn ⟨g9, rfl, hg9, hR9, hBn⟩
     try have HZ0 := vv (HZ0.out.below hBn)
     try have HZ1 := vv (HZ1.out.below hBn)
     try have HR3 := vv (HR3.out.below hBn)
     try have HR9 := vv (HR9.out.below hBn)
     have hbn := HB.out.trans (hBn.mono HB.out.size)
     have HB := vv hbn
     clear hBn hbn
     obtain ⟨wc, rfl⟩ := yx wn
     have HR9 := vv hR9
     clear hR9
     go_wp2_with fail
     refine hK.out _ _ ⟨(HF.out.below HB.out).c0, (HF.out.below HB.out).c1⟩ (fun hHeld => ?_)
     clear hK
     refine sch_one rfl (by rfl) (fun K hK => ?_)
     go_simp
     obtain ⟨z0, hBn⟩ := one_rat wc
     obtain ⟨g0, hg0⟩ := yx (wc.heap.size)
     have hge0 : w0.heap.size <= g0 := by have := HB.out.size; omega
     have hn0 : ∀ g, g < wc.heap.size -> g ≠ g0 := fun g h => by omega
     have HN0 := vv hn0
     obtain ⟨wn, hwn⟩ := yx (wc.alloc ratZ)
     rw [<- hwn] at z0 hBn ⊢
     rw [<- hg0] at z0 ⊢
     try have HNE : Hid (g1 ≠ g0) := vv (HN0.out g1 HZ1.out.lt)
     try have HNE : Hid (g1 ≠ g0) := vv (HN0.out g1 HR3.out.lt)
     clear hn0 hwn hg0
     try have HZ0 := vv (HZ0.out.below hBn)
     try have HZ1 := vv (HZ1.out.below hBn)
     try have HR3 := vv (HR3.out.below hBn)
     try have HR9 := vv (HR9.out.below hBn)
     have hbn := HB.out.trans (hBn.mono HB.out.size)
     have HB := vv hbn
     clear hBn hbn
     obtain ⟨wc, rfl⟩ := yx wn
     have HZ0 := vv z0
     clear z0
     go_wp2_with fail
     refine hK.out _ _ ⟨(HF.out.below HB.out).c0, (HF.out.below HB.out).c1⟩ (fun hHeld => ?_)
     clear hK
     refine sch_done ?_
     go_wp2_with fail
     refine (B.MulR g0 g1 g9 _ _ _ _ _ HZ0.out.sh HR3.out HR9.out (HST.out.fs (Fs.of_nil HB.out)) (by exact HSZ.out.1) HSZ.out.2.1 (by exact HSZ.out.2.2.1) HSZ.out.2.2.2).mono ?_
     rintro e wn hP
     rw [HC.out.1, HC.out.2.1, HC.out.2.2] at hP
     have HBB := vv (HB0.out.trans ((hP.below HB.out HB.out.size hge0).mono HB0.out.size))
     obtain ⟨rfl, hR, -⟩ := hP
     have HR := vv hR
     clear hR
     go_wp2
     go_ret
     exact ⟨_, rfl, Nat.le_trans HB0.out.size hge0, HR.out, HBB.out⟩
set_option maxRecDepth 100000 in
set_option maxHeartbeats 1000000 in
theorem Pack_small (gx m E F : Nat) (w : World) (h1 : 2 <= E) (h2 : E <= 11) (h3 : 1 <= F) (h4 : F <= 52) (hx : RatAt w gx ((m * p2 (1 - bias E - F) : Nat) : Int) (p2 (F - (1 - bias E)))) (hm : m < 2 ^ F) (hst : Std w) :
  Calls Tryz.prog 97 #[fm E F, .pointer (some ⟨gx, 0, none⟩)] w fun e w' => e = .returned (.int .u64 (m : Int)) /\ Below w.heap.size w w' := by
 have hb1 := bias_pos h1
 have hb2 := bias_le h2
 have HBi := vv fun w => Bias E F w h1 h2
 have HLe := vv fun w => Least E F w h1 h2
 have HPw := vv fun w => power (bias E - 1 + F) w (by omega) (by omega)
 have HWR : Hid (IntKind.i64.wrap (bias E - 1) = bias E - 1 /\ IntKind.i64.wrap (bias E - 1 + (F : Int)) = bias E - 1 + F) := vv ⟨IntWalk.i64_in _ (by omega), IntWalk.i64_in _ (by omega)⟩
 have hm52 : 2 ^ F <= 2 ^ 52 := Nat.pow_le_pow_right (by omega) h4
 have e1 : m * p2 (1 - bias E - F) = m := by rw [p2_nonpos (n := 1 - bias E - F) (by omega), Nat.mul_one]
 have HSX : Hid (Sz (m * p2 (1 - bias E - F)) /\ Sz (p2 (F - (1 - bias E)))) := vv ⟨by rw [e1]; exact Sz.small (by omega), (Sm.p2 (by omega)).sz⟩
 have HSP : Hid (Sz (p2 (bias E - 1 + F)) /\ Sz (p2 (-(bias E - 1 + F)))) := vv ⟨(Sm.p2 (by omega)).sz, (Sm.p2 (by omega)).sz⟩
 have HSL : Hid (Sz (p2 (1 - bias E)) /\ Sz (p2 (bias E - 1))) := vv ⟨(Sm.p2 (by omega)).sz, (Sm.p2 (by omega)).sz⟩
 have HC : Hid ((((m * p2 (1 - bias E - F) : Nat) : Int) * ((p2 (bias E - 1 + F) : Nat) : Int)) = ((m * p2 (1 - bias E - F) * p2 (bias E - 1 + F) : Nat) : Int)) := vv (by rw [Int.natCast_mul _ (p2 (bias E - 1 + F))])
 have HLp := vv (small_num (E := E) (F := F) (m := m) h1)
 have HM64 : Hid (m < 18446744073709551616) := vv (by omega)
 have hcmp : cmpI (m * p2 (1 - bias E - F) * p2 (bias E - 1)) (p2 (1 - bias E) * p2 (F - (1 - bias E))) = -1 := by
  have h := (least_iff (F := F) (m := m) (l := 1 - bias E) h1 (Int.le_refl _) (fun h => absurd h (Int.lt_irrefl _))).2 ⟨rfl, hm⟩
  have := cmpI_bd (m * p2 (1 - bias E - F) * p2 (bias E - 1)) (p2 (1 - bias E) * p2 (F - (1 - bias E)))
  omega
 have HCmp := vv hcmp
 obtain ⟨w0, hw0⟩ := yx (w.alloc (.cells #[.int .i64 (E : Int), .int .i64 (F : Int)] 23))
 have HB0 : Hid (Below w.heap.size w w0) := vv (by rw [hw0]; exact (Below.refl _ w).alloc (Nat.le_refl _) _)
 have HF : Hid (FmAt w0 w.heap.size E F) := vv (by rw [hw0]; exact FmAt.made w _ _ _)
 have HST := vv (hst.fs (Fs.of_nil HB0.out))
 have HX := vv (hx.below HB0.out)
 have HW0 := vv hw0
 clear hw0 hst hx h1 h2 hm hm52 e1 hcmp
 go_enter Tryz.func97, Tryz.ntmps97
 have hlt0 := HF.out.lt
 have f0 := HF.out.c0
 have f1 := HF.out.c1
 go_wp2_with fail
 rw [<- HW0.out]
 go_wp2_with fail
 refine (HLe.out _).mono ?_
 rintro e w1 ⟨g1, rfl, hg1, hR1, hB1⟩
 have HR1 := vv hR1
 have HB1 := vv hB1
 clear hR1 hB1
 go_wp2_with fail
 refine (B.CmpR gx g1 _ _ _ _ _ (HX.out.below HB1.out) HR1.out HSX.out.1 HSX.out.2 HSL.out.1 HSL.out.2).mono ?_
 rintro e w2 ⟨rfl, hB2⟩
 rw [HCmp.out]
 have HB := vn HB1 hB2
 clear hB2 f0 f1 hlt0
 go_wp2_with fail
 refine wp_region_sch (fun w' => w'.cell? ⟨w.heap.size, 0, none⟩ = some (.int .i64 (E : Int)) /\ w'.cell? ⟨w.heap.size, 1, none⟩ = some (.int .i64 (F : Int))) 9
  (.still 1 (.still 2 (.still 5 (.still 6 (.two 0 (.one 3 (.still 4 (.still 7 (.one 8 .done)))) 3 (.still 4 (.still 7 (.two 0 (.one 8 .done) 8 (.one 0 .done)))))))))
  (by kernel_rfl) (by kernel_rfl) (fun _ _ d _ _ h => by cases d <;> exact h) ⟨(HF.out.below HB.out).c0, (HF.out.below HB.out).c1⟩ (fun hS0 => ?_)
 iterate 4
  refine sch_still (v := ?_) rfl (by rfl) ?_ ?_
  rotate_left
  ·intro w hSw; go_simp; with_reducible rfl
  simp only [Act.put, List.setIfInBounds_toArray, List.set_cons_zero, List.set_cons_succ]
 have hB := below_drew HB.out
 obtain ⟨wc, hwc⟩ := yx (w2.drew)
 rw [<- hwc] at hB hS0 ⊢
 have HB := vv hB
 clear hB hwc
 refine sch_two rfl (by rfl) rfl (by rfl) (fun K hK => ?_) (fun K hK => ?_)
 ·go_simp
  obtain ⟨z0, hBn⟩ := one_rat wc
  obtain ⟨g0, hg0⟩ := yx (wc.heap.size)
  have hge0 : w0.heap.size <= g0 := by have := HB.out.size; omega
  obtain ⟨wn, hwn⟩ := yx (wc.alloc ratZ)
  rw [<- hwn] at z0 hBn ⊢
  rw [<- hg0] at z0 ⊢
  clear hwn hg0
  try have HZ0 := vv (HZ0.out.below hBn)
  try have HR8 := vv (HR8.out.below hBn)
  have hbn := HB.out.trans (hBn.mono HB.out.size)
  have HB := vv hbn
  clear hBn hbn
  obtain ⟨wc, rfl⟩ := yx wn
  have HZ0 := vv z0
  clear z0
  go_wp2_with fail
  refine hK.out _ _ ⟨(HF.out.below HB.out).c0, (HF.out.below HB.out).c1⟩ (fun hHeld => ?_)
  clear hK
  refine sch_one rfl (by rfl) (fun K hK => ?_)
  go_simp
  refine (HBi.out _).mono ?_
  rintro e wn ⟨rfl, hBn⟩
  try have HZ0 := vv (HZ0.out.below hBn)
  try have HR8 := vv (HR8.out.below hBn)
  have hbn := HB.out.trans (hBn.mono HB.out.size)
  have HB := vv hbn
  clear hBn hbn
  obtain ⟨wc, rfl⟩ := yx wn
  go_wp2_with fail
  refine hK.out _ _ ⟨(HF.out.below HB.out).c0, (HF.out.below HB.out).c1⟩ (fun hHeld => ?_)
  clear hK
  have hwr := HWR.out.1
  iterate 1
   refine sch_still (v := ?_) rfl (by rfl) ?_ ?_
   rotate_left
   ·intro w hSw; go_simp; with_reducible rfl
   simp only [Act.put, List.setIfInBounds_toArray, List.set_cons_zero, List.set_cons_succ]
  clear hwr
  have hwr := HWR.out.2
  iterate 1
   refine sch_still (v := ?_) rfl (by rfl) ?_ ?_
   rotate_left
   ·intro w hSw; go_simp; with_reducible rfl
   simp only [Act.put, List.setIfInBounds_toArray, List.set_cons_zero, List.set_cons_succ]
  clear hwr
  refine sch_one rfl (by rfl) (fun K hK => ?_)
  go_simp
  refine (HPw.out _).mono ?_
  rintro e wn ⟨g8, rfl, hg8, hR8, hBn⟩
  try have HZ0 := vv (HZ0.out.below hBn)
  try have HR8 := vv (HR8.out.below hBn)
  have hbn := HB.out.trans (hBn.mono HB.out.size)
  have HB := vv hbn
  clear hBn hbn
  obtain ⟨wc, rfl⟩ := yx wn
  have HR8 := vv hR8
  clear hR8
  go_wp2_with fail
  refine hK.out _ _ ⟨(HF.out.below HB.out).c0, (HF.out.below HB.out).c1⟩ (fun hHeld => ?_)
  clear hK
  refine sch_done ?_
  go_wp2_with fail
  refine (B.MulR g0 gx g8 _ _ _ _ _ HZ0.out.sh (HX.out.below HB.out) HR8.out (HST.out.fs (Fs.of_nil HB.out)) (by exact HSX.out.1) HSX.out.2 (by exact HSP.out.1) HSP.out.2).mono ?_
  rintro e wn hP
  rw [HC.out] at hP
  have HBB := vv (hP.below HB.out HB.out.size hge0)
  obtain ⟨rfl, hR, -⟩ := hP
  have HR := vv hR
  clear hR
  go_wp2_with fail
  refine (B.Num g0 _ _ _ HR.out).mono ?_
  rintro e w5 ⟨g5, rfl, hg5, hI5, hB5⟩
  rw [HLp.out] at hI5
  have HI5 := vv hI5
  have HB5 := vn HBB hB5
  clear hI5 hB5
  go_wp2_with fail
  refine (B.Uint64 g5 0 _ _ HI5.out (by rw [Int.natAbs_natCast]; exact HM64.out)).mono ?_
  rintro e w' ⟨rfl, rfl⟩
  go_wp2
  go_ret
  exact ⟨by simp, HB0.out.trans (HB5.out.mono HB0.out.size)⟩
 ·go_simp
  refine (HBi.out _).mono ?_
  rintro e wn ⟨rfl, hBn⟩
  try have HZ0 := vv (HZ0.out.below hBn)
  try have HR8 := vv (HR8.out.below hBn)
  have hbn := HB.out.trans (hBn.mono HB.out.size)
  have HB := vv hbn
  clear hBn hbn
  obtain ⟨wc, rfl⟩ := yx wn
  go_wp2_with fail
  refine hK.out _ _ ⟨(HF.out.below HB.out).c0, (HF.out.below HB.out).c1⟩ (fun hHeld => ?_)
  clear hK
  have hwr := HWR.out.1
  iterate 1
   refine sch_still (v := ?_) rfl (by rfl) ?_ ?_
   rotate_left
   ·intro w hSw; go_simp; with_reducible rfl
   simp only [Act.put, List.setIfInBounds_toArray, List.set_cons_zero, List.set_cons_succ]
  clear hwr
  have hwr := HWR.out.2
  iterate 1
   refine sch_still (v := ?_) rfl (by rfl) ?_ ?_
   rotate_left
   ·intro w hSw; go_simp; with_reducible rfl
   simp only [Act.put, List.setIfInBounds_toArray, List.set_cons_zero, List.set_cons_succ]
  clear hwr
  refine sch_two rfl (by rfl) rfl (by rfl) (fun K hK => ?_) (fun K hK => ?_)
  ·go_simp
   obtain ⟨z0, hBn⟩ := one_rat wc
   obtain ⟨g0, hg0⟩ := yx (wc.heap.size)
   have hge0 : w0.heap.size <= g0 := by have := HB.out.size; omega
   obtain ⟨wn, hwn⟩ := yx (wc.alloc ratZ)
   rw [<- hwn] at z0 hBn ⊢
   rw [<- hg0] at z0 ⊢
   clear hwn hg0
   try have HZ0 := vv (HZ0.out.below hBn)
   try have HR8 := vv (HR8.out.below hBn)
   have hbn := HB.out.trans (hBn.mono HB.out.size)
   have HB := vv hbn
   clear hBn hbn
   obtain ⟨wc, rfl⟩ := yx wn
   have HZ0 := vv z0
   clear z0
   go_wp2_with fail
   refine hK.out _ _ ⟨(HF.out.below HB.out).c0, (HF.out.below HB.out).c1⟩ (fun hHeld => ?_)
   clear hK
   refine sch_one rfl (by rfl) (fun K hK => ?_)
   go_simp
   refine (HPw.out _).mono ?_
   rintro e wn ⟨g8, rfl, hg8, hR8, hBn⟩
   try have HZ0 := vv (HZ0.out.below hBn)
   try have HR8 := vv (HR8.out.below hBn)
   have hbn := HB.out.trans (hBn.mono HB.out.size)
   have HB := vv hbn
   clear hBn hbn
   obtain ⟨wc, rfl⟩ := yx wn
   have HR8 := vv hR8
   clear hR8
   go_wp2_with fail
   refine hK.out _ _ ⟨(HF.out.below HB.out).c0, (HF.out.below HB.out).c1⟩ (fun hHeld => ?_)
   clear hK
   refine sch_done ?_
   go_wp2_with fail
   refine (B.MulR g0 gx g8 _ _ _ _ _ HZ0.out.sh (HX.out.below HB.out) HR8.out (HST.out.fs (Fs.of_nil HB.out)) (by exact HSX.out.1) HSX.out.2 (by exact HSP.out.1) HSP.out.2).mono ?_
   rintro e wn hP
   rw [HC.out] at hP
   have HBB := vv (hP.below HB.out HB.out.size hge0)
   obtain ⟨rfl, hR, -⟩ := hP
   have HR := vv hR
   clear hR
   go_wp2_with fail
   refine (B.Num g0 _ _ _ HR.out).mono ?_
   rintro e w5 ⟨g5, rfl, hg5, hI5, hB5⟩
   rw [HLp.out] at hI5
   have HI5 := vv hI5
   have HB5 := vn HBB hB5
   clear hI5 hB5
   go_wp2_with fail
   refine (B.Uint64 g5 0 _ _ HI5.out (by rw [Int.natAbs_natCast]; exact HM64.out)).mono ?_
   rintro e w' ⟨rfl, rfl⟩
   go_wp2
   go_ret
   exact ⟨by simp, HB0.out.trans (HB5.out.mono HB0.out.size)⟩
  ·go_simp
   refine (HPw.out _).mono ?_
   rintro e wn ⟨g8, rfl, hg8, hR8, hBn⟩
   try have HZ0 := vv (HZ0.out.below hBn)
   try have HR8 := vv (HR8.out.below hBn)
   have hbn := HB.out.trans (hBn.mono HB.out.size)
   have HB := vv hbn
   clear hBn hbn
   obtain ⟨wc, rfl⟩ := yx wn
   have HR8 := vv hR8
   clear hR8
   go_wp2_with fail
   refine hK.out _ _ ⟨(HF.out.below HB.out).c0, (HF.out.below HB.out).c1⟩ (fun hHeld => ?_)
   clear hK
   refine sch_one rfl (by rfl) (fun K hK => ?_)
   go_simp
   obtain ⟨z0, hBn⟩ := one_rat wc
   obtain ⟨g0, hg0⟩ := yx (wc.heap.size)
   have hge0 : w0.heap.size <= g0 := by have := HB.out.size; omega
   obtain ⟨wn, hwn⟩ := yx (wc.alloc ratZ)
   rw [<- hwn] at z0 hBn ⊢
   rw [<- hg0] at z0 ⊢
   clear hwn hg0
   try have HZ0 := vv (HZ0.out.below hBn)
   try have HR8 := vv (HR8.out.below hBn)
   have hbn := HB.out.trans (hBn.mono HB.out.size)
   have HB := vv hbn
   clear hBn hbn
   obtain ⟨wc, rfl⟩ := yx wn
   have HZ0 := vv z0
   clear z0
   go_wp2_with fail
   refine hK.out _ _ ⟨(HF.out.below HB.out).c0, (HF.out.below HB.out).c1⟩ (fun hHeld => ?_)
   clear hK
   refine sch_done ?_
   go_wp2_with fail
   refine (B.MulR g0 gx g8 _ _ _ _ _ HZ0.out.sh (HX.out.below HB.out) HR8.out (HST.out.fs (Fs.of_nil HB.out)) (by exact HSX.out.1) HSX.out.2 (by exact HSP.out.1) HSP.out.2).mono ?_
   rintro e wn hP
   rw [HC.out] at hP
   have HBB := vv (hP.below HB.out HB.out.size hge0)
   obtain ⟨rfl, hR, -⟩ := hP
   have HR := vv hR
   clear hR
   go_wp2_with fail
   refine (B.Num g0 _ _ _ HR.out).mono ?_
   rintro e w5 ⟨g5, rfl, hg5, hI5, hB5⟩
   rw [HLp.out] at hI5
   have HI5 := vv hI5
   have HB5 := vn HBB hB5
   clear hI5 hB5
   go_wp2_with fail
   refine (B.Uint64 g5 0 _ _ HI5.out (by rw [Int.natAbs_natCast]; exact HM64.out)).mono ?_
   rintro e w' ⟨rfl, rfl⟩
   go_wp2
   go_ret
   exact ⟨by simp, HB0.out.trans (HB5.out.mono HB0.out.size)⟩
set_option maxRecDepth 100000 in
set_option maxHeartbeats 1000000 in
theorem Pack_big (gx X Y n K R E F : Nat) (e' : Int) (w : World) (h1 : 2 <= E) (h2 : E <= 11) (h3 : 1 <= F) (h4 : F <= 52) (hx : RatAt w gx ((X : Nat) : Int) Y) (hX : 0 < X) (sX : Sm X) (sY : Sm Y)
  (hc : ¬ cmpI (X * p2 (bias E - 1)) (p2 (1 - bias E) * Y) < 0) (he : ilog X Y = e') (hlp : lp ((X * p2 (F - e') : Nat) : Int) (Y * p2 (-(F - e'))) = n) (hK : e' + bias E = K) (hK2 : K <= 4000) (hn : n < 18446744073709551616) (hR : K * 2 ^ F + n = R + 2 ^ F) (hR2 : K * 2 ^ F + n < 18446744073709551616) (hst : Std w) :
  Calls Tryz.prog 97 #[fm E F, .pointer (some ⟨gx, 0, none⟩)] w fun e w' => e = .returned (.int .u64 (R : Int)) /\ Below w.heap.size w w' := by
 have hb1 := bias_pos h1
 have hb2 := bias_le h2
 have HBi := vv fun w => Bias E F w h1 h2
 have HLe := vv fun w => Least E F w h1 h2
 have he1 : -2000 <= e' := by omega
 have he2 : e' <= 4000 := by omega
 have HPw := vv fun w => power (F - e') w (by omega) (by omega)
 have HWR : Hid (IntKind.i64.wrap (e' + bias E) = (K : Int)) := vv (by rw [hK]; exact IntWalk.i64_in _ (by omega))
 have HSX : Hid (Sz X /\ Sz Y) := vv ⟨sX.sz, sY.sz⟩
 have HSm : Hid (Sm X /\ Sm Y) := vv ⟨sX, sY⟩
 have HSP : Hid (Sz (p2 (F - e')) /\ Sz (p2 (-(F - e')))) := vv ⟨(Sm.p2 (by omega)).sz, (Sm.p2 (by omega)).sz⟩
 have HSL : Hid (Sz (p2 (1 - bias E)) /\ Sz (p2 (bias E - 1))) := vv ⟨(Sm.p2 (by omega)).sz, (Sm.p2 (by omega)).sz⟩
 have HC : Hid ((X : Int) * ((p2 (F - e') : Nat) : Int) = ((X * p2 (F - e') : Nat) : Int)) := vv (by rw [Int.natCast_mul])
 have HLp := vv hlp
 have HM64 := vv hn
 have HE := vv he
 have HX0 := vv hX
 have HCm := vv hc
 have HVal : Hid (IntKind.u64.wrap (IntKind.u64.wrap (IntKind.u64.wrap ((K : Int) * 2 ^ F) + (n : Int)) - IntKind.u64.wrap (2 ^ F)) = (R : Int)) := by
  refine vv ?_
  have e1 : (K : Int) * 2 ^ F = ((K * 2 ^ F : Nat) : Int) := by rw [Int.natCast_mul, Int.natCast_pow]; rfl
  rw [e1, wu_pow (by omega), IntKind.wrap_u64, IntKind.wrap_u64, IntKind.wrap_u64]
  clear e1
  generalize K * 2 ^ F = P at *
  generalize 2 ^ F = T at *
  omega
 obtain ⟨w0, hw0⟩ := yx (w.alloc (.cells #[.int .i64 (E : Int), .int .i64 (F : Int)] 23))
 have HB0 : Hid (Below w.heap.size w w0) := vv (by rw [hw0]; exact (Below.refl _ w).alloc (Nat.le_refl _) _)
 have HF : Hid (FmAt w0 w.heap.size E F) := vv (by rw [hw0]; exact FmAt.made w _ _ _)
 have HST := vv (hst.fs (Fs.of_nil HB0.out))
 have HX := vv (hx.below HB0.out)
 have HW0 := vv hw0
 clear hw0 hst hx h1 h2 sX sY he hlp hK hn hR hR2 hX
 go_enter Tryz.func97, Tryz.ntmps97
 have hlt0 := HF.out.lt
 have f0 := HF.out.c0
 have f1 := HF.out.c1
 clear hc
 go_wp2_with fail
 rw [<- HW0.out]
 go_wp2_with fail
 refine (HLe.out _).mono ?_
 rintro e w1 ⟨g1, rfl, hg1, hR1, hB1⟩
 have HR1 := vv hR1
 have HB1 := vv hB1
 clear hR1 hB1
 go_wp2_with fail
 refine (B.CmpR gx g1 _ _ _ _ _ (HX.out.below HB1.out) HR1.out HSX.out.1 HSX.out.2 HSL.out.1 HSL.out.2).mono ?_
 rintro e w2 ⟨rfl, hB2⟩
 obtain ⟨t, ht⟩ := yx (cmpI (X * p2 (bias E - 1)) (p2 (1 - bias E) * Y))
 have htd : decide (t < 0) = false := by rw [ht]; exact decide_eq_false (by have := HCm.out; omega)
 rw [<- ht]
 have HB := vn HB1 hB2
 clear hB2 f0 f1 hlt0 ht
 go_wp2_with fail
 refine (log gx X Y _ (HX.out.below HB.out) HX0.out HSm.out.1 HSm.out.2).mono ?_
 rintro e w3 ⟨rfl, hB3⟩
 rw [HE.out]
 have HB := vn HB hB3
 have f1 := (HF.out.below HB.out).c1
 have hlt3 := (HF.out.below HB.out).lt
 clear hB3 htd
 go_wp2_with fail
 obtain ⟨z0, hz0⟩ := one_rat w3
 obtain ⟨w4, hw4⟩ := yx (w3.alloc ratZ)
 rw [<- hw4] at z0 hz0 ⊢
 have HZ := vv z0
 have HB4 := vn HB hz0
 have hs3 := HB.out.size
 have f1' := (HF.out.below HB4.out).c1
 clear z0 hz0 hw4 f1
 go_wp2_with fail
 refine (HPw.out _).mono ?_
 rintro e w5 ⟨g5, rfl, hg5, hR5, hB5⟩
 have HR5 := vv hR5
 have HZ := vv (HZ.out.below hB5)
 have HB5 := vn HB4 hB5
 clear hR5 hB5 f1'
 go_wp2_with fail
 refine (B.MulR w3.heap.size gx g5 _ _ _ _ _ HZ.out.sh (HX.out.below HB5.out) HR5.out (HST.out.fs (Fs.of_nil HB5.out)) (by exact HSX.out.1) HSX.out.2 (by exact HSP.out.1) HSP.out.2).mono ?_
 rintro e w6 hP
 rw [HC.out] at hP
 have HB6 := vv (hP.below HB5.out HB5.out.size hs3)
 obtain ⟨rfl, hR, -⟩ := hP
 have HR := vv hR
 have f0 := (HF.out.below HB6.out).c0
 have f1 := (HF.out.below HB6.out).c1
 have HF6 := vv (HF.out.below HB6.out)
 have hlt6 := HF6.out.lt
 clear hR
 go_wp2_with fail
 refine wp_region_sch (fun w' => w'.cell? ⟨w.heap.size, 0, none⟩ = some (.int .i64 (E : Int)) /\ w'.cell? ⟨w.heap.size, 1, none⟩ = some (.int .i64 (F : Int))) 18
  (.still 0 (.still 1 (.still 5 (.still 6 (.still 7 (.still 9 (.still 13 (.still 14 (.still 15 (.still 16 (.one 2 (.still 3 (.still 4 (.still 8 (.one 10 (.one 11 (.still 12 (.still 17 .done)))))))))))))))))) (by kernel_rfl) (by kernel_rfl) (fun _ _ d _ _ h => by cases d <;> exact h) ⟨f0, f1⟩ (fun hS0 => ?_)
 iterate 10
  refine sch_still (v := ?_) rfl (by rfl) ?_ ?_
  rotate_left
  ·intro w hSw; go_simp; with_reducible rfl
  simp only [Act.put, List.setIfInBounds_toArray, List.set_cons_zero, List.set_cons_succ]
 refine sch_one rfl (by rfl) (fun K hK => ?_)
 go_simp
 refine (HBi.out _).mono ?_
 rintro e w7 ⟨rfl, hB7⟩
 have hB7 : Below w6.heap.size w6 w7 := ⟨hB7.os, hB7.tape, hB7.output, hB7.size, hB7.block⟩
 have HR := vv (HR.out.below hB7)
 have HF7 := vv (HF6.out.below hB7)
 have HB7 := vn HB6 hB7
 clear hB7 f0 f1
 go_wp2_with fail
 refine hK.out _ _ ⟨HF7.out.c0, HF7.out.c1⟩ (fun hHeld => ?_)
 clear hK
 have hwr := HWR.out
 iterate 1
  refine sch_still (v := ?_) rfl (by rfl) ?_ ?_
  rotate_left
  ·intro w hSw; go_simp; with_reducible rfl
  simp only [Act.put, List.setIfInBounds_toArray, List.set_cons_zero, List.set_cons_succ]
 clear hwr
 iterate 2
  refine sch_still (v := ?_) rfl (by rfl) ?_ ?_
  rotate_left
  ·intro w hSw; go_simp; with_reducible rfl
  simp only [Act.put, List.setIfInBounds_toArray, List.set_cons_zero, List.set_cons_succ]
 refine sch_one rfl (by rfl) (fun K hK => ?_)
 go_simp
 refine (B.Num _ _ _ _ HR.out).mono ?_
 rintro e w8 ⟨g8, rfl, hg8, hI8, hB8⟩
 rw [HLp.out] at hI8
 have HI8 := vv hI8
 have HF8 := vv (HF7.out.below hB8)
 have HB8 := vn HB7 hB8
 clear hI8 hB8
 go_wp2_with fail
 refine hK.out _ _ ⟨HF8.out.c0, HF8.out.c1⟩ (fun hHeld => ?_)
 clear hK
 refine sch_one rfl (by rfl) (fun K hK => ?_)
 go_simp
 refine (B.Uint64 g8 0 _ _ HI8.out (by rw [Int.natAbs_natCast]; exact HM64.out)).mono ?_
 rintro e w' ⟨rfl, rfl⟩
 go_wp2_with fail
 refine hK.out _ _ ⟨HF8.out.c0, HF8.out.c1⟩ (fun hHeld => ?_)
 clear hK
 iterate 2
  refine sch_still (v := ?_) rfl (by rfl) ?_ ?_
  rotate_left
  ·intro w hSw; go_simp; with_reducible rfl
  simp only [Act.put, List.setIfInBounds_toArray, List.set_cons_zero, List.set_cons_succ]
 refine sch_done ?_
 go_wp2
 go_ret
 have hmin : min F 64 = F := by omega
 exact ⟨retI (by rw [hmin]; exact HVal.out), HB0.out.trans (HB8.out.mono HB0.out.size)⟩
theorem bl_p2 (n : Int) (h : n <= 4000) : bl (p2 n) <= 4001 := by unfold Go.Proofs.YtbfmpcfcmbjeeaaGreatDoor.p2; rw [bl_pow]; omega
theorem bl_lt {m k : Nat} (h : m <= 2 ^ k) : bl m <= k + 1 := bl_le (by rw [Nat.pow_succ]; have := Nat.two_pow_pos k; omega)
theorem Pack (gx m E F : Nat) (l : Int) (w : World) (h1 : 2 <= E) (h2 : E <= 11) (h3 : 1 <= F) (h4 : F <= 52) (hx : RatAt w gx ((m * p2 (l - F) : Nat) : Int) (p2 (F - l))) (hl : 1 - bias E <= l) (hl2 : l <= bias E) (hm : m <= 2 ^ (F + 1)) (hm2 : 1 - bias E < l -> 2 ^ F <= m) (hst : Std w) :
  Calls Tryz.prog 97 #[fm E F, .pointer (some ⟨gx, 0, none⟩)] w fun e w' => e = .returned (.int .u64 ((m + (l + bias E - 1).toNat * 2 ^ F : Nat) : Int)) /\ Below w.heap.size w w' := by
 have hb1 := bias_pos h1
 have hb2 := bias_le h2
 have hli := least_iff (F := F) (m := m) h1 hl hm2
 have h52 : 2 ^ F <= 2 ^ 52 := Nat.pow_le_pow_right (by omega) h4
 have hF0 := Nat.two_pow_pos F
 by_cases hs : l = 1 - bias E /\ m < 2 ^ F
 ·obtain ⟨rfl, hm⟩ := hs
  have := Pack_small gx m E F w h1 h2 h3 h4 hx hm hst
  rw [show (1 - bias E + bias E - 1).toNat = 0 by omega, Nat.zero_mul, Nat.add_zero]
  exact this
 have hm1 : 2 ^ F <= m := by
  rcases Int.lt_or_le (1 - bias E) l with h | h
  ·exact hm2 h
  ·rcases Nat.lt_or_ge m (2 ^ F) with k | k
   ·exact absurd ⟨by omega, k⟩ hs
   ·exact k
 have hc : ¬ cmpI (m * p2 (l - F) * p2 (bias E - 1)) (p2 (1 - bias E) * p2 (F - l)) < 0 := fun h => hs (hli.1 h)
 have sX : Sm (m * p2 (l - F)) := by
  have a1 := bl_mul_le m (p2 (l - F))
  have a2 := bl_p2 (l - F) (by omega)
  have a3 := bl_lt hm
  unfold Sm; omega
 have sY : Sm (p2 (F - l)) := Sm.p2 (by omega)
 have hX0 : 0 < m * p2 (l - F) := Nat.mul_pos (by omega) (p2_pos _)
 have hKb : (l + bias E - 1).toNat * 2 ^ F <= 2045 * 2 ^ F := Nat.mul_le_mul_right _ (by omega)
 have hs1 : 2 ^ (F + 1) = 2 * 2 ^ F := by rw [Nat.pow_succ, Nat.mul_comm]
 rcases Nat.lt_or_ge m (2 ^ (F + 1)) with h5 | h5
 ·have e1 : (l + bias E).toNat = (l + bias E - 1).toNat + 1 := by omega
  have e2 : (l + bias E).toNat * 2 ^ F = (l + bias E - 1).toNat * 2 ^ F + 2 ^ F := by rw [e1, Nat.add_mul, Nat.one_mul]
  exact Pack_big gx _ _ m (l + bias E).toNat _ E F l w h1 h2 h3 h4 hx hX0 sX sY hc (pack_log hm1 h5) pack_num (by omega) (by omega) (by omega) (by rw [e2]; omega) (by rw [e2]; omega) hst
 ·obtain rfl : m = 2 ^ (F + 1) := by omega
  have e1 : (l + 1 + bias E).toNat = (l + bias E - 1).toNat + 2 := by omega
  have e2 : (l + 1 + bias E).toNat * 2 ^ F = (l + bias E - 1).toNat * 2 ^ F + 2 * 2 ^ F := by rw [e1, Nat.add_mul]
  exact Pack_big gx _ _ (2 ^ F) (l + 1 + bias E).toNat _ E F (l + 1) w h1 h2 h3 h4 hx hX0 sX sY hc pack_log' pack_num' (by omega) (by omega) (by omega) (by rw [e2]; omega) (by rw [e2]; omega) hst
theorem ilog_bd {a b : Nat} : (bl a : Int) - bl b - 1 <= ilog a b /\ ilog a b <= (bl a : Int) - bl b := by unfold ilog; split <;> omega
def BfPost (S : Nat) (o : Nat × Nat) (w : World) (e : Ending) (w' : World) : Prop := e = .returned (.tuple #[.int .u64 ((S + o.1 : Nat) : Int), .int .u8 (o.2 : Int)]) /\ Below w.heap.size w w'
theorem ret2 {k l : IntKind} {a b c d : Int} (h : a = b) (h' : c = d) : Ending.returned (.tuple #[.int k a, .int l c]) = .returned (.tuple #[.int k b, .int l d]) := by rw [h, h']
def sgb (E F : Nat) (b : Bool) : Nat := if b then 2 ^ (E + F) else 0
theorem Rat_zero (gx b E F : Nat) (neg : Bool) (mode : Nat) (w : World) (h1 : 2 <= E) (h2 : E <= 11) (h3 : 1 <= F) (h4 : F <= 52) (hx : RatAt w gx 0 b) :
  Calls Tryz.prog 49 #[fm E F, .pointer (some ⟨gx, 0, none⟩), .bool neg, .int .u8 (mode : Int)] w (BfPost (sgb E F neg) (0, 0) w) := by
 obtain ⟨w0, hw0⟩ := yx (w.alloc (.cells #[.int .i64 (E : Int), .int .i64 (F : Int)] 23))
 have HB0 : Hid (Below w.heap.size w w0) := vv (by rw [hw0]; exact (Below.refl _ w).alloc (Nat.le_refl _) _)
 have HF : Hid (FmAt w0 w.heap.size E F) := vv (by rw [hw0]; exact FmAt.made w _ _ _)
 have HX := vv (B.RSign gx 0 b w0 (hx.below HB0.out))
 have HW0 := vv hw0
 have HSn := vv fun w => Sign E F w h1 h2 h3 h4
 have HXL := vv fun w' (hb : Below w0.heap.size w0 w') => B.RSign gx 0 b w' ((hx.below HB0.out).below hb)
 clear hx hw0 h1 h2 h3 h4
 obtain ⟨f0, f1, hlt⟩ := HF.out
 go_enter Tryz.func49, Tryz.ntmps49
 go_wp2_with fail
 rw [<- HW0.out]
 refine HX.out.mono ?_
 rintro e w' ⟨rfl, rfl⟩
 rw [Int.sign_zero]
 go_wp2_with fail
 refine HX.out.mono ?_
 rintro e w' ⟨rfl, rfl⟩
 rw [Int.sign_zero]
 cases neg
 ·go_wp2_with fail
  refine HX.out.mono ?_
  rintro e w' ⟨rfl, rfl⟩
  rw [Int.sign_zero]
  go_wp2
  go_ret2
  exact ⟨by simp [sgb], HB0.out⟩
 ·go_wp2_with fail
  refine (HSn.out _).mono ?_
  rintro e w1 ⟨rfl, hB1⟩
  have HB1 := vv hB1
  clear f0 f1 hlt hB1
  go_wp2_with fail
  refine (HXL.out _ HB1.out).mono ?_
  rintro e w' ⟨rfl, rfl⟩
  rw [Int.sign_zero]
  go_wp2
  go_ret2
  exact ⟨by simp [sgb], HB0.out.trans (HB1.out.mono HB0.out.size)⟩
theorem out_over {E F : Nat} {neg : Bool} {mode a b : Nat} (h : over E F neg mode a b = true) : out E F neg mode a b = (if inner neg mode then inf_ E F - 1 else inf_ E F, 3) := by unfold out; rw [if_pos h]
theorem out_in {E F : Nat} {neg : Bool} {mode a b : Nat} (h : over E F neg mode a b = false) : out E F neg mode a b = (bits_ E F neg mode a b, flags_ E F neg mode a b) := by unfold out; rw [h]; rfl
theorem low_in {E F : Nat} {neg : Bool} {mode a b : Nat} (h : over E F neg mode a b = false) : low_ E a b <= bias E := by
 unfold over at h
 rw [Bool.or_eq_false_iff, decide_eq_false_iff_not] at h
 have := h.1
 omega
theorem bits_lt {E F : Nat} {neg : Bool} {mode a b : Nat} (h : out E F neg mode a b = (bits_ E F neg mode a b, flags_ E F neg mode a b)) : mant E F neg mode a b + (low_ E a b + bias E - 1).toNat * 2 ^ F < 2 ^ (E + F) := by
 have h3' : 2 ^ F <= 2 ^ (E + F) := Nat.pow_le_pow_right (by omega) (by omega)
 have hF := Nat.two_pow_pos F
 by_cases ho : over E F neg mode a b = true
 ·have h2 := out_over ho
  rw [h] at h2
  have h4 : bits_ E F neg mode a b = if inner neg mode then inf_ E F - 1 else inf_ E F := congrArg Prod.fst h2
  show bits_ E F neg mode a b < _
  rw [h4]
  unfold inf_
  split <;> omega
 ·unfold over at ho
  have h5 : ¬ inf_ E F <= bits_ E F neg mode a b := fun k => ho (by rw [decide_eq_true k, Bool.or_true])
  show bits_ E F neg mode a b < _
  unfold inf_ at h5
  omega
set_option maxRecDepth 100000 in
set_option maxHeartbeats 4000000 in
theorem Rat_pos (gx b E F X : Nat) (neg : Bool) (mode : Nat) (w : World) (h1 : 2 <= E) (h2 : E <= 11) (h3 : 1 <= F) (h4 : F <= 52) (hx : RatAt w gx (X : Int) b) (hX : 0 < X) (sX : bl X <= 1073741824) (sb : bl b <= 1073741824) (hst : Std w) (hm : mode <= 4) :
  Calls Tryz.prog 49 #[fm E F, .pointer (some ⟨gx, 0, none⟩), .bool neg, .int .u8 (mode : Int)] w (BfPost (sgb E F false) (out E F false mode X b) w) := by
 have HSg : Hid ((X : Int).sign = 1) := vv (Int.sign_eq_one_of_pos (by omega))
 have HAbs : Hid (((X : Int).natAbs : Int) = (X : Int)) := vv (by omega)
 have hb1 := bias_pos h1
 have hb2 := bias_le h2
 have hb0 := hx.pos
 have hlb := ilog_bd (a := X) (b := b)
 have hlo : -1073741900 <= low_ E X b /\ low_ E X b <= 1073742900 := by unfold low_; omega
 have hml := mant_le (E := E) (F := F) (neg := false) (mode := mode) hX hb0
 have hfl := free_le (F := F) (neg := false) (mode := mode) hX hb0
 obtain ⟨S, hS⟩ : ∃ S : Nat, S = 2 ^ (E + F) := ⟨_, rfl⟩
 obtain ⟨V, hV⟩ : ∃ V : Nat, V = if inner false mode then inf_ E F - 1 else inf_ E F := ⟨_, rfl⟩
 obtain ⟨W, hW⟩ : ∃ W : Nat, W = mant E F false mode X b + (low_ E X b + bias E - 1).toNat * 2 ^ F := ⟨_, rfl⟩
 have h63 : 2 ^ (E + F) <= 2 ^ 63 := Nat.pow_le_pow_right (by omega) (by omega)
 have HAdd : Hid (∀ v : Nat, v < 2 ^ (E + F) -> IntKind.u64.wrap ((v : Int)) = ((sgb E F false + v : Nat) : Int)) := vv fun v hv => by
  rw [<- hS] at h63 hv
  rw [IntKind.wrap_u64]
  show _ = ((0 + v : Nat) : Int)
  omega
 have HAm : Hid (V < 2 ^ (E + F)) := vv (by
  have := Nat.two_pow_pos F
  have h3' : 2 ^ F <= 2 ^ (E + F) := Nat.pow_le_pow_right (by omega) (by omega)
  rw [hV]; unfold inf_; split <;> omega)
 have HLt : Hid (low_ E X b <= bias E -> out E F false mode X b = (bits_ E F false mode X b, flags_ E F false mode X b) -> W < 2 ^ (E + F)) := vv fun _ ho => hW ▸ bits_lt ho
 have HWR : Hid (IntKind.i64.wrap (1 - bias E) = 1 - bias E /\ IntKind.i64.wrap (low_ E X b - (F : Int)) = low_ E X b - F /\ IntKind.i64.wrap (ilog X b - (F : Int)) = ilog X b - F) := vv ⟨IntWalk.i64_in _ (by omega), IntWalk.i64_in _ (by omega), IntWalk.i64_in _ (by omega)⟩
 have HLow : Hid (max (ilog X b) (1 - bias E) = low_ E X b) := vv rfl
 have HU : Hid (∀ g w, RatAt w g (X : Int) b -> Std w -> Calls Tryz.prog 91 #[.pointer (some ⟨g, 0, none⟩), .int .i64 (low_ E X b - F), .bool false, .int .u8 (mode : Int)] w (NewRat' ((mant E F false mode X b * p2 (low_ E X b - F) : Nat) : Int) (p2 (F - low_ E X b)) w)) := vv fun g w hg hs => by
  have := unit g X b (low_ E X b - F) false mode w hg (by omega) (by omega) sX sb hs hm
  rw [show -(low_ E X b - (F : Int)) = F - low_ E X b by omega] at this
  exact this
 have HU2 : Hid (∀ g w, RatAt w g (X : Int) b -> Std w -> Calls Tryz.prog 91 #[.pointer (some ⟨g, 0, none⟩), .int .i64 (ilog X b - F), .bool false, .int .u8 (mode : Int)] w (NewRat' ((free_ F false mode X b * p2 (ilog X b - F) : Nat) : Int) (p2 (F - ilog X b)) w)) := vv fun g w hg hs => by
  have := unit g X b (ilog X b - F) false mode w hg (by omega) (by omega) sX sb hs hm
  rw [show -(ilog X b - (F : Int)) = F - ilog X b by omega] at this
  exact this
 have hM : bl (mant E F false mode X b) <= F + 2 := bl_lt hml
 have hFr : bl (free_ F false mode X b) <= F + 2 := bl_lt hfl
 have b1 : bl (p2 (low_ E X b - F)) <= 1073742902 := by unfold Go.Proofs.YtbfmpcfcmbjeeaaGreatDoor.p2; rw [bl_pow]; omega
 have b2 : bl (p2 (F - low_ E X b)) <= 1073742902 := by unfold Go.Proofs.YtbfmpcfcmbjeeaaGreatDoor.p2; rw [bl_pow]; omega
 have b3 : bl (p2 (ilog X b - F)) <= 1073742902 := by unfold Go.Proofs.YtbfmpcfcmbjeeaaGreatDoor.p2; rw [bl_pow]; omega
 have b4 : bl (p2 (F - ilog X b)) <= 1073742902 := by unfold Go.Proofs.YtbfmpcfcmbjeeaaGreatDoor.p2; rw [bl_pow]; omega
 have b5 : bl (p2 (bias E - F)) <= 4001 := bl_p2 _ (by omega)
 have b6 : bl (p2 (F - bias E)) <= 4001 := bl_p2 _ (by omega)
 have b7 : bl (p2 (1 - bias E)) <= 4001 := bl_p2 _ (by omega)
 have b8 : bl (p2 (bias E - 1)) <= 4001 := bl_p2 _ (by omega)
 have b9 : bl (2 ^ (F + 1) - 1) <= F + 2 := bl_lt (by omega)
 have c1 := bl_mul_le (mant E F false mode X b) (p2 (low_ E X b - F))
 have c2 := bl_mul_le (free_ F false mode X b) (p2 (ilog X b - F))
 have c3 := bl_mul_le (2 ^ (F + 1) - 1) (p2 (bias E - F))
 have HSZ : Hid (Sz (mant E F false mode X b * p2 (low_ E X b - F)) /\ Sz (p2 (F - low_ E X b)) /\ Sz ((2 ^ (F + 1) - 1) * p2 (bias E - F)) /\ Sz (p2 (F - bias E))) := vv (by unfold Sz; exact ⟨by omega, by omega, by omega, by omega⟩)
 have HSZ2 : Hid (Sz (free_ F false mode X b * p2 (ilog X b - F)) /\ Sz (p2 (F - ilog X b)) /\ Sz (p2 (1 - bias E)) /\ Sz (p2 (bias E - 1))) := vv (by unfold Sz; exact ⟨by omega, by omega, by omega, by omega⟩)
 have HSm : Hid (Sm X /\ Sm b) := vv (by unfold Sm; exact ⟨by omega, by omega⟩)
 have HX0 := vv hX
 have HSa0 := vv (same_iff (E := E) (F := F) (neg := false) (mode := mode) (a := X) hb0)
 have HUn0 := vv (under_iff (E := E) (F := F) (neg := false) (mode := mode) hX hb0 h1)
 have HOv0 := vv (over_iff (E := E) (F := F) (neg := false) (mode := mode) hX hb0 h1)
 have HPk : Hid (∀ g w, RatAt w g ((mant E F false mode X b * p2 (low_ E X b - F) : Nat) : Int) (p2 (F - low_ E X b)) -> low_ E X b <= bias E -> Std w -> Calls Tryz.prog 97 #[fm E F, .pointer (some ⟨g, 0, none⟩)] w fun e w' => e = .returned (.int .u64 (W : Int)) /\ Below w.heap.size w w') := vv fun g w hg hl hs => hW ▸
  Pack g _ E F _ w h1 h2 h3 h4 hg low_ge hl hml (fun h => mant_ge hX hb0 (by have := low_gt h; omega)) hs
 have HGr := vv fun w hs => Greatest E F w h1 h2 h3 h4 hs
 have HLst := vv fun w => Least E F w h1 h2
 have HBi := vv fun w => Bias E F w h1 h2
 have HBy : Hid (∀ w, Calls Tryz.prog 96 #[fm E F, .bool false, .int .u8 (mode : Int)] w fun e w' => e = .returned (.int .u64 (V : Int)) /\ Below w.heap.size w w') := vv fun w => hV ▸ beyond E F false mode w h1 h2 h3 h4 hm
 have HSn : Hid (∀ w, Calls Tryz.prog 88 #[fm E F] w fun e w' => e = .returned (.int .u64 (S : Int)) /\ Below w.heap.size w w') := vv fun w => hS ▸ Sign E F w h1 h2 h3 h4
 have HOv1 : Hid (over E F false mode X b = true -> out E F false mode X b = (V, 3)) := vv fun h => hV ▸ out_over h
 have HOv2 : Hid (over E F false mode X b = false -> out E F false mode X b = (bits_ E F false mode X b, flags_ E F false mode X b) /\ bits_ E F false mode X b = W) := vv fun h => ⟨out_in h, hW ▸ rfl⟩
 obtain ⟨w0, hw0⟩ := yx (w.alloc (.cells #[.int .i64 (E : Int), .int .i64 (F : Int)] 23))
 have HB0 : Hid (Below w.heap.size w w0) := vv (by rw [hw0]; exact (Below.refl _ w).alloc (Nat.le_refl _) _)
 have HF : Hid (FmAt w0 w.heap.size E F) := vv (by rw [hw0]; exact FmAt.made w _ _ _)
 have HST := vv (hst.fs (Fs.of_nil HB0.out))
 have HX := vv (hx.below HB0.out)
 have HW0 := vv hw0
 have HXL := vv fun w' (hb : Below w0.heap.size w0 w') => B.RSign gx _ b w' ((hx.below HB0.out).below hb)
 clear hS hV hW h63 hx hst hw0 hml hfl hM hFr b1 b2 b3 b4 b5 b6 b7 b8 b9 c1 c2 c3 hlo hlb sX sb hX h1 h2 hm hb0
 have HB : Hid (Below w0.heap.size w0 w0) := vv (Below.refl _ _)
 obtain ⟨f0, f1, hlt⟩ := HF.out
 go_enter Tryz.func49, Tryz.ntmps49
 go_wp2_with fail
 rw [<- HW0.out]
 go_wp2_with fail
 refine (HXL.out _ HB.out).mono ?_
 rintro e w' ⟨rfl, rfl⟩
 rw [HSg.out]
 go_wp2_with fail
 refine (HXL.out _ HB.out).mono ?_
 rintro e w' ⟨rfl, rfl⟩
 rw [HSg.out]
 go_wp2_with fail
 refine (HXL.out _ HB.out).mono ?_
 rintro e w' ⟨rfl, rfl⟩
 rw [HSg.out]
 go_wp2_with fail
 refine (HXL.out _ HB.out).mono ?_
 rintro e w' ⟨rfl, rfl⟩
 rw [HSg.out]
 obtain ⟨wc, hwc⟩ : ∃ x : World, x = w0 := ⟨_, rfl⟩
 have HB : Hid (Below w0.heap.size w0 wc) := vv (by rw [hwc]; exact Below.refl _ _)
 rw [<- hwc]
 clear hwc f0 f1 hlt
 go_wp2_with fail
 obtain ⟨z0, hBn⟩ := one_rat wc
 obtain ⟨gA, hgA⟩ := yx (wc.heap.size)
 have hgeA : w0.heap.size <= gA := by have := HB.out.size; omega
 obtain ⟨wn, hwn⟩ := yx (wc.alloc ratZ)
 rw [<- hwn] at z0 hBn ⊢
 rw [<- hgA] at z0 ⊢
 have HZ := vv z0
 have HB := vn HB hBn
 clear hwn hgA z0 hBn
 refine (B.AbsR gA gx _ _ _ HZ.out.sh (HX.out.below HB.out)).mono ?_
 rintro e wc hP
 rw [HAbs.out] at hP
 have hbn := hP.below HB.out HB.out.size hgeA
 have HB := vv hbn
 obtain ⟨rfl, hRA, -⟩ := hP
 have HRA := vv hRA
 clear hRA hbn
 go_wp2_with fail
 refine (log gA X b _ HRA.out HX0.out HSm.out.1 HSm.out.2).mono ?_
 rintro e wn ⟨rfl, hBn⟩
 have HRA := vv (HRA.out.below hBn)
 have hbn := HB.out.trans (hBn.mono HB.out.size)
 have HB := vv hbn
 clear hBn hbn
 obtain ⟨wc, rfl⟩ := yx wn
 have f0 := (HF.out.below HB.out).c0
 have f1 := (HF.out.below HB.out).c1
 go_wp2_with fail
 refine wp_region_sch (fun w' => w'.cell? ⟨w.heap.size, 0, none⟩ = some (.int .i64 (E : Int)) /\ w'.cell? ⟨w.heap.size, 1, none⟩ = some (.int .i64 (F : Int))) 11
  (.still 0 (.still 1 (.still 2 (.still 6 (.still 7 (.still 9 (.still 10 (.one 3 (.still 4 (.still 5 (.still 8 .done))))))))))) (by kernel_rfl) (by kernel_rfl) (fun _ _ d _ _ h => by cases d <;> exact h) ⟨f0, f1⟩ (fun hS0 => ?_)
 iterate 7
  refine sch_still (v := ?_) rfl (by rfl) ?_ ?_
  rotate_left
  ·intro w hSw; go_simp; with_reducible rfl
  simp only [Act.put, List.setIfInBounds_toArray, List.set_cons_zero, List.set_cons_succ]
 refine sch_one rfl (by rfl) (fun K hK => ?_)
 go_simp
 refine (HBi.out _).mono ?_
 rintro e wn ⟨rfl, hBn⟩
 have hBn : Below wc.heap.size wc wn := ⟨hBn.os, hBn.tape, hBn.output, hBn.size, hBn.block⟩
 clear f0 f1
 have HRA := vv (HRA.out.below hBn)
 have hbn := HB.out.trans (hBn.mono HB.out.size)
 have HB := vv hbn
 clear hBn hbn
 obtain ⟨wc, rfl⟩ := yx wn
 go_wp2_with fail
 refine hK.out _ _ ⟨(HF.out.below HB.out).c0, (HF.out.below HB.out).c1⟩ (fun hHeld => ?_)
 clear hK
 have hwr := HWR.out.1
 iterate 1
  refine sch_still (v := ?_) rfl (by rfl) ?_ ?_
  rotate_left
  ·intro w hSw; go_simp; with_reducible rfl
  simp only [Act.put, List.setIfInBounds_toArray, List.set_cons_zero, List.set_cons_succ]
 clear hwr
 iterate 1
  refine sch_still (v := ?_) rfl (by rfl) ?_ ?_
  rotate_left
  ·intro w hSw; go_simp; with_reducible rfl
  simp only [Act.put, List.setIfInBounds_toArray, List.set_cons_zero, List.set_cons_succ]
 rw [HLow.out]
 have hwr := HWR.out.2.1
 iterate 1
  refine sch_still (v := ?_) rfl (by rfl) ?_ ?_
  rotate_left
  ·intro w hSw; go_simp; with_reducible rfl
  simp only [Act.put, List.setIfInBounds_toArray, List.set_cons_zero, List.set_cons_succ]
 clear hwr
 refine sch_done ?_
 go_wp2_with fail
 refine (HU.out gA _ HRA.out (HST.out.fs (Fs.of_nil HB.out))).mono ?_
 rintro e wn ⟨gY, rfl, hgY, hRY, hBn⟩
 have HRA := vv (HRA.out.below hBn)
 have hbn := HB.out.trans (hBn.mono HB.out.size)
 have HB := vv hbn
 clear hBn hbn
 obtain ⟨wc, rfl⟩ := yx wn
 have HRY := vv hRY
 clear hRY hS0
 go_wp2_with fail
 refine (B.CmpR gY gA _ _ _ _ _ HRY.out HRA.out HSZ.out.1 HSZ.out.2.1 HSm.out.1.sz HSm.out.2.sz).mono ?_
 rintro e wn ⟨rfl, hBn⟩
 try have HRU := vv (HRU.out.below hBn)
 try have HRL := vv (HRL.out.below hBn)
 have HRY := vv (HRY.out.below hBn)
 have HRA := vv (HRA.out.below hBn)
 have hbn := HB.out.trans (hBn.mono HB.out.size)
 have HB := vv hbn
 clear hBn hbn
 obtain ⟨wc, rfl⟩ := yx wn
 obtain ⟨t1, ht1⟩ := yx (cmpI (mant E F false mode X b * p2 (low_ E X b - F) * b) (X * p2 (F - low_ E X b)))
 rw [<- ht1]
 have HSa := vv HSa0.out
 rw [<- ht1] at HSa
 clear ht1
 by_cases hr : rest_ E F X b = 0
 ·have hd1 : (t1 == 0) = true := by rw [HSa.out.2 hr]; rfl
  have hd1' : (t1 != 0) = false := by rw [HSa.out.2 hr]; rfl
  have HFl : Hid (flags_ E F false mode X b = 0) := vv (if_pos hr)
  clear hr
  obtain ⟨f0, f1, hlt⟩ := (HF.out.below HB.out)
  go_wp2_with fail
  refine (HGr.out _ (HST.out.fs (Fs.of_nil HB.out))).mono ?_
  rintro e wn ⟨gG, rfl, hgG, hRG, hBn⟩
  have HRG := vv hRG
  try have HRU := vv (HRU.out.below hBn)
  try have HRL := vv (HRL.out.below hBn)
  have HRY := vv (HRY.out.below hBn)
  have HRA := vv (HRA.out.below hBn)
  have hbn := HB.out.trans (hBn.mono HB.out.size)
  have HB := vv hbn
  clear hBn hbn
  obtain ⟨wc, rfl⟩ := yx wn
  go_wp2_with fail
  refine (B.CmpR gY gG _ _ _ _ _ HRY.out HRG.out HSZ.out.1 HSZ.out.2.1 HSZ.out.2.2.1 HSZ.out.2.2.2).mono ?_
  rintro e wn ⟨rfl, hBn⟩
  try have HRU := vv (HRU.out.below hBn)
  try have HRL := vv (HRL.out.below hBn)
  have HRY := vv (HRY.out.below hBn)
  have HRA := vv (HRA.out.below hBn)
  have hbn := HB.out.trans (hBn.mono HB.out.size)
  have HB := vv hbn
  clear hBn hbn
  obtain ⟨wc, rfl⟩ := yx wn
  obtain ⟨t2, ht2⟩ := yx (cmpI (mant E F false mode X b * p2 (low_ E X b - F) * p2 (F - bias E)) ((2 ^ (F + 1) - 1) * p2 (bias E - F) * p2 (F - low_ E X b)))
  rw [<- ht2]
  have HOv := vv HOv0.out
  rw [<- ht2] at HOv
  obtain ⟨f0, f1, hlt⟩ := (HF.out.below HB.out)
  clear ht2
  by_cases ho : over E F false mode X b = true
  ·have hd2 : decide (0 < t2) = true := decide_eq_true (HOv.out.2 ho)
   have HOut := vv (HOv1.out ho)
   clear ho
   go_wp2_with fail
   refine (HBy.out _).mono ?_
   rintro e wn ⟨rfl, hBn⟩
   have HB := vn HB hBn
   clear f0 f1 hlt hBn
   go_wp2
   go_ret2
   rw [HOut.out]
   exact ⟨ret2 (HAdd.out _ HAm.out) rfl, HB0.out.trans (HB.out.mono HB0.out.size)⟩
  ·have hd2 : decide (0 < t2) = false := decide_eq_false (fun h => ho (HOv.out.1 h))
   have HOut := vv (HOv2.out (by simpa using ho))
   have HLe := vv (low_in (by simpa using ho))
   clear ho
   go_wp2_with fail
   refine (HPk.out _ _ HRY.out HLe.out (HST.out.fs (Fs.of_nil HB.out))).mono ?_
   rintro e wn ⟨rfl, hBn⟩
   have HB := vn HB hBn
   clear f0 f1 hlt hBn
   go_wp2
   go_ret2
   rw [HOut.out.1, HFl.out, HOut.out.2]
   exact ⟨ret2 (HAdd.out _ (HLt.out HLe.out HOut.out.1)) rfl, HB0.out.trans (HB.out.mono HB0.out.size)⟩
 ·have hd1 : (t1 == 0) = false := by rw [beq_eq_false_iff_ne]; exact fun h => hr (HSa.out.1 h)
  have hd1' : (t1 != 0) = true := by rw [bne_iff_ne]; exact fun h => hr (HSa.out.1 h)
  have HFl0 : Hid (flags_ E F false mode X b = if under E F false mode X b then 5 else 1) := vv (if_neg hr)
  clear hr
  have f0 := (HF.out.below HB.out).c0
  have f1 := (HF.out.below HB.out).c1
  go_wp2_with fail
  refine wp_region_sch (fun w' => w'.cell? ⟨w.heap.size, 0, none⟩ = some (.int .i64 (E : Int)) /\ w'.cell? ⟨w.heap.size, 1, none⟩ = some (.int .i64 (F : Int))) 11
   (.still 0 (.still 1 (.still 2 (.still 3 (.still 4 (.still 5 (.still 6 (.still 8 (.one 7 (.one 9 (.one 10 .done))))))))))) (by kernel_rfl) (by kernel_rfl) (fun _ _ d _ _ h => by cases d <;> exact h) ⟨f0, f1⟩ (fun hS0 => ?_)
  iterate 4
   refine sch_still (v := ?_) rfl (by rfl) ?_ ?_
   rotate_left
   ·intro w hSw; go_simp; with_reducible rfl
   simp only [Act.put, List.setIfInBounds_toArray, List.set_cons_zero, List.set_cons_succ]
  have hwr := HWR.out.2.2
  iterate 1
   refine sch_still (v := ?_) rfl (by rfl) ?_ ?_
   rotate_left
   ·intro w hSw; go_simp; with_reducible rfl
   simp only [Act.put, List.setIfInBounds_toArray, List.set_cons_zero, List.set_cons_succ]
  clear hwr
  iterate 3
   refine sch_still (v := ?_) rfl (by rfl) ?_ ?_
   rotate_left
   ·intro w hSw; go_simp; with_reducible rfl
   simp only [Act.put, List.setIfInBounds_toArray, List.set_cons_zero, List.set_cons_succ]
  refine sch_one rfl (by rfl) (fun K hK => ?_)
  go_simp
  refine (HU2.out gA _ HRA.out.drew ((HST.out.fs (Fs.of_nil HB.out)).drew)).mono ?_
  rintro e wn ⟨gU, rfl, hgU, hRU, hBn⟩
  have hBn : Below wc.heap.size wc wn := ⟨hBn.os, hBn.tape, hBn.output, hBn.size, hBn.block⟩
  clear f0 f1
  try have HRU := vv (HRU.out.below hBn)
  try have HRL := vv (HRL.out.below hBn)
  have HRY := vv (HRY.out.below hBn)
  have HRA := vv (HRA.out.below hBn)
  have hbn := HB.out.trans (hBn.mono HB.out.size)
  have HB := vv hbn
  clear hBn hbn
  obtain ⟨wc, rfl⟩ := yx wn
  have HRU := vv hRU
  clear hRU
  go_wp2_with fail
  refine hK.out _ _ ⟨(HF.out.below HB.out).c0, (HF.out.below HB.out).c1⟩ (fun hHeld => ?_)
  clear hK
  refine sch_one rfl (by rfl) (fun K hK => ?_)
  go_simp
  refine (HLst.out _).mono ?_
  rintro e wn ⟨gL, rfl, hgL, hRL, hBn⟩
  try have HRU := vv (HRU.out.below hBn)
  try have HRL := vv (HRL.out.below hBn)
  have HRY := vv (HRY.out.below hBn)
  have HRA := vv (HRA.out.below hBn)
  have hbn := HB.out.trans (hBn.mono HB.out.size)
  have HB := vv hbn
  clear hBn hbn
  obtain ⟨wc, rfl⟩ := yx wn
  have HRL := vv hRL
  clear hRL
  go_wp2_with fail
  refine hK.out _ _ ⟨(HF.out.below HB.out).c0, (HF.out.below HB.out).c1⟩ (fun hHeld => ?_)
  clear hK
  refine sch_one rfl (by rfl) (fun K hK => ?_)
  go_simp
  refine (B.CmpR gU gL _ _ _ _ _ HRU.out HRL.out HSZ2.out.1 HSZ2.out.2.1 HSZ2.out.2.2.1 HSZ2.out.2.2.2).mono ?_
  rintro e wn ⟨rfl, hBn⟩
  try have HRU := vv (HRU.out.below hBn)
  try have HRL := vv (HRL.out.below hBn)
  have HRY := vv (HRY.out.below hBn)
  have HRA := vv (HRA.out.below hBn)
  have hbn := HB.out.trans (hBn.mono HB.out.size)
  have HB := vv hbn
  clear hBn hbn
  obtain ⟨wc, rfl⟩ := yx wn
  obtain ⟨t3, ht3⟩ := yx (cmpI (free_ F false mode X b * p2 (ilog X b - F) * p2 (bias E - 1)) (p2 (1 - bias E) * p2 (F - ilog X b)))
  rw [<- ht3]
  have HUn := vv HUn0.out
  rw [<- ht3] at HUn
  clear ht3
  go_wp2_with fail
  refine hK.out _ _ ⟨(HF.out.below HB.out).c0, (HF.out.below HB.out).c1⟩ (fun hHeld => ?_)
  clear hK
  refine sch_done ?_
  by_cases hu : under E F false mode X b = true
  ·have hd3 : decide (t3 < 0) = true := decide_eq_true (HUn.out.2 hu)
   have HFl : Hid (flags_ E F false mode X b = 5) := vv (by rw [HFl0.out, if_pos hu])
   clear hu
   obtain ⟨f0, f1, hlt⟩ := (HF.out.below HB.out)
   go_wp2_with fail
   refine (HGr.out _ (HST.out.fs (Fs.of_nil HB.out))).mono ?_
   rintro e wn ⟨gG, rfl, hgG, hRG, hBn⟩
   have HRG := vv hRG
   try have HRU := vv (HRU.out.below hBn)
   try have HRL := vv (HRL.out.below hBn)
   have HRY := vv (HRY.out.below hBn)
   have HRA := vv (HRA.out.below hBn)
   have hbn := HB.out.trans (hBn.mono HB.out.size)
   have HB := vv hbn
   clear hBn hbn
   obtain ⟨wc, rfl⟩ := yx wn
   go_wp2_with fail
   refine (B.CmpR gY gG _ _ _ _ _ HRY.out HRG.out HSZ.out.1 HSZ.out.2.1 HSZ.out.2.2.1 HSZ.out.2.2.2).mono ?_
   rintro e wn ⟨rfl, hBn⟩
   try have HRU := vv (HRU.out.below hBn)
   try have HRL := vv (HRL.out.below hBn)
   have HRY := vv (HRY.out.below hBn)
   have HRA := vv (HRA.out.below hBn)
   have hbn := HB.out.trans (hBn.mono HB.out.size)
   have HB := vv hbn
   clear hBn hbn
   obtain ⟨wc, rfl⟩ := yx wn
   obtain ⟨t2, ht2⟩ := yx (cmpI (mant E F false mode X b * p2 (low_ E X b - F) * p2 (F - bias E)) ((2 ^ (F + 1) - 1) * p2 (bias E - F) * p2 (F - low_ E X b)))
   rw [<- ht2]
   have HOv := vv HOv0.out
   rw [<- ht2] at HOv
   obtain ⟨f0, f1, hlt⟩ := (HF.out.below HB.out)
   clear ht2
   by_cases ho : over E F false mode X b = true
   ·have hd2 : decide (0 < t2) = true := decide_eq_true (HOv.out.2 ho)
    have HOut := vv (HOv1.out ho)
    clear ho
    go_wp2_with fail
    refine (HBy.out _).mono ?_
    rintro e wn ⟨rfl, hBn⟩
    have HB := vn HB hBn
    clear f0 f1 hlt hBn
    go_wp2
    go_ret2
    rw [HOut.out]
    exact ⟨ret2 (HAdd.out _ HAm.out) rfl, HB0.out.trans (HB.out.mono HB0.out.size)⟩
   ·have hd2 : decide (0 < t2) = false := decide_eq_false (fun h => ho (HOv.out.1 h))
    have HOut := vv (HOv2.out (by simpa using ho))
    have HLe := vv (low_in (by simpa using ho))
    clear ho
    go_wp2_with fail
    refine (HPk.out _ _ HRY.out HLe.out (HST.out.fs (Fs.of_nil HB.out))).mono ?_
    rintro e wn ⟨rfl, hBn⟩
    have HB := vn HB hBn
    clear f0 f1 hlt hBn
    go_wp2
    go_ret2
    rw [HOut.out.1, HFl.out, HOut.out.2]
    exact ⟨ret2 (HAdd.out _ (HLt.out HLe.out HOut.out.1)) rfl, HB0.out.trans (HB.out.mono HB0.out.size)⟩
  ·have hd3 : decide (t3 < 0) = false := decide_eq_false (fun h => hu (HUn.out.1 h))
   have HFl : Hid (flags_ E F false mode X b = 1) := vv (by rw [HFl0.out, if_neg hu])
   clear hu
   obtain ⟨f0, f1, hlt⟩ := (HF.out.below HB.out)
   go_wp2_with fail
   refine (HGr.out _ (HST.out.fs (Fs.of_nil HB.out))).mono ?_
   rintro e wn ⟨gG, rfl, hgG, hRG, hBn⟩
   have HRG := vv hRG
   try have HRU := vv (HRU.out.below hBn)
   try have HRL := vv (HRL.out.below hBn)
   have HRY := vv (HRY.out.below hBn)
   have HRA := vv (HRA.out.below hBn)
   have hbn := HB.out.trans (hBn.mono HB.out.size)
   have HB := vv hbn
   clear hBn hbn
   obtain ⟨wc, rfl⟩ := yx wn
   go_wp2_with fail
   refine (B.CmpR gY gG _ _ _ _ _ HRY.out HRG.out HSZ.out.1 HSZ.out.2.1 HSZ.out.2.2.1 HSZ.out.2.2.2).mono ?_
   rintro e wn ⟨rfl, hBn⟩
   try have HRU := vv (HRU.out.below hBn)
   try have HRL := vv (HRL.out.below hBn)
   have HRY := vv (HRY.out.below hBn)
   have HRA := vv (HRA.out.below hBn)
   have hbn := HB.out.trans (hBn.mono HB.out.size)
   have HB := vv hbn
   clear hBn hbn
   obtain ⟨wc, rfl⟩ := yx wn
   obtain ⟨t2, ht2⟩ := yx (cmpI (mant E F false mode X b * p2 (low_ E X b - F) * p2 (F - bias E)) ((2 ^ (F + 1) - 1) * p2 (bias E - F) * p2 (F - low_ E X b)))
   rw [<- ht2]
   have HOv := vv HOv0.out
   rw [<- ht2] at HOv
   obtain ⟨f0, f1, hlt⟩ := (HF.out.below HB.out)
   clear ht2
   by_cases ho : over E F false mode X b = true
   ·have hd2 : decide (0 < t2) = true := decide_eq_true (HOv.out.2 ho)
    have HOut := vv (HOv1.out ho)
    clear ho
    go_wp2_with fail
    refine (HBy.out _).mono ?_
    rintro e wn ⟨rfl, hBn⟩
    have HB := vn HB hBn
    clear f0 f1 hlt hBn
    go_wp2
    go_ret2
    rw [HOut.out]
    exact ⟨ret2 (HAdd.out _ HAm.out) rfl, HB0.out.trans (HB.out.mono HB0.out.size)⟩
   ·have hd2 : decide (0 < t2) = false := decide_eq_false (fun h => ho (HOv.out.1 h))
    have HOut := vv (HOv2.out (by simpa using ho))
    have HLe := vv (low_in (by simpa using ho))
    clear ho
    go_wp2_with fail
    refine (HPk.out _ _ HRY.out HLe.out (HST.out.fs (Fs.of_nil HB.out))).mono ?_
    rintro e wn ⟨rfl, hBn⟩
    have HB := vn HB hBn
    clear f0 f1 hlt hBn
    go_wp2
    go_ret2
    rw [HOut.out.1, HFl.out, HOut.out.2]
    exact ⟨ret2 (HAdd.out _ (HLt.out HLe.out HOut.out.1)) rfl, HB0.out.trans (HB.out.mono HB0.out.size)⟩
set_option maxRecDepth 100000 in
set_option maxHeartbeats 4000000 in
theorem Rat_neg (gx b E F X : Nat) (neg : Bool) (mode : Nat) (w : World) (h1 : 2 <= E) (h2 : E <= 11) (h3 : 1 <= F) (h4 : F <= 52) (hx : RatAt w gx (-(X : Int)) b) (hX : 0 < X) (sX : bl X <= 1073741824) (sb : bl b <= 1073741824) (hst : Std w) (hm : mode <= 4) :
  Calls Tryz.prog 49 #[fm E F, .pointer (some ⟨gx, 0, none⟩), .bool neg, .int .u8 (mode : Int)] w (BfPost (sgb E F true) (out E F true mode X b) w) := by
 have HSg : Hid ((-(X : Int)).sign = -1) := vv (Int.sign_eq_neg_one_of_neg (by omega))
 have HAbs : Hid (((-(X : Int)).natAbs : Int) = (X : Int)) := vv (by omega)
 have hb1 := bias_pos h1
 have hb2 := bias_le h2
 have hb0 := hx.pos
 have hlb := ilog_bd (a := X) (b := b)
 have hlo : -1073741900 <= low_ E X b /\ low_ E X b <= 1073742900 := by unfold low_; omega
 have hml := mant_le (E := E) (F := F) (neg := true) (mode := mode) hX hb0
 have hfl := free_le (F := F) (neg := true) (mode := mode) hX hb0
 obtain ⟨S, hS⟩ : ∃ S : Nat, S = 2 ^ (E + F) := ⟨_, rfl⟩
 obtain ⟨V, hV⟩ : ∃ V : Nat, V = if inner true mode then inf_ E F - 1 else inf_ E F := ⟨_, rfl⟩
 obtain ⟨W, hW⟩ : ∃ W : Nat, W = mant E F true mode X b + (low_ E X b + bias E - 1).toNat * 2 ^ F := ⟨_, rfl⟩
 have h63 : 2 ^ (E + F) <= 2 ^ 63 := Nat.pow_le_pow_right (by omega) (by omega)
 have HAdd : Hid (∀ v : Nat, v < 2 ^ (E + F) -> IntKind.u64.wrap ((S : Int) + (v : Int)) = ((sgb E F true + v : Nat) : Int)) := vv fun v hv => by
  rw [<- hS] at h63 hv
  rw [IntKind.wrap_u64]
  show _ = ((2 ^ (E + F) + v : Nat) : Int)
  rw [<- hS]; omega
 have HAm : Hid (V < 2 ^ (E + F)) := vv (by
  have := Nat.two_pow_pos F
  have h3' : 2 ^ F <= 2 ^ (E + F) := Nat.pow_le_pow_right (by omega) (by omega)
  rw [hV]; unfold inf_; split <;> omega)
 have HLt : Hid (low_ E X b <= bias E -> out E F true mode X b = (bits_ E F true mode X b, flags_ E F true mode X b) -> W < 2 ^ (E + F)) := vv fun _ ho => hW ▸ bits_lt ho
 have HWR : Hid (IntKind.i64.wrap (1 - bias E) = 1 - bias E /\ IntKind.i64.wrap (low_ E X b - (F : Int)) = low_ E X b - F /\ IntKind.i64.wrap (ilog X b - (F : Int)) = ilog X b - F) := vv ⟨IntWalk.i64_in _ (by omega), IntWalk.i64_in _ (by omega), IntWalk.i64_in _ (by omega)⟩
 have HLow : Hid (max (ilog X b) (1 - bias E) = low_ E X b) := vv rfl
 have HU : Hid (∀ g w, RatAt w g (X : Int) b -> Std w -> Calls Tryz.prog 91 #[.pointer (some ⟨g, 0, none⟩), .int .i64 (low_ E X b - F), .bool true, .int .u8 (mode : Int)] w (NewRat' ((mant E F true mode X b * p2 (low_ E X b - F) : Nat) : Int) (p2 (F - low_ E X b)) w)) := vv fun g w hg hs => by
  have := unit g X b (low_ E X b - F) true mode w hg (by omega) (by omega) sX sb hs hm
  rw [show -(low_ E X b - (F : Int)) = F - low_ E X b by omega] at this
  exact this
 have HU2 : Hid (∀ g w, RatAt w g (X : Int) b -> Std w -> Calls Tryz.prog 91 #[.pointer (some ⟨g, 0, none⟩), .int .i64 (ilog X b - F), .bool true, .int .u8 (mode : Int)] w (NewRat' ((free_ F true mode X b * p2 (ilog X b - F) : Nat) : Int) (p2 (F - ilog X b)) w)) := vv fun g w hg hs => by
  have := unit g X b (ilog X b - F) true mode w hg (by omega) (by omega) sX sb hs hm
  rw [show -(ilog X b - (F : Int)) = F - ilog X b by omega] at this
  exact this
 have hM : bl (mant E F true mode X b) <= F + 2 := bl_lt hml
 have hFr : bl (free_ F true mode X b) <= F + 2 := bl_lt hfl
 have b1 : bl (p2 (low_ E X b - F)) <= 1073742902 := by unfold Go.Proofs.YtbfmpcfcmbjeeaaGreatDoor.p2; rw [bl_pow]; omega
 have b2 : bl (p2 (F - low_ E X b)) <= 1073742902 := by unfold Go.Proofs.YtbfmpcfcmbjeeaaGreatDoor.p2; rw [bl_pow]; omega
 have b3 : bl (p2 (ilog X b - F)) <= 1073742902 := by unfold Go.Proofs.YtbfmpcfcmbjeeaaGreatDoor.p2; rw [bl_pow]; omega
 have b4 : bl (p2 (F - ilog X b)) <= 1073742902 := by unfold Go.Proofs.YtbfmpcfcmbjeeaaGreatDoor.p2; rw [bl_pow]; omega
 have b5 : bl (p2 (bias E - F)) <= 4001 := bl_p2 _ (by omega)
 have b6 : bl (p2 (F - bias E)) <= 4001 := bl_p2 _ (by omega)
 have b7 : bl (p2 (1 - bias E)) <= 4001 := bl_p2 _ (by omega)
 have b8 : bl (p2 (bias E - 1)) <= 4001 := bl_p2 _ (by omega)
 have b9 : bl (2 ^ (F + 1) - 1) <= F + 2 := bl_lt (by omega)
 have c1 := bl_mul_le (mant E F true mode X b) (p2 (low_ E X b - F))
 have c2 := bl_mul_le (free_ F true mode X b) (p2 (ilog X b - F))
 have c3 := bl_mul_le (2 ^ (F + 1) - 1) (p2 (bias E - F))
 have HSZ : Hid (Sz (mant E F true mode X b * p2 (low_ E X b - F)) /\ Sz (p2 (F - low_ E X b)) /\ Sz ((2 ^ (F + 1) - 1) * p2 (bias E - F)) /\ Sz (p2 (F - bias E))) := vv (by unfold Sz; exact ⟨by omega, by omega, by omega, by omega⟩)
 have HSZ2 : Hid (Sz (free_ F true mode X b * p2 (ilog X b - F)) /\ Sz (p2 (F - ilog X b)) /\ Sz (p2 (1 - bias E)) /\ Sz (p2 (bias E - 1))) := vv (by unfold Sz; exact ⟨by omega, by omega, by omega, by omega⟩)
 have HSm : Hid (Sm X /\ Sm b) := vv (by unfold Sm; exact ⟨by omega, by omega⟩)
 have HX0 := vv hX
 have HSa0 := vv (same_iff (E := E) (F := F) (neg := true) (mode := mode) (a := X) hb0)
 have HUn0 := vv (under_iff (E := E) (F := F) (neg := true) (mode := mode) hX hb0 h1)
 have HOv0 := vv (over_iff (E := E) (F := F) (neg := true) (mode := mode) hX hb0 h1)
 have HPk : Hid (∀ g w, RatAt w g ((mant E F true mode X b * p2 (low_ E X b - F) : Nat) : Int) (p2 (F - low_ E X b)) -> low_ E X b <= bias E -> Std w -> Calls Tryz.prog 97 #[fm E F, .pointer (some ⟨g, 0, none⟩)] w fun e w' => e = .returned (.int .u64 (W : Int)) /\ Below w.heap.size w w') := vv fun g w hg hl hs => hW ▸
  Pack g _ E F _ w h1 h2 h3 h4 hg low_ge hl hml (fun h => mant_ge hX hb0 (by have := low_gt h; omega)) hs
 have HGr := vv fun w hs => Greatest E F w h1 h2 h3 h4 hs
 have HLst := vv fun w => Least E F w h1 h2
 have HBi := vv fun w => Bias E F w h1 h2
 have HBy : Hid (∀ w, Calls Tryz.prog 96 #[fm E F, .bool true, .int .u8 (mode : Int)] w fun e w' => e = .returned (.int .u64 (V : Int)) /\ Below w.heap.size w w') := vv fun w => hV ▸ beyond E F true mode w h1 h2 h3 h4 hm
 have HSn : Hid (∀ w, Calls Tryz.prog 88 #[fm E F] w fun e w' => e = .returned (.int .u64 (S : Int)) /\ Below w.heap.size w w') := vv fun w => hS ▸ Sign E F w h1 h2 h3 h4
 have HOv1 : Hid (over E F true mode X b = true -> out E F true mode X b = (V, 3)) := vv fun h => hV ▸ out_over h
 have HOv2 : Hid (over E F true mode X b = false -> out E F true mode X b = (bits_ E F true mode X b, flags_ E F true mode X b) /\ bits_ E F true mode X b = W) := vv fun h => ⟨out_in h, hW ▸ rfl⟩
 obtain ⟨w0, hw0⟩ := yx (w.alloc (.cells #[.int .i64 (E : Int), .int .i64 (F : Int)] 23))
 have HB0 : Hid (Below w.heap.size w w0) := vv (by rw [hw0]; exact (Below.refl _ w).alloc (Nat.le_refl _) _)
 have HF : Hid (FmAt w0 w.heap.size E F) := vv (by rw [hw0]; exact FmAt.made w _ _ _)
 have HST := vv (hst.fs (Fs.of_nil HB0.out))
 have HX := vv (hx.below HB0.out)
 have HW0 := vv hw0
 have HXL := vv fun w' (hb : Below w0.heap.size w0 w') => B.RSign gx _ b w' ((hx.below HB0.out).below hb)
 clear hS hV hW h63 hx hst hw0 hml hfl hM hFr b1 b2 b3 b4 b5 b6 b7 b8 b9 c1 c2 c3 hlo hlb sX sb hX h1 h2 hm hb0
 have HB : Hid (Below w0.heap.size w0 w0) := vv (Below.refl _ _)
 obtain ⟨f0, f1, hlt⟩ := HF.out
 go_enter Tryz.func49, Tryz.ntmps49
 go_wp2_with fail
 rw [<- HW0.out]
 go_wp2_with fail
 refine (HXL.out _ HB.out).mono ?_
 rintro e w' ⟨rfl, rfl⟩
 rw [HSg.out]
 go_wp2_with fail
 refine (HSn.out _).mono ?_
 rintro e w1 ⟨rfl, hB1⟩
 have HB := vv hB1
 clear f0 f1 hlt hB1
 have f0 := True.intro
 have f1 := True.intro
 have hlt := True.intro
 go_wp2_with fail
 refine (HXL.out _ HB.out).mono ?_
 rintro e w' ⟨rfl, rfl⟩
 rw [HSg.out]
 go_wp2_with fail
 refine (HXL.out _ HB.out).mono ?_
 rintro e w' ⟨rfl, rfl⟩
 rw [HSg.out]
 obtain ⟨wc, hwc⟩ : ∃ x : World, x = w1 := ⟨_, rfl⟩
 rw [<- hwc] at HB ⊢
 clear hwc f0 f1 hlt
 go_wp2_with fail
 obtain ⟨z0, hBn⟩ := one_rat wc
 obtain ⟨gA, hgA⟩ := yx (wc.heap.size)
 have hgeA : w0.heap.size <= gA := by have := HB.out.size; omega
 obtain ⟨wn, hwn⟩ := yx (wc.alloc ratZ)
 rw [<- hwn] at z0 hBn ⊢
 rw [<- hgA] at z0 ⊢
 have HZ := vv z0
 have HB := vn HB hBn
 clear hwn hgA z0 hBn
 refine (B.AbsR gA gx _ _ _ HZ.out.sh (HX.out.below HB.out)).mono ?_
 rintro e wc hP
 rw [HAbs.out] at hP
 have hbn := hP.below HB.out HB.out.size hgeA
 have HB := vv hbn
 obtain ⟨rfl, hRA, -⟩ := hP
 have HRA := vv hRA
 clear hRA hbn
 go_wp2_with fail
 refine (log gA X b _ HRA.out HX0.out HSm.out.1 HSm.out.2).mono ?_
 rintro e wn ⟨rfl, hBn⟩
 have HRA := vv (HRA.out.below hBn)
 have hbn := HB.out.trans (hBn.mono HB.out.size)
 have HB := vv hbn
 clear hBn hbn
 obtain ⟨wc, rfl⟩ := yx wn
 have f0 := (HF.out.below HB.out).c0
 have f1 := (HF.out.below HB.out).c1
 go_wp2_with fail
 refine wp_region_sch (fun w' => w'.cell? ⟨w.heap.size, 0, none⟩ = some (.int .i64 (E : Int)) /\ w'.cell? ⟨w.heap.size, 1, none⟩ = some (.int .i64 (F : Int))) 11
  (.still 0 (.still 1 (.still 2 (.still 6 (.still 7 (.still 9 (.still 10 (.one 3 (.still 4 (.still 5 (.still 8 .done))))))))))) (by kernel_rfl) (by kernel_rfl) (fun _ _ d _ _ h => by cases d <;> exact h) ⟨f0, f1⟩ (fun hS0 => ?_)
 iterate 7
  refine sch_still (v := ?_) rfl (by rfl) ?_ ?_
  rotate_left
  ·intro w hSw; go_simp; with_reducible rfl
  simp only [Act.put, List.setIfInBounds_toArray, List.set_cons_zero, List.set_cons_succ]
 refine sch_one rfl (by rfl) (fun K hK => ?_)
 go_simp
 refine (HBi.out _).mono ?_
 rintro e wn ⟨rfl, hBn⟩
 have hBn : Below wc.heap.size wc wn := ⟨hBn.os, hBn.tape, hBn.output, hBn.size, hBn.block⟩
 clear f0 f1
 have HRA := vv (HRA.out.below hBn)
 have hbn := HB.out.trans (hBn.mono HB.out.size)
 have HB := vv hbn
 clear hBn hbn
 obtain ⟨wc, rfl⟩ := yx wn
 go_wp2_with fail
 refine hK.out _ _ ⟨(HF.out.below HB.out).c0, (HF.out.below HB.out).c1⟩ (fun hHeld => ?_)
 clear hK
 have hwr := HWR.out.1
 iterate 1
  refine sch_still (v := ?_) rfl (by rfl) ?_ ?_
  rotate_left
  ·intro w hSw; go_simp; with_reducible rfl
  simp only [Act.put, List.setIfInBounds_toArray, List.set_cons_zero, List.set_cons_succ]
 clear hwr
 iterate 1
  refine sch_still (v := ?_) rfl (by rfl) ?_ ?_
  rotate_left
  ·intro w hSw; go_simp; with_reducible rfl
  simp only [Act.put, List.setIfInBounds_toArray, List.set_cons_zero, List.set_cons_succ]
 rw [HLow.out]
 have hwr := HWR.out.2.1
 iterate 1
  refine sch_still (v := ?_) rfl (by rfl) ?_ ?_
  rotate_left
  ·intro w hSw; go_simp; with_reducible rfl
  simp only [Act.put, List.setIfInBounds_toArray, List.set_cons_zero, List.set_cons_succ]
 clear hwr
 refine sch_done ?_
 go_wp2_with fail
 refine (HU.out gA _ HRA.out (HST.out.fs (Fs.of_nil HB.out))).mono ?_
 rintro e wn ⟨gY, rfl, hgY, hRY, hBn⟩
 have HRA := vv (HRA.out.below hBn)
 have hbn := HB.out.trans (hBn.mono HB.out.size)
 have HB := vv hbn
 clear hBn hbn
 obtain ⟨wc, rfl⟩ := yx wn
 have HRY := vv hRY
 clear hRY hS0
 go_wp2_with fail
 refine (B.CmpR gY gA _ _ _ _ _ HRY.out HRA.out HSZ.out.1 HSZ.out.2.1 HSm.out.1.sz HSm.out.2.sz).mono ?_
 rintro e wn ⟨rfl, hBn⟩
 try have HRU := vv (HRU.out.below hBn)
 try have HRL := vv (HRL.out.below hBn)
 have HRY := vv (HRY.out.below hBn)
 have HRA := vv (HRA.out.below hBn)
 have hbn := HB.out.trans (hBn.mono HB.out.size)
 have HB := vv hbn
 clear hBn hbn
 obtain ⟨wc, rfl⟩ := yx wn
 obtain ⟨t1, ht1⟩ := yx (cmpI (mant E F true mode X b * p2 (low_ E X b - F) * b) (X * p2 (F - low_ E X b)))
 rw [<- ht1]
 have HSa := vv HSa0.out
 rw [<- ht1] at HSa
 clear ht1
 by_cases hr : rest_ E F X b = 0
 ·have hd1 : (t1 == 0) = true := by rw [HSa.out.2 hr]; rfl
  have hd1' : (t1 != 0) = false := by rw [HSa.out.2 hr]; rfl
  have HFl : Hid (flags_ E F true mode X b = 0) := vv (if_pos hr)
  clear hr
  obtain ⟨f0, f1, hlt⟩ := (HF.out.below HB.out)
  go_wp2_with fail
  refine (HGr.out _ (HST.out.fs (Fs.of_nil HB.out))).mono ?_
  rintro e wn ⟨gG, rfl, hgG, hRG, hBn⟩
  have HRG := vv hRG
  try have HRU := vv (HRU.out.below hBn)
  try have HRL := vv (HRL.out.below hBn)
  have HRY := vv (HRY.out.below hBn)
  have HRA := vv (HRA.out.below hBn)
  have hbn := HB.out.trans (hBn.mono HB.out.size)
  have HB := vv hbn
  clear hBn hbn
  obtain ⟨wc, rfl⟩ := yx wn
  go_wp2_with fail
  refine (B.CmpR gY gG _ _ _ _ _ HRY.out HRG.out HSZ.out.1 HSZ.out.2.1 HSZ.out.2.2.1 HSZ.out.2.2.2).mono ?_
  rintro e wn ⟨rfl, hBn⟩
  try have HRU := vv (HRU.out.below hBn)
  try have HRL := vv (HRL.out.below hBn)
  have HRY := vv (HRY.out.below hBn)
  have HRA := vv (HRA.out.below hBn)
  have hbn := HB.out.trans (hBn.mono HB.out.size)
  have HB := vv hbn
  clear hBn hbn
  obtain ⟨wc, rfl⟩ := yx wn
  obtain ⟨t2, ht2⟩ := yx (cmpI (mant E F true mode X b * p2 (low_ E X b - F) * p2 (F - bias E)) ((2 ^ (F + 1) - 1) * p2 (bias E - F) * p2 (F - low_ E X b)))
  rw [<- ht2]
  have HOv := vv HOv0.out
  rw [<- ht2] at HOv
  obtain ⟨f0, f1, hlt⟩ := (HF.out.below HB.out)
  clear ht2
  by_cases ho : over E F true mode X b = true
  ·have hd2 : decide (0 < t2) = true := decide_eq_true (HOv.out.2 ho)
   have HOut := vv (HOv1.out ho)
   clear ho
   go_wp2_with fail
   refine (HBy.out _).mono ?_
   rintro e wn ⟨rfl, hBn⟩
   have HB := vn HB hBn
   clear f0 f1 hlt hBn
   go_wp2
   go_ret2
   rw [HOut.out]
   exact ⟨ret2 (HAdd.out _ HAm.out) rfl, HB0.out.trans (HB.out.mono HB0.out.size)⟩
  ·have hd2 : decide (0 < t2) = false := decide_eq_false (fun h => ho (HOv.out.1 h))
   have HOut := vv (HOv2.out (by simpa using ho))
   have HLe := vv (low_in (by simpa using ho))
   clear ho
   go_wp2_with fail
   refine (HPk.out _ _ HRY.out HLe.out (HST.out.fs (Fs.of_nil HB.out))).mono ?_
   rintro e wn ⟨rfl, hBn⟩
   have HB := vn HB hBn
   clear f0 f1 hlt hBn
   go_wp2
   go_ret2
   rw [HOut.out.1, HFl.out, HOut.out.2]
   exact ⟨ret2 (HAdd.out _ (HLt.out HLe.out HOut.out.1)) rfl, HB0.out.trans (HB.out.mono HB0.out.size)⟩
 ·have hd1 : (t1 == 0) = false := by rw [beq_eq_false_iff_ne]; exact fun h => hr (HSa.out.1 h)
  have hd1' : (t1 != 0) = true := by rw [bne_iff_ne]; exact fun h => hr (HSa.out.1 h)
  have HFl0 : Hid (flags_ E F true mode X b = if under E F true mode X b then 5 else 1) := vv (if_neg hr)
  clear hr
  have f0 := (HF.out.below HB.out).c0
  have f1 := (HF.out.below HB.out).c1
  go_wp2_with fail
  refine wp_region_sch (fun w' => w'.cell? ⟨w.heap.size, 0, none⟩ = some (.int .i64 (E : Int)) /\ w'.cell? ⟨w.heap.size, 1, none⟩ = some (.int .i64 (F : Int))) 11
   (.still 0 (.still 1 (.still 2 (.still 3 (.still 4 (.still 5 (.still 6 (.still 8 (.one 7 (.one 9 (.one 10 .done))))))))))) (by kernel_rfl) (by kernel_rfl) (fun _ _ d _ _ h => by cases d <;> exact h) ⟨f0, f1⟩ (fun hS0 => ?_)
  iterate 4
   refine sch_still (v := ?_) rfl (by rfl) ?_ ?_
   rotate_left
   ·intro w hSw; go_simp; with_reducible rfl
   simp only [Act.put, List.setIfInBounds_toArray, List.set_cons_zero, List.set_cons_succ]
  have hwr := HWR.out.2.2
  iterate 1
   refine sch_still (v := ?_) rfl (by rfl) ?_ ?_
   rotate_left
   ·intro w hSw; go_simp; with_reducible rfl
   simp only [Act.put, List.setIfInBounds_toArray, List.set_cons_zero, List.set_cons_succ]
  clear hwr
  iterate 3
   refine sch_still (v := ?_) rfl (by rfl) ?_ ?_
   rotate_left
   ·intro w hSw; go_simp; with_reducible rfl
   simp only [Act.put, List.setIfInBounds_toArray, List.set_cons_zero, List.set_cons_succ]
  refine sch_one rfl (by rfl) (fun K hK => ?_)
  go_simp
  refine (HU2.out gA _ HRA.out.drew ((HST.out.fs (Fs.of_nil HB.out)).drew)).mono ?_
  rintro e wn ⟨gU, rfl, hgU, hRU, hBn⟩
  have hBn : Below wc.heap.size wc wn := ⟨hBn.os, hBn.tape, hBn.output, hBn.size, hBn.block⟩
  clear f0 f1
  try have HRU := vv (HRU.out.below hBn)
  try have HRL := vv (HRL.out.below hBn)
  have HRY := vv (HRY.out.below hBn)
  have HRA := vv (HRA.out.below hBn)
  have hbn := HB.out.trans (hBn.mono HB.out.size)
  have HB := vv hbn
  clear hBn hbn
  obtain ⟨wc, rfl⟩ := yx wn
  have HRU := vv hRU
  clear hRU
  go_wp2_with fail
  refine hK.out _ _ ⟨(HF.out.below HB.out).c0, (HF.out.below HB.out).c1⟩ (fun hHeld => ?_)
  clear hK
  refine sch_one rfl (by rfl) (fun K hK => ?_)
  go_simp
  refine (HLst.out _).mono ?_
  rintro e wn ⟨gL, rfl, hgL, hRL, hBn⟩
  try have HRU := vv (HRU.out.below hBn)
  try have HRL := vv (HRL.out.below hBn)
  have HRY := vv (HRY.out.below hBn)
  have HRA := vv (HRA.out.below hBn)
  have hbn := HB.out.trans (hBn.mono HB.out.size)
  have HB := vv hbn
  clear hBn hbn
  obtain ⟨wc, rfl⟩ := yx wn
  have HRL := vv hRL
  clear hRL
  go_wp2_with fail
  refine hK.out _ _ ⟨(HF.out.below HB.out).c0, (HF.out.below HB.out).c1⟩ (fun hHeld => ?_)
  clear hK
  refine sch_one rfl (by rfl) (fun K hK => ?_)
  go_simp
  refine (B.CmpR gU gL _ _ _ _ _ HRU.out HRL.out HSZ2.out.1 HSZ2.out.2.1 HSZ2.out.2.2.1 HSZ2.out.2.2.2).mono ?_
  rintro e wn ⟨rfl, hBn⟩
  try have HRU := vv (HRU.out.below hBn)
  try have HRL := vv (HRL.out.below hBn)
  have HRY := vv (HRY.out.below hBn)
  have HRA := vv (HRA.out.below hBn)
  have hbn := HB.out.trans (hBn.mono HB.out.size)
  have HB := vv hbn
  clear hBn hbn
  obtain ⟨wc, rfl⟩ := yx wn
  obtain ⟨t3, ht3⟩ := yx (cmpI (free_ F true mode X b * p2 (ilog X b - F) * p2 (bias E - 1)) (p2 (1 - bias E) * p2 (F - ilog X b)))
  rw [<- ht3]
  have HUn := vv HUn0.out
  rw [<- ht3] at HUn
  clear ht3
  go_wp2_with fail
  refine hK.out _ _ ⟨(HF.out.below HB.out).c0, (HF.out.below HB.out).c1⟩ (fun hHeld => ?_)
  clear hK
  refine sch_done ?_
  by_cases hu : under E F true mode X b = true
  ·have hd3 : decide (t3 < 0) = true := decide_eq_true (HUn.out.2 hu)
   have HFl : Hid (flags_ E F true mode X b = 5) := vv (by rw [HFl0.out, if_pos hu])
   clear hu
   obtain ⟨f0, f1, hlt⟩ := (HF.out.below HB.out)
   go_wp2_with fail
   refine (HGr.out _ (HST.out.fs (Fs.of_nil HB.out))).mono ?_
   rintro e wn ⟨gG, rfl, hgG, hRG, hBn⟩
   have HRG := vv hRG
   try have HRU := vv (HRU.out.below hBn)
   try have HRL := vv (HRL.out.below hBn)
   have HRY := vv (HRY.out.below hBn)
   have HRA := vv (HRA.out.below hBn)
   have hbn := HB.out.trans (hBn.mono HB.out.size)
   have HB := vv hbn
   clear hBn hbn
   obtain ⟨wc, rfl⟩ := yx wn
   go_wp2_with fail
   refine (B.CmpR gY gG _ _ _ _ _ HRY.out HRG.out HSZ.out.1 HSZ.out.2.1 HSZ.out.2.2.1 HSZ.out.2.2.2).mono ?_
   rintro e wn ⟨rfl, hBn⟩
   try have HRU := vv (HRU.out.below hBn)
   try have HRL := vv (HRL.out.below hBn)
   have HRY := vv (HRY.out.below hBn)
   have HRA := vv (HRA.out.below hBn)
   have hbn := HB.out.trans (hBn.mono HB.out.size)
   have HB := vv hbn
   clear hBn hbn
   obtain ⟨wc, rfl⟩ := yx wn
   obtain ⟨t2, ht2⟩ := yx (cmpI (mant E F true mode X b * p2 (low_ E X b - F) * p2 (F - bias E)) ((2 ^ (F + 1) - 1) * p2 (bias E - F) * p2 (F - low_ E X b)))
   rw [<- ht2]
   have HOv := vv HOv0.out
   rw [<- ht2] at HOv
   obtain ⟨f0, f1, hlt⟩ := (HF.out.below HB.out)
   clear ht2
   by_cases ho : over E F true mode X b = true
   ·have hd2 : decide (0 < t2) = true := decide_eq_true (HOv.out.2 ho)
    have HOut := vv (HOv1.out ho)
    clear ho
    go_wp2_with fail
    refine (HBy.out _).mono ?_
    rintro e wn ⟨rfl, hBn⟩
    have HB := vn HB hBn
    clear f0 f1 hlt hBn
    go_wp2
    go_ret2
    rw [HOut.out]
    exact ⟨ret2 (HAdd.out _ HAm.out) rfl, HB0.out.trans (HB.out.mono HB0.out.size)⟩
   ·have hd2 : decide (0 < t2) = false := decide_eq_false (fun h => ho (HOv.out.1 h))
    have HOut := vv (HOv2.out (by simpa using ho))
    have HLe := vv (low_in (by simpa using ho))
    clear ho
    go_wp2_with fail
    refine (HPk.out _ _ HRY.out HLe.out (HST.out.fs (Fs.of_nil HB.out))).mono ?_
    rintro e wn ⟨rfl, hBn⟩
    have HB := vn HB hBn
    clear f0 f1 hlt hBn
    go_wp2
    go_ret2
    rw [HOut.out.1, HFl.out, HOut.out.2]
    exact ⟨ret2 (HAdd.out _ (HLt.out HLe.out HOut.out.1)) rfl, HB0.out.trans (HB.out.mono HB0.out.size)⟩
  ·have hd3 : decide (t3 < 0) = false := decide_eq_false (fun h => hu (HUn.out.1 h))
   have HFl : Hid (flags_ E F true mode X b = 1) := vv (by rw [HFl0.out, if_neg hu])
   clear hu
   obtain ⟨f0, f1, hlt⟩ := (HF.out.below HB.out)
   go_wp2_with fail
   refine (HGr.out _ (HST.out.fs (Fs.of_nil HB.out))).mono ?_
   rintro e wn ⟨gG, rfl, hgG, hRG, hBn⟩
   have HRG := vv hRG
   try have HRU := vv (HRU.out.below hBn)
   try have HRL := vv (HRL.out.below hBn)
   have HRY := vv (HRY.out.below hBn)
   have HRA := vv (HRA.out.below hBn)
   have hbn := HB.out.trans (hBn.mono HB.out.size)
   have HB := vv hbn
   clear hBn hbn
   obtain ⟨wc, rfl⟩ := yx wn
   go_wp2_with fail
   refine (B.CmpR gY gG _ _ _ _ _ HRY.out HRG.out HSZ.out.1 HSZ.out.2.1 HSZ.out.2.2.1 HSZ.out.2.2.2).mono ?_
   rintro e wn ⟨rfl, hBn⟩
   try have HRU := vv (HRU.out.below hBn)
   try have HRL := vv (HRL.out.below hBn)
   have HRY := vv (HRY.out.below hBn)
   have HRA := vv (HRA.out.below hBn)
   have hbn := HB.out.trans (hBn.mono HB.out.size)
   have HB := vv hbn
   clear hBn hbn
   obtain ⟨wc, rfl⟩ := yx wn
   obtain ⟨t2, ht2⟩ := yx (cmpI (mant E F true mode X b * p2 (low_ E X b - F) * p2 (F - bias E)) ((2 ^ (F + 1) - 1) * p2 (bias E - F) * p2 (F - low_ E X b)))
   rw [<- ht2]
   have HOv := vv HOv0.out
   rw [<- ht2] at HOv
   obtain ⟨f0, f1, hlt⟩ := (HF.out.below HB.out)
   clear ht2
   by_cases ho : over E F true mode X b = true
   ·have hd2 : decide (0 < t2) = true := decide_eq_true (HOv.out.2 ho)
    have HOut := vv (HOv1.out ho)
    clear ho
    go_wp2_with fail
    refine (HBy.out _).mono ?_
    rintro e wn ⟨rfl, hBn⟩
    have HB := vn HB hBn
    clear f0 f1 hlt hBn
    go_wp2
    go_ret2
    rw [HOut.out]
    exact ⟨ret2 (HAdd.out _ HAm.out) rfl, HB0.out.trans (HB.out.mono HB0.out.size)⟩
   ·have hd2 : decide (0 < t2) = false := decide_eq_false (fun h => ho (HOv.out.1 h))
    have HOut := vv (HOv2.out (by simpa using ho))
    have HLe := vv (low_in (by simpa using ho))
    clear ho
    go_wp2_with fail
    refine (HPk.out _ _ HRY.out HLe.out (HST.out.fs (Fs.of_nil HB.out))).mono ?_
    rintro e wn ⟨rfl, hBn⟩
    have HB := vn HB hBn
    clear f0 f1 hlt hBn
    go_wp2
    go_ret2
    rw [HOut.out.1, HFl.out, HOut.out.2]
    exact ⟨ret2 (HAdd.out _ (HLt.out HLe.out HOut.out.1)) rfl, HB0.out.trans (HB.out.mono HB0.out.size)⟩
abbrev natV (A : Option Addr) (n c : Nat) : Value := .agg #[.slice A n c]
abbrev ratioV (neg : Bool) (A : Option Addr) (n c : Nat) (B : Option Addr) (m d : Nat) : Value := .agg #[.bool neg, .slice A n c, .slice B m d]
abbrev dyadV (neg : Bool) (A : Option Addr) (n c : Nat) (e : Int) : Value := .agg #[.bool neg, .slice A n c, .int .i64 e]
def natOk (n : Nat) (xs : List Nat) : Bool := decide (n <= 16384) && (decide (n = 0) || decide (nth xs (n - 1) ≠ 0))
set_option maxRecDepth 100000 in
theorem May (A : Option Addr) (n c : Nat) (xs : List Nat) (w : World) (hr : Rd w A n c xs) :
  Calls Tryz.prog 70 #[natV A n c] w fun e w' => e = .returned (.bool (natOk n xs)) /\ Below w.heap.size w w' := by
 have hsm := hr.sm
 rcases Nat.lt_or_ge 16384 n with h | h
 ·have HV : Hid (natOk n xs = false) := vv (by unfold natOk; rw [decide_eq_false (by omega)]; rfl)
  clear hr
  go_enter Tryz.func70, Tryz.ntmps70
  go_wp2
  go_ret
  exact ⟨retB HV.out.symm, (Below.refl _ _).alloc (Nat.le_refl _) _⟩
 ·rcases Nat.eq_zero_or_pos n with h0 | h0
  ·subst h0
   have HV : Hid (natOk 0 xs = true) := vv rfl
   clear hr
   go_enter Tryz.func70, Tryz.ntmps70
   go_wp2
   go_ret
   exact ⟨retB HV.out.symm, (Below.refl _ _).alloc (Nat.le_refl _) _⟩
  ·obtain ⟨m, rfl⟩ : ∃ m, n = m + 1 := ⟨n - 1, by omega⟩
   obtain ⟨b, off, rfl, hb, hc⟩ := hr.cell (by omega)
   have hx := hc m (by omega)
   clear hc
   have HV : Hid (natOk (m + 1) xs = !decide (nth xs m = 0)) := vv (by unfold natOk; rw [decide_eq_true h, decide_eq_false (p := m + 1 = 0) (by omega)]; simp)
   have hi : (m : Int) + 1 <= 16384 := by omega
   have hne0 : ((m : Int) + 1 == 0) = false := by rw [beq_eq_false_iff_ne]; omega
   clear hr h h0 hsm
   by_cases hz : nth xs m = 0
   ·have t1 : (((nth xs m : Nat) : Int) == 0) = true := by rw [hz]; rfl
    have t2 : (((nth xs m : Nat) : Int) != 0) = false := by rw [hz]; rfl
    have HZ := vv hz
    clear hz
    go_enter Tryz.func70, Tryz.ntmps70
    go_wp2
    go_ret
    exact ⟨retB (by rw [HV.out, HZ.out]; rfl), (Below.refl _ _).alloc (Nat.le_refl _) _⟩
   ·have t1 : (((nth xs m : Nat) : Int) == 0) = false := by rw [beq_eq_false_iff_ne]; omega
    have t2 : (((nth xs m : Nat) : Int) != 0) = true := by rw [bne_iff_ne]; omega
    have HZ := vv hz
    clear hz
    go_enter Tryz.func70, Tryz.ntmps70
    go_wp2
    go_ret
    exact ⟨retB (by rw [HV.out, decide_eq_false HZ.out]; rfl), (Below.refl _ _).alloc (Nat.le_refl _) _⟩
set_option maxRecDepth 100000 in
theorem Int_ (A : Option Addr) (n c : Nat) (xs : List Nat) (w : World) (hr : Rd w A n c xs) :
  Calls Tryz.prog 42 #[natV A n c] w (NewPost ((val xs : Nat) : Int) w) := by
 have HR := vv hr
 clear hr
 go_enter Tryz.func42, Tryz.ntmps42
 obtain ⟨w0, hw0⟩ := yx (w.alloc (.cells #[.slice A n c] 28))
 have hB0 : Below w.heap.size w w0 := by rw [hw0]; exact (Below.refl _ w).alloc (Nat.le_refl _) _
 have hc0 : w0.cell? ⟨w.heap.size, 0, none⟩ = some (.slice A n c) := by rw [hw0]; simp only [World.cell?]; rw [heap_alloc_new]; rfl
 have hlt : w.heap.size < w0.heap.size := by rw [hw0]; simp
 have HW0 := vv hw0
 obtain ⟨z1, z2⟩ := one_int w0
 have hsz : w0.heap.size = w.heap.size + 1 := by rw [hw0]; simp
 rw [hsz] at z1
 have hc1 := (z2.cell (p := ⟨w.heap.size, 0, none⟩) hlt).trans hc0
 have HZ := vv z1
 have HB := vv (hB0.trans (z2.mono hB0.size))
 have hs0 := hB0.size
 clear hw0 z1 z2 hB0 hsz
 go_wp2_with fail
 rw [<- HW0.out]
 refine (B.SetWords _ 0 0 A n c xs _ HZ.out (HR.out.below HB.out rfl)).mono ?_
 rintro e w1 hP
 have hP := hP.f HZ.out
 have HB1 := vv (hP.below HB.out HB.out.size (by omega))
 obtain ⟨rfl, hI, -⟩ := hP
 have HI := vv hI
 clear hI
 go_wp2
 go_ret
 exact ⟨_, rfl, by omega, HI.out, HB1.out⟩
set_option maxRecDepth 100000 in
theorem Near (n b : Int) (w : World) (h1 : -4611686018427387904 <= n) (h2 : n <= 4611686018427387904) (h3 : 0 <= b) (h4 : b <= 4611686018427387904) :
  Calls Tryz.prog 46 #[.int .i64 n, .int .i64 b] w fun e w' => e = .returned (.int .i64 (near n (b + 1500))) /\ w = w' := by
 go_enter Tryz.func46, Tryz.ntmps46
 go_wp2
 go_ret
 exact ⟨retI rfl, rfl⟩
end Go.Proofs.YtbfmpcfcmbjeeaaGreatDoor.R5
namespace Go.Proofs.YtbfmpcfcmbjeeaaGreatDoor.B
open Go Go.RowKit
theorem Exp0 (g o gx ox gy oy : Nat) (v x : Int) (w : World) (h : IntAt w g o v) (hx : IntAt w gx ox x) (hy : IntAt w gy oy 0) :
  Calls Tryz.prog 119 #[.pointer (some ⟨g, o, none⟩), .pointer (some ⟨gx, ox, none⟩), .pointer (some ⟨gy, oy, none⟩), .pointer none] w (SetF g o 1 w) := by
 have HI := vv h
 have HX := vv hx
 have HY := vv hy
 have hlty := hy.lt
 have HB : Hid (∀ (w : World) t, Below w.heap.size w (w.alloc (.cells #[.bool false, .slice none 0 0] t))) := vv fun w t => (Below.refl _ w).alloc (Nat.le_refl _) _
 have HZ := vv (IntAt.zero w 78)
 clear h hx hy
 go_enter Tryz.func119, Tryz.ntmps119
 go_wp2_with fail
 refine (NewInt 1 _ (by omega) (by omega)).mono ?_
 rintro e w1 ⟨g1, rfl, hg1, hI1, hB1⟩
 have HI1 := vv hI1
 have HB1 := vv ((HB.out w 78).trans (hB1.mono (Below.size (HB.out w 78))))
 have HZ1 := vv (HZ.out.below hB1)
 have hlt1 := hI1.lt
 have hg1' : w.heap.size < g1 := by simp at hg1; omega
 have hsz1 := HB1.out.size
 clear hI1 hB1 hg1
 go_wp2_with fail
 have HB2 := vv (HB1.out.trans ((HB.out w1 78).mono HB1.out.size))
 have HZB := vv (IntAt.zero w1 78)
 refine (Set _ 0 gx ox 0 _ _ HZB.out (HX.out.below HB2.out)).mono ?_
 rintro e w2 hP
 have hP := hP.f HZB.out
 have HB3 := vv (hP.below HB2.out (HB2.out.size) hsz1)
 have HI2 := vv ((HI1.out.below (HB.out w1 78)).fs1 hP.2.2 (by omega))
 have HZ2 := vv ((HZ1.out.below (HB.out w1 78)).fs1 hP.2.2 (by omega))
 obtain ⟨rfl, -, -⟩ := hP
 have HY2 := vv (HY.out.below HB3.out)
 go_wp2_with fail
 refine (Sign gy oy _ _ HY2.out).mono ?_
 rintro e w3 ⟨rfl, rfl⟩
 rw [Int.sign_zero]
 obtain ⟨A5, c5, hn5⟩ := HZ2.out.nil
 have hlt5 := HZ2.out.lt
 go_wp2_with fail
 refine (Set g o g1 0 _ _ _ (HI.out.below HB3.out) HI2.out).mono ?_
 rintro e w5 hP
 have hF := vv ((hP.f (HI.out.below HB3.out)).after HB3.out)
 obtain ⟨rfl, hI5, -⟩ := hP
 go_wp2
 go_ret
 exact ⟨rfl, hI5, hF.out⟩
theorem ExpN (g o gx ox gy oy : Nat) (v : Int) (x y : Nat) (w : World) (h : IntAt w g o v) (hx : IntAt w gx ox (x : Int)) (hy : IntAt w gy oy (y : Int)) (hx0 : 0 < x) (hs : Sz (x ^ y)) (hsy : Sz y) :
  Calls Tryz.prog 119 #[.pointer (some ⟨g, o, none⟩), .pointer (some ⟨gx, ox, none⟩), .pointer (some ⟨gy, oy, none⟩), .pointer none] w (SetF g o ((x ^ y : Nat) : Int) w) := by
 rcases Nat.eq_zero_or_pos y with rfl | hy0
 ·exact Exp0 g o gx ox gy oy v x w h hx hy
 ·exact Exp g o gx ox gy oy v x y w h hx hy hx0 hy0 hs hsy
end Go.Proofs.YtbfmpcfcmbjeeaaGreatDoor.B
namespace Go.Proofs.YtbfmpcfcmbjeeaaGreatDoor.R5
open Go Go.RowKit
theorem natOk_toL {w : World} {A : Option Addr} {n c N : Nat} (h : Rd w A n c (toL N)) (hn : n <= 16384) : natOk n (toL N) = true := by
 unfold natOk
 rw [decide_eq_true hn, Bool.true_and]
 rcases Nat.eq_zero_or_pos n with h0 | h0
 ·rw [h0]; rfl
 ·have hN : 0 < N := by
   rcases Nat.eq_zero_or_pos N with e | e
   ·have := h.words; rw [e, words_zero] at this; omega
   ·exact e
  obtain ⟨-, e⟩ := bl_words hN
  rw [h.words] at e
  rw [decide_eq_false (p := n = 0) (by omega), Bool.false_or, decide_eq_true (by omega)]
structure RatioBox (w : World) (g : Nat) (neg : Bool) (A : Option Addr) (n c : Nat) (B : Option Addr) (m d : Nat) : Prop where
 c0 : w.cell? ⟨g, 0, none⟩ = some (.bool neg)
 c1 : w.cell? ⟨g, 1, none⟩ = some (.slice A n c)
 c2 : w.cell? ⟨g, 2, none⟩ = some (.slice B m d)
 lt : g < w.heap.size
theorem RatioBox.made (w : World) (neg : Bool) (A : Option Addr) (n c : Nat) (B : Option Addr) (m d : Nat) (t : TypeId) : RatioBox (w.alloc (.cells #[.bool neg, .slice A n c, .slice B m d] t)) w.heap.size neg A n c B m d :=
 ⟨by simp only [World.cell?]; rw [heap_alloc_new]; rfl, by simp only [World.cell?]; rw [heap_alloc_new]; rfl, by simp only [World.cell?]; rw [heap_alloc_new]; rfl, by simp⟩
theorem RatioBox.below {w w' : World} {g : Nat} {neg : Bool} {A : Option Addr} {n c : Nat} {B : Option Addr} {m d : Nat} (h : RatioBox w g neg A n c B m d) (hb : Below w.heap.size w w') : RatioBox w' g neg A n c B m d :=
 ⟨(hb.cell (p := ⟨g, 0, none⟩) h.lt).trans h.c0, (hb.cell (p := ⟨g, 1, none⟩) h.lt).trans h.c1, (hb.cell (p := ⟨g, 2, none⟩) h.lt).trans h.c2, Nat.lt_of_lt_of_le h.lt hb.size⟩
set_option maxRecDepth 100000 in
set_option maxHeartbeats 1000000 in
theorem Check1 (neg : Bool) (A : Option Addr) (n c : Nat) (B' : Option Addr) (m d N : Nat) (w : World) (ha : Rd w A n c (toL N)) (hb : Rd w B' m d (toL 1)) (hn : n <= 16384) (h0 : N = 0 -> neg = false) (hst : Std w) :
  Calls Tryz.prog 75 #[ratioV neg A n c B' m d] w fun e w' => e = .returned (.int .i64 0) /\ Below w.heap.size w w' := by
 have hm : m = 1 := hb.words.symm
 subst hm
 obtain ⟨w0, hw0⟩ := yx (w.alloc (.cells #[.bool neg, .slice A n c, .slice B' 1 d] 53))
 have hB0 : Below w.heap.size w w0 := by rw [hw0]; exact (Below.refl _ w).alloc (Nat.le_refl _) _
 have hX0 : RatioBox w0 w.heap.size neg A n c B' 1 d := by rw [hw0]; exact RatioBox.made w _ _ _ _ _ _ _ _
 have HX := vv hX0
 have HB := vv hB0
 have HW0 := vv hw0
 have HA := vv ha
 have HBd := vv hb
 have HST := vv hst
 have hok := natOk_toL ha hn
 have hok1 : natOk 1 (toL 1) = true := natOk_toL hb (by omega)
 have HM := vv fun w' (h : Below w.heap.size w w') => May A n c (toL N) w' (ha.below h rfl)
 have HM1 := vv fun w' (h : Below w.heap.size w w') => May B' 1 d (toL 1) w' (hb.below h rfl)
 rw [hok] at HM
 rw [hok1] at HM1
 have HI := vv fun w' (h : Below w.heap.size w w') => Int_ A n c (toL N) w' (ha.below h rfl)
 have HI1 := vv fun w' (h : Below w.heap.size w w') => Int_ B' 1 d (toL 1) w' (hb.below h rfl)
 rw [val_toL] at HI HI1
 have HSN : Hid (Sz N) := vv (by
  have h1 := lt_words N
  rw [ha.words, pow32] at h1
  have := bl_le h1
  unfold Sz; omega)
 have f0 := hX0.c0
 have f1 := hX0.c1
 have f2 := hX0.c2
 have hlt := hX0.lt
 clear ha hb hn hst hok hok1 hw0 hB0 hX0
 go_enter Tryz.func75, Tryz.ntmps75
 go_wp2_with fail
 rw [<- HW0.out]
 refine (HM.out _ HB.out).mono ?_
 rintro e w1 ⟨rfl, hB1⟩
 have HX := vv (HX.out.below hB1)
 have HB := vn HB hB1
 obtain ⟨f0, f1, f2, hlt⟩ := HX.out
 clear hB1
 go_wp2_with fail
 refine (HM1.out _ HB.out).mono ?_
 rintro e w2 ⟨rfl, hB2⟩
 have HX := vv (HX.out.below hB2)
 have HB := vn HB hB2
 obtain ⟨f0, f1, f2, hlt⟩ := HX.out
 clear hB2
 go_wp2_with fail
 refine (HI.out _ HB.out).mono ?_
 rintro e w3 ⟨g1, rfl, hg1, hI1, hB3⟩
 have HX := vv (HX.out.below hB3)
 have HB := vn HB hB3
 have HN := vv hI1
 obtain ⟨f0, f1, f2, hlt⟩ := HX.out
 clear hB3 hI1
 go_wp2_with fail
 refine (HI1.out _ HB.out).mono ?_
 rintro e w4 ⟨g2, rfl, hg2, hI2, hB4⟩
 have HX := vv (HX.out.below hB4)
 have HN := vv (HN.out.below hB4)
 have HD := vv hI2
 have HB := vn HB hB4
 have f0 := HX.out.c0
 have hlt := HX.out.lt
 clear hB4 hI2 f1 f2
 go_wp2_with fail
 refine (B.Sign g1 0 _ _ HN.out).mono ?_
 rintro e w' ⟨rfl, rfl⟩
 have fin : ∀ w5, Below w4.heap.size w4 w5 -> ∃ w6 gz, w6 = w5.alloc intZ /\ gz = w5.heap.size /\ Below w.heap.size w w6 /\ Calls Tryz.prog 116 #[.pointer (some ⟨gz, 0, none⟩), .pointer none, .pointer none, .pointer (some ⟨g1, 0, none⟩), .pointer (some ⟨g2, 0, none⟩)] w6 fun e w' => e = .returned (.pointer (some ⟨gz, 0, none⟩)) /\ IntAt w' gz 0 1 /\ Below w.heap.size w w' := by
  intro w5 hb5
  have hbb := HB.out.trans (hb5.mono HB.out.size)
  obtain ⟨z1, z2⟩ := one_int w5
  have hb6 := hbb.trans (z2.mono hbb.size)
  refine ⟨_, _, rfl, rfl, hb6, ?_⟩
  refine (B.GCD _ 0 g1 0 g2 0 0 _ _ _ _ _ z1 ((HN.out.below hb5).below z2) ((HD.out.below hb5).below z2) HSN.out (by unfold Sz; decide) (HST.out.fs (Fs.of_nil hb6))).mono ?_
  rintro e w' hP
  have hP := hP.f z1
  refine ⟨hP.1, ?_, hP.below hb6 hb6.size hbb.size⟩
  have := hP.2.1
  rwa [show ((1 : Nat) : Int).natAbs = 1 from rfl, Nat.gcd_one_right] at this
 have Fin := vv fin
 have HC : Hid (cmpZ 1 1 = 0) := vv rfl
 clear fin
 rcases Nat.eq_zero_or_pos N with hN | hN
 ·have hs : ((N : Nat) : Int).sign = 0 := by rw [hN]; rfl
  rw [hs]
  rw [h0 hN] at f0
  clear hs hN h0
  go_wp2_with fail
  refine (B.NewInt 1 _ (by omega) (by omega)).mono ?_
  rintro e w5 ⟨g5, rfl, hg5, hI5, hB5⟩
  have HI5 := vv hI5
  have HD5 := vv (HD.out.below hB5)
  have HB5 := vv hB5
  clear hI5 hB5
  go_wp2_with fail
  refine (B.Cmp g2 0 g5 0 _ _ _ HD5.out HI5.out).mono ?_
  rintro e w6 ⟨rfl, hB6⟩
  rw [show cmpZ ((1 : Nat) : Int) 1 = 0 from rfl]
  have HB6 := vn HB5 hB6
  clear hB6
  obtain ⟨w7, gz, hw7, hgz, hb7, hG⟩ := Fin.out _ HB6.out
  have HW7 := vv hw7
  have HGz := vv hgz
  have HG := vv hG
  clear hw7 hgz hG
  go_wp2_with fail
  rw [<- HW7.out, <- HGz.out]
  refine HG.out.mono ?_
  rintro e w8 ⟨rfl, hI8, hB8⟩
  have HI8 := vv hI8
  have HB8 := vv hB8
  clear hI8 hB8
  go_wp2_with fail
  refine (B.NewInt 1 _ (by omega) (by omega)).mono ?_
  rintro e w9 ⟨g9, rfl, hg9, hI9, hB9⟩
  have HI9 := vv hI9
  have HI8 := vv (HI8.out.below hB9)
  have HB9 := vn HB8 hB9
  clear hI9 hB9
  go_wp2_with fail
  refine (B.Cmp gz 0 g9 0 _ _ _ HI8.out HI9.out).mono ?_
  rintro e w10 ⟨rfl, hB10⟩
  rw [HC.out]
  have HB10 := vn HB9 hB10
  clear hB10
  go_wp2
  go_ret
  exact ⟨rfl, HB10.out⟩
 ·have hs : ((N : Nat) : Int).sign = 1 := Int.sign_eq_one_of_pos (by omega)
  rw [hs]
  clear hs hN h0
  obtain ⟨w7, gz, hw7, hgz, hb7, hG⟩ := Fin.out _ (Below.refl _ _)
  have HW7 := vv hw7
  have HGz := vv hgz
  have HG := vv hG
  clear hw7 hgz hG
  go_wp2_with fail
  rw [<- HW7.out, <- HGz.out]
  refine HG.out.mono ?_
  rintro e w8 ⟨rfl, hI8, hB8⟩
  have HI8 := vv hI8
  have HB8 := vv hB8
  clear hI8 hB8
  go_wp2_with fail
  refine (B.NewInt 1 _ (by omega) (by omega)).mono ?_
  rintro e w9 ⟨g9, rfl, hg9, hI9, hB9⟩
  have HI9 := vv hI9
  have HI8 := vv (HI8.out.below hB9)
  have HB9 := vn HB8 hB9
  clear hI9 hB9
  go_wp2_with fail
  refine (B.Cmp gz 0 g9 0 _ _ _ HI8.out HI9.out).mono ?_
  rintro e w10 ⟨rfl, hB10⟩
  rw [HC.out]
  have HB10 := vn HB9 hB10
  clear hB10
  go_wp2
  go_ret
  exact ⟨rfl, HB10.out⟩
set_option maxRecDepth 100000 in
theorem Rat1 (neg : Bool) (A : Option Addr) (n c : Nat) (B' : Option Addr) (m d N : Nat) (w : World) (ha : Rd w A n c (toL N)) (hb : Rd w B' m d (toL 1)) (hN : Sz N) (hst : Std w) :
  Calls Tryz.prog 77 #[ratioV neg A n c B' m d] w (NewRat' (sg neg N) 1 w) := by
 obtain ⟨w0, hw0⟩ := yx (w.alloc (.cells #[.bool neg, .slice A n c, .slice B' m d] 53))
 have hB0 : Below w.heap.size w w0 := by rw [hw0]; exact (Below.refl _ w).alloc (Nat.le_refl _) _
 have hX0 : RatioBox w0 w.heap.size neg A n c B' m d := by rw [hw0]; exact RatioBox.made w _ _ _ _ _ _ _ _
 have HX := vv hX0
 have HB := vv hB0
 have HW0 := vv hw0
 have HST := vv hst
 have HSN := vv hN
 have HI := vv fun w' (h : Below w.heap.size w w') => Int_ A n c (toL N) w' (ha.below h rfl)
 have HI1 := vv fun w' (h : Below w.heap.size w w') => Int_ B' m d (toL 1) w' (hb.below h rfl)
 rw [val_toL] at HI HI1
 have f0 := hX0.c0
 have f1 := hX0.c1
 have hlt := hX0.lt
 clear ha hb hst hw0 hB0 hX0 hN
 go_enter Tryz.func77, Tryz.ntmps77
 go_wp2_with fail
 rw [<- HW0.out]
 refine (HI.out _ HB.out).mono ?_
 rintro e w1 ⟨g1, rfl, hg1, hI1, hB1⟩
 have HX := vv (HX.out.below hB1)
 have HB := vn HB hB1
 have HN := vv hI1
 have hs1 := HB.out.size
 have hg1' : w.heap.size < g1 := by omega
 clear hB1 hI1 f0 f1 hlt
 have f0 := HX.out.c0
 have hlt := HX.out.lt
 have fin : ∀ wc, Below w.heap.size w wc -> RatioBox wc w.heap.size neg A n c B' m d -> IntAt wc g1 0 (sg neg N) ->
   ∃ w2 gz, w2 = wc.alloc ratZ /\ gz = wc.heap.size /\ RatAt w2 gz 0 1 /\ IntAt w2 g1 0 (sg neg N) /\ RatioBox w2 w.heap.size neg A n c B' m d /\ Below w.heap.size w w2 /\ w.heap.size <= gz := by
  intro wc hb hx hi
  obtain ⟨z1, z2⟩ := one_rat wc
  exact ⟨_, _, rfl, rfl, z1, hi.below z2, hx.below z2, hb.trans (z2.mono hb.size), hb.size⟩
 have Fin := vv fin
 have fin2 : ∀ w2 gz, RatAt w2 gz 0 1 -> IntAt w2 g1 0 (sg neg N) -> Below w.heap.size w w2 -> w.heap.size <= gz -> ∀ w3 g3, Below w2.heap.size w2 w3 -> IntAt w3 g3 0 ((1 : Nat) : Int) ->
   Calls Tryz.prog 122 #[.pointer (some ⟨gz, 0, none⟩), .pointer (some ⟨g1, 0, none⟩), .pointer (some ⟨g3, 0, none⟩)] w3 fun e w' => e = .returned (.pointer (some ⟨gz, 0, none⟩)) /\ RatAt w' gz (sg neg N) 1 /\ Below w.heap.size w w' := by
  intro w2 gz hz hi hb hg w3 g3 hb3 hi3
  have hbb := hb.trans (hb3.mono hb.size)
  refine (B.SetFrac gz g1 g3 (sg neg N) 1 w3 (hz.below hb3).sh (hi.below hb3) hi3 (by omega) (HST.out.fs (Fs.of_nil hbb)) (by rw [sg_abs]; exact HSN.out) (by unfold Sz; decide)).mono ?_
  rintro e w' hP
  exact ⟨hP.1, hP.2.1, hP.below hbb hbb.size hg⟩
 have Fin2 := vv fin2
 clear fin fin2
 cases neg
 ·obtain ⟨w2, gz, hw2, hgz, hz, hi, hx, hb, hg⟩ := Fin.out w1 HB.out HX.out HN.out
  have f2 := hx.c2
  have hlt2 := hx.lt
  rw [hw2] at f2 hlt2
  have HW2 := vv hw2
  have HGZ := vv hgz
  have HZ := vv hz
  have HI2 := vv hi
  have HX2 := vv hx
  have HB2 := vv hb
  clear hw2 hgz hz hi hx hb
  go_wp2_with fail
  rw [<- HW2.out, <- HGZ.out]
  refine (HI1.out _ HB2.out).mono ?_
  rintro e w3 ⟨g3, rfl, hg3, hI3, hB3⟩
  have HI3 := vv hI3
  have HB3 := vv hB3
  clear hI3 hB3
  go_wp2_with fail
  refine (Fin2.out w2 gz HZ.out HI2.out HB2.out hg w3 g3 HB3.out HI3.out).mono ?_
  rintro e w4 ⟨rfl, hR, hB4⟩
  have HR := vv hR
  have HB4 := vv hB4
  clear hR hB4
  go_wp2
  go_ret
  exact ⟨_, rfl, hg, HR.out, HB4.out⟩
 ·go_wp2_with fail
  refine (B.Neg g1 0 g1 0 _ _ _ HN.out HN.out).mono ?_
  rintro e w2 hP
  have hP := hP.f HN.out
  have hxx : RatioBox w2 w.heap.size true A n c B' m d := ⟨(hP.2.2.cell w.heap.size 0 HX.out.lt fun q hq e => by rw [List.mem_singleton.1 hq] at e; simp only at e; omega).trans HX.out.c0, (hP.2.2.cell w.heap.size 1 HX.out.lt fun q hq e => by rw [List.mem_singleton.1 hq] at e; simp only at e; omega).trans HX.out.c1, (hP.2.2.cell w.heap.size 2 HX.out.lt fun q hq e => by rw [List.mem_singleton.1 hq] at e; simp only at e; omega).trans HX.out.c2, Nat.lt_of_lt_of_le HX.out.lt hP.2.2.size⟩
  have HXX := vv hxx
  have HNN : Hid (IntAt w2 g1 0 (sg true N)) := vv hP.2.1
  have HB2 := vv (hP.below HB.out HB.out.size (by omega))
  obtain ⟨rfl, -, -⟩ := hP
  clear hxx f0 hlt
  obtain ⟨w2', gz, hw2, hgz, hz, hi, hx, hb, hg⟩ := Fin.out w2 HB2.out HXX.out HNN.out
  have f2 := hx.c2
  have hlt2 := hx.lt
  rw [hw2] at f2 hlt2
  have HW2 := vv hw2
  have HGZ := vv hgz
  have HZ := vv hz
  have HI2 := vv hi
  have HX2 := vv hx
  have HB2 := vv hb
  clear hw2 hgz hz hi hx hb
  go_wp2_with fail
  rw [<- HW2.out, <- HGZ.out]
  refine (HI1.out _ HB2.out).mono ?_
  rintro e w3 ⟨g3, rfl, hg3, hI3, hB3⟩
  have HI3 := vv hI3
  have HB3 := vv hB3
  clear hI3 hB3
  go_wp2_with fail
  refine (Fin2.out _ gz HZ.out HI2.out HB2.out hg w3 g3 HB3.out HI3.out).mono ?_
  rintro e w4 ⟨rfl, hR, hB4⟩
  have HR := vv hR
  have HB4 := vv hB4
  clear hR hB4
  go_wp2
  go_ret
  exact ⟨_, rfl, hg, HR.out, HB4.out⟩
theorem ten_le (k : Nat) : bl (10 ^ k) <= 4 * k + 1 := bl_le (by
 have h1 : (10 : Nat) ^ k <= 16 ^ k := Nat.pow_le_pow_left (by omega) k
 have h2 : (16 : Nat) ^ k = 2 ^ (4 * k) := by rw [Nat.pow_mul]
 rw [Nat.pow_succ]
 have := Nat.two_pow_pos (4 * k)
 omega)
set_option maxRecDepth 100000 in
set_option maxHeartbeats 1000000 in
theorem Tens (gx : Nat) (p n K : Int) (w : World) (hx : RatAt w gx p 1) (hp : bl p.natAbs <= 16777216) (hn1 : -4611686018427387904 <= n) (hn2 : n <= 4611686018427387904) (hK : K = near n (bl p.natAbs + 1 + 1500)) (hst : Std w) :
  Calls Tryz.prog 76 #[.pointer (some ⟨gx, 0, none⟩), .int .i64 n] w (NewRat' (p * (t10 K : Nat)) (t10 (-K)) w) := by
 have hK1 : -16778717 <= K /\ K <= 16778717 := by rw [hK]; unfold near; omega
 have e1 := lp_one p
 have e2 := ld_one p
 have HN := vv fun w' (hw : Below w.heap.size w w') => B.Num gx _ _ w' (hx.below hw)
 have HD := vv fun w' (hw : Below w.heap.size w w') => B.Denom gx _ _ w' (hx.below hw)
 rw [e1] at HN
 rw [e2] at HD
 have HX := vv hx
 have HST := vv hst
 have HNe := vv fun w => Near n ((bl p.natAbs : Int) + 1) w hn1 hn2 (by omega) (by omega)
 rw [<- hK] at HNe
 obtain ⟨k, hk⟩ : ∃ k : Nat, k = K.natAbs := ⟨_, rfl⟩
 have hmax : max K (-K) = (k : Int) := by omega
 have hk2 : k <= 16778717 := by omega
 have hbt := ten_le k
 have HSZ : Hid (Sz (10 ^ k) /\ Sz k /\ Sz p.natAbs /\ Sz 1) := vv ⟨by unfold Sz; omega, Sz.small (by omega), by unfold Sz; omega, by unfold Sz; decide⟩
 have hkb : (k : Int) <= 16778717 := by omega
 have HKk := vv hk
 have hKa := hK1.1
 have hKb := hK1.2
 have hbp : (bl p.natAbs : Int) <= 16777216 := by omega
 have HPos : Hid (0 <= K -> K = k) := vv (by omega)
 have HNeg : Hid (K < 0 -> K = -(k : Int)) := vv (by omega)
 clear hx hst hK hK1 e1 e2 hk hp hbt hk2 hn1 hn2
 go_enter Tryz.func76, Tryz.ntmps76
 go_wp2_with fail
 refine (HN.out _ (Below.refl _ _)).mono ?_
 rintro e w1 ⟨g1, rfl, hg1, hI1, hB1⟩
 have HI1 := vv hI1
 have HB1 := vv hB1
 clear hI1 hB1
 go_wp2_with fail
 refine (B.BitLen g1 0 _ _ HI1.out).mono ?_
 rintro e w' ⟨rfl, rfl⟩
 go_wp2_with fail
 refine (HD.out _ HB1.out).mono ?_
 rintro e w2 ⟨g2, rfl, hg2, hI2, hB2⟩
 have HI2 := vv hI2
 have HB2 := vn HB1 hB2
 clear hI2 hB2
 go_wp2_with fail
 refine (B.BitLen g2 0 _ _ HI2.out).mono ?_
 rintro e w' ⟨rfl, rfl⟩
 rw [show bl ((1 : Nat) : Int).natAbs = 1 from rfl]
 go_wp2_with fail
 refine (HNe.out _).mono ?_
 rintro e w' ⟨rfl, rfl⟩
 have hs2 := HB2.out.size
 obtain ⟨z1, z2⟩ := one_rat w2
 obtain ⟨y1, y2⟩ := one_int (w2.alloc ratZ)
 have hsz : (w2.alloc ratZ).heap.size = w2.heap.size + 1 := by simp
 rw [hsz] at y1
 obtain ⟨w3, hw3⟩ := yx ((w2.alloc ratZ).alloc intZ)
 have hb3 : Below w2.heap.size w2 w3 := by rw [hw3]; exact z2.trans (y2.mono z2.size)
 have HZ3 : Hid (RatAt w3 w2.heap.size 0 1) := vv (by rw [hw3]; exact z1.below y2)
 have HY3 : Hid (IntAt w3 (w2.heap.size + 1) 0 0) := vv (by rw [hw3]; exact y1)
 have HB3 := vn HB2 hb3
 have HW3 := vv hw3
 clear z1 z2 y1 y2 hsz hw3 hb3
 go_wp2_with fail
 rw [<- HW3.out]
 refine (B.NewInt 10 _ (by omega) (by omega)).mono ?_
 rintro e w4 ⟨g4, rfl, hg4, hI4, hB4⟩
 have HI4 := vv hI4
 have HZ4 := vv (HZ3.out.below hB4)
 have HY4 := vv (HY3.out.below hB4)
 have HB4 := vn HB3 hB4
 clear hI4 hB4
 go_wp2_with fail
 refine (B.NewInt (k : Int) _ (by omega) (by omega)).mono ?_
 rintro e w5 ⟨g5, rfl, hg5, hI5, hB5⟩
 have HI5 := vv hI5
 have HI4 := vv (HI4.out.below hB5)
 have HZ5 := vv (HZ4.out.below hB5)
 have HY5 := vv (HY4.out.below hB5)
 have HB5 := vn HB4 hB5
 clear hI5 hB5
 go_wp2_with fail
 refine (B.ExpN (w2.heap.size + 1) 0 g4 0 g5 0 0 10 k _ HY5.out HI4.out HI5.out (by omega) HSZ.out.1 HSZ.out.2.1).mono ?_
 rintro e w6 hP
 have HZ6 := vv (HZ5.out.fs1 hP.2.2 (by omega))
 have HY6 := vv hP.2.1
 have HB6 := vv (hP.below HB5.out HB5.out.size (by omega))
 obtain ⟨rfl, -, -⟩ := hP
 go_wp2_with fail
 refine (B.SetInt w2.heap.size (w2.heap.size + 1) _ _ HZ6.out.sh HY6.out).mono ?_
 rintro e w7 hP
 have HB7 := vv (hP.below HB6.out HB6.out.size hs2)
 obtain ⟨rfl, hR7, -⟩ := hP
 have HR7 := vv hR7
 have hs7 := HB7.out.size
 clear hR7
 obtain ⟨z1, z2⟩ := one_rat w7
 obtain ⟨w8, hw8⟩ := yx (w7.alloc ratZ)
 rw [<- hw8] at z1 z2
 have HZ8 := vv z1
 have HR8 := vv (HR7.out.below z2)
 have HB8 := vn HB7 z2
 have HW8 := vv hw8
 clear z1 z2 hw8
 by_cases hk0 : K < 0
 ·have hd : decide (K < 0) = true := decide_eq_true hk0
  have HE := vv (HNeg.out hk0)
  clear hk0
  go_wp2_with fail
  rw [<- HW8.out]
  refine (B.QuoR w7.heap.size gx w2.heap.size p (10 ^ k) 1 1 _ HZ8.out.sh (HX.out.below HB8.out) HR8.out (Nat.pow_pos (by omega)) (HST.out.fs (Fs.of_nil HB8.out)) HSZ.out.2.2.1 HSZ.out.2.2.2 HSZ.out.1 HSZ.out.2.2.2).mono ?_
  rintro e w9 hP
  have HB9 := vv (hP.below HB8.out HB8.out.size hs7)
  obtain ⟨rfl, hR9, -⟩ := hP
  have HR9 : Hid (RatAt w9 w7.heap.size (p * (t10 K : Nat)) (t10 (-K))) := vv (by
   have a1 : t10 K = 1 := by unfold t10; rw [show K.toNat = 0 by have := HE.out; omega]
   have a2 : t10 (-K) = 10 ^ k := by unfold t10; congr 1; have := HE.out; omega
   rw [a1, a2]
   rw [Nat.one_mul] at hR9
   exact hR9)
  clear hR9
  go_wp2
  go_ret
  exact ⟨_, rfl, by omega, HR9.out, HB9.out⟩
 ·have hd : decide (K < 0) = false := decide_eq_false hk0
  have HE := vv (HPos.out (by omega))
  clear hk0
  go_wp2_with fail
  rw [<- HW8.out]
  refine (B.MulR w7.heap.size gx w2.heap.size p ((10 ^ k : Nat) : Int) 1 1 _ HZ8.out.sh (HX.out.below HB8.out) HR8.out (HST.out.fs (Fs.of_nil HB8.out)) HSZ.out.2.2.1 HSZ.out.2.2.2 (by exact HSZ.out.1) HSZ.out.2.2.2).mono ?_
  rintro e w9 hP
  have HB9 := vv (hP.below HB8.out HB8.out.size hs7)
  obtain ⟨rfl, hR9, -⟩ := hP
  have HR9 : Hid (RatAt w9 w7.heap.size (p * (t10 K : Nat)) (t10 (-K))) := vv (by
   have a1 : t10 (-K) = 1 := by unfold t10; rw [show (-K).toNat = 0 by have := HE.out; omega]
   have a2 : t10 K = 10 ^ k := by unfold t10; congr 1; have := HE.out; omega
   rw [a1, a2]
   exact hR9)
  clear hR9
  go_wp2
  go_ret
  exact ⟨_, rfl, by omega, HR9.out, HB9.out⟩
end Go.Proofs.YtbfmpcfcmbjeeaaGreatDoor.R5
