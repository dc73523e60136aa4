/- Lemmas for ReadNumbers. -/
import Derived.Test.YtbfmpcfcmbjeeaaGreatDoorPartAU
import Derived.Test.YtbfmpcfcmbjeeaaGreatDoorPartAS
import Derived.Test.YtbfmpcfcmbjeeaaGreatDoorPartAL
import Derived.Test.YtbfmpcfcmbjeeaaGreatDoorPartAJ
import Derived.Test.YtbfmpcfcmbjeeaaGreatDoorPartAK
import Derived.Test.YtbfmpcfcmbjeeaaGreatDoorPartAD
import Derived.Test.YtbfmpcfcmbjeeaaGreatDoorPartAP
set_option linter.all false
namespace Go.Proofs.YtbfmpcfcmbjeeaaGreatDoor.R5
open Go Go.RowKit
def BfePost (o : Nat × Nat) (w : World) (e : Ending) (w' : World) : Prop := e = .returned (.tuple #[.int .u64 (o.1 : Int), .int .u8 (o.2 : Int), .int .i64 0]) /\ Below w.heap.size w w'
def signedS (E F : Nat) (below neg : Bool) (mode a b : Nat) : Nat × Nat :=
 if a = 0 then (sgb E F neg, 0) else (sgb E F below + (out E F below mode a b).1, (out E F below mode a b).2)
theorem RatZ (gx E F a b : Nat) (below neg : Bool) (mode : Nat) (w : World) (h1 : 2 <= E) (h2 : E <= 11) (h3 : 1 <= F) (h4 : F <= 52) (hx : RatAt w gx (sg below a) b) (sX : bl a <= 1073741824) (sb : bl b <= 1073741824) (hst : Std w) (hm : mode <= 4) :
  Calls Tryz.prog 49 #[fm E F, .pointer (some ⟨gx, 0, none⟩), .bool neg, .int .u8 (mode : Int)] w (BfPost 0 (signedS E F below neg mode a b) w) := by
 rcases Nat.eq_zero_or_pos a with h0 | h0
 ·subst h0
  have e0 : sg below 0 = 0 := by cases below <;> rfl
  rw [e0] at hx
  refine (Rat_zero gx b E F neg mode w h1 h2 h3 h4 hx).mono ?_
  rintro e w' ⟨rfl, hB⟩
  exact ⟨by simp [signedS], hB⟩
 ·have e1 : signedS E F below neg mode a b = (sgb E F below + (out E F below mode a b).1, (out E F below mode a b).2) := if_neg (by omega)
  rw [e1]
  cases below
  ·refine (Rat_pos gx b E F a neg mode w h1 h2 h3 h4 hx h0 sX sb hst hm).mono ?_
   rintro e w' ⟨rfl, hB⟩
   exact ⟨by simp, hB⟩
  ·refine (Rat_neg gx b E F a neg mode w h1 h2 h3 h4 hx h0 sX sb hst hm).mono ?_
   rintro e w' ⟨rfl, hB⟩
   exact ⟨by simp, hB⟩
theorem signed_near {E F N : Nat} {below neg : Bool} {mode : Nat} (c n : Int) (h1 : 2 <= E) (h2 : E <= 11) (h3 : 1 <= F) (h4 : F <= 52) (hc : 1200 <= c) :
  signedS E F below neg mode (N * t10 (near n (bl N + 1 + c))) (t10 (-near n (bl N + 1 + c))) = signedS E F below neg mode (N * t10 n) (t10 (-n)) := by
 rcases Nat.eq_zero_or_pos N with h0 | h0
 ·subst h0; simp [signedS]
 ·have k := near_tens (E := E) (F := F) (neg := below) (mode := mode) (a := N) (b := 1) c n h1 h2 h3 h4 h0 (by omega) hc
  rw [Nat.one_mul, Nat.one_mul, show bl 1 = 1 from rfl] at k
  have p1 := Nat.mul_pos h0 (t10_pos (near n (bl N + 1 + c)))
  have p2 := Nat.mul_pos h0 (t10_pos n)
  unfold signedS
  rw [if_neg (by omega), if_neg (by omega)]
  have k' : out E F below mode (N * t10 (near n (bl N + 1 + c))) (t10 (-near n (bl N + 1 + c))) = out E F below mode (N * t10 n) (t10 (-n)) := k
  rw [k']
theorem signed_near2 {E F N : Nat} {below neg : Bool} {mode : Nat} (c n : Int) (h1 : 2 <= E) (h2 : E <= 11) (h3 : 1 <= F) (h4 : F <= 52) (hc : 1200 <= c) :
  signedS E F below neg mode (N * p2 (near n (bl N + c))) (p2 (-near n (bl N + c))) = signedS E F below neg mode (N * p2 n) (p2 (-n)) := by
 rcases Nat.eq_zero_or_pos N with h0 | h0
 ·subst h0; simp [signedS]
 ·have k := near_twos (E := E) (F := F) (neg := below) (mode := mode) (a := N) c n h1 h2 h3 h4 h0 hc
  have q1 := Nat.mul_pos h0 (p2_pos (near n (bl N + c)))
  have q2 := Nat.mul_pos h0 (p2_pos n)
  unfold signedS
  rw [if_neg (by omega), if_neg (by omega), k]
set_option maxRecDepth 100000 in
set_option maxHeartbeats 1000000 in
theorem Scaled1 (E F : Nat) (below neg : Bool) (mode : Nat) (A : Option Addr) (n c : Nat) (B' : Option Addr) (m d N : Nat) (x : Int) (w : World) (h1 : 2 <= E) (h2 : E <= 11) (h3 : 1 <= F) (h4 : F <= 52) (hm : mode <= 4)
  (ha : Rd w A n c (toL N)) (hb : Rd w B' m d (toL 1)) (hn : n <= 16384) (h0 : N = 0 -> below = false) (hx1 : -4611686018427387904 <= x) (hx2 : x <= 4611686018427387904) (hst : Std w) :
  Calls Tryz.prog 40 #[fm E F, ratioV below A n c B' m d, .int .i64 x, .bool neg, .int .u8 (mode : Int)] w (BfePost (signedS E F below neg mode (N * t10 x) (t10 (-x))) w) := by
 have hNb : bl N <= 524288 := by
  have k1 := lt_words N
  rw [ha.words, pow32] at k1
  have := bl_le k1
  omega
 obtain ⟨w0, hw0⟩ := yx (w.alloc (.cells #[.int .i64 (E : Int), .int .i64 (F : Int)] 23))
 obtain ⟨w1, hw1⟩ := yx (w0.alloc (.cells #[.bool below, .slice A n c, .slice B' m d] 53))
 have hB0 : Below w.heap.size w w0 := by rw [hw0]; exact (Below.refl _ w).alloc (Nat.le_refl _) _
 have hB1 : Below w0.heap.size w0 w1 := by rw [hw1]; exact (Below.refl _ w0).alloc (Nat.le_refl _) _
 have hsz : w0.heap.size = w.heap.size + 1 := by rw [hw0]; simp
 have hF0 : FmAt w1 w.heap.size E F := (show FmAt w0 w.heap.size E F by rw [hw0]; exact FmAt.made w _ _ _).below hB1
 have hX0 : RatioBox w1 (w.heap.size + 1) below A n c B' m d := by rw [<- hsz, hw1]; exact RatioBox.made w0 _ _ _ _ _ _ _ _
 have hB : Below w.heap.size w w1 := hB0.trans (hB1.mono hB0.size)
 have HF := vv hF0
 have HX := vv hX0
 have HB := vv hB
 have HW1 : Hid (w1 = (w.alloc (.cells #[.int .i64 (E : Int), .int .i64 (F : Int)] 23)).alloc (.cells #[.bool below, .slice A n c, .slice B' m d] 53)) := vv (by rw [hw1, hw0])
 have HST := vv hst
 have HFm := vv fun w => Form E F w h1 h2 h3 h4
 have HCk := vv fun w' (h : Below w.heap.size w w') => Check1 below A n c B' m d N w' (ha.below h rfl) (hb.below h rfl) hn h0 (hst.fs (Fs.of_nil h))
 have HRt := vv fun w' (h : Below w.heap.size w w') => Rat1 below A n c B' m d N w' (ha.below h rfl) (hb.below h rfl) (by unfold Sz; omega) (hst.fs (Fs.of_nil h))
 obtain ⟨K, hK⟩ := yx (near x (bl N + 1 + 1500))
 have HTe := vv fun g w' (hg : RatAt w' g (sg below N) 1) (hs : Std w') => Tens g (sg below N) x K w' hg (by rw [sg_abs]; omega) hx1 hx2 (by rw [sg_abs]; exact hK) hs
 have hKb : -16778717 <= K /\ K <= 16778717 := by rw [hK]; unfold near; omega
 have hb1 := ten_le K.toNat
 have hb2 := ten_le (-K).toNat
 have hb3 := bl_mul_le N (t10 K)
 have HSg : Hid (sg below N * ((t10 K : Nat) : Int) = sg below (N * t10 K)) := vv (by
  cases below
  ·show (N : Int) * _ = ((N * t10 K : Nat) : Int)
   rw [Int.natCast_mul]
  ·show -(N : Int) * _ = -((N * t10 K : Nat) : Int)
   rw [Int.natCast_mul, Int.neg_mul])
 have HRa := vv fun g w' (hg : RatAt w' g (sg below (N * t10 K)) (t10 (-K))) (hs : Std w') => RatZ g E F (N * t10 K) (t10 (-K)) below neg mode w' h1 h2 h3 h4 hg (by unfold t10 at hb3 ⊢; omega) (by unfold t10; omega) hs hm
 have HN := vv (signed_near (E := E) (F := F) (N := N) (below := below) (neg := neg) (mode := mode) 1500 x h1 h2 h3 h4 (by omega))
 rw [<- hK] at HN
 have hmi : (mode : Int) <= 4 := by omega
 have f0 := hF0.c0
 have f1 := hF0.c1
 have r0 := hX0.c0
 have r1 := hX0.c1
 have r2 := hX0.c2
 have l0 := hF0.lt
 have l1 := hX0.lt
 clear ha hb hn h0 hx1 hx2 hst hNb hw0 hw1 hB0 hB1 hsz hF0 hX0 hB hK hKb hb1 hb2 hb3 h1 h2 hm
 go_enter Tryz.func40, Tryz.ntmps40
 go_wp2_with fail
 rw [<- HW1.out]
 refine (HFm.out _).mono ?_
 rintro e w2 ⟨rfl, hB2⟩
 have HF := vv (HF.out.below hB2)
 have HX := vv (HX.out.below hB2)
 have HB := vn HB hB2
 obtain ⟨r0, r1, r2, l1⟩ := HX.out
 clear hB2 f0 f1 l0
 go_wp2_with fail
 refine (HCk.out _ HB.out).mono ?_
 rintro e w3 ⟨rfl, hB3⟩
 have HF := vv (HF.out.below hB3)
 have HX := vv (HX.out.below hB3)
 have HB := vn HB hB3
 clear hB3 r0 r1 r2 l1
 go_wp2_with fail
 refine wp_region_sch (fun w' => w'.cell? ⟨w.heap.size, 0, none⟩ = some (.int .i64 (E : Int)) /\ w'.cell? ⟨w.heap.size, 1, none⟩ = some (.int .i64 (F : Int)) /\ w'.cell? ⟨w.heap.size + 1, 0, none⟩ = some (.bool below) /\ w'.cell? ⟨w.heap.size + 1, 1, none⟩ = some (.slice A n c) /\ w'.cell? ⟨w.heap.size + 1, 2, none⟩ = some (.slice B' m d)) 13
  (.still 0 (.still 1 (.still 3 (.still 5 (.still 6 (.one 2 (.one 4 (.one 7 (.still 8 (.still 9 (.still 10 (.still 11 (.still 12 .done))))))))))))) (by kernel_rfl) (by kernel_rfl) (fun _ _ d _ _ h => by cases d <;> exact h) ⟨HF.out.c0, HF.out.c1, HX.out.c0, HX.out.c1, HX.out.c2⟩ (fun hS0 => ?_)
 iterate 5
  refine sch_still (v := ?_) rfl (by rfl) ?_ ?_
  rotate_left
  ·intro w hSw; go_simp; with_reducible rfl
  simp only [Act.put, List.setIfInBounds_toArray, List.set_cons_zero, List.set_cons_succ]
 refine sch_one rfl (by rfl) (fun K hK => ?_)
 go_simp
 refine (HRt.out _ (below_drew HB.out)).mono ?_
 rintro e w4 ⟨g4, rfl, hg4, hR4, hB4⟩
 have hB4 : Below w3.heap.size w3 w4 := ⟨hB4.os, hB4.tape, hB4.output, hB4.size, hB4.block⟩
 have HR4 := vv hR4
 have HF := vv (HF.out.below hB4)
 have HX := vv (HX.out.below hB4)
 have HB := vn HB hB4
 clear hR4 hB4
 go_wp2_with fail
 refine hK.out _ _ ⟨HF.out.c0, HF.out.c1, HX.out.c0, HX.out.c1, HX.out.c2⟩ (fun hHeld => ?_)
 clear hK
 refine sch_one rfl (by rfl) (fun K hK => ?_)
 go_simp
 refine (HTe.out g4 _ HR4.out (HST.out.fs (Fs.of_nil HB.out))).mono ?_
 rintro e w5 ⟨g5, rfl, hg5, hR5, hB5⟩
 rw [HSg.out] at hR5
 have HR5 := vv hR5
 have HF := vv (HF.out.below hB5)
 have HX := vv (HX.out.below hB5)
 have HB := vn HB hB5
 clear hR5 hB5
 go_wp2_with fail
 refine hK.out _ _ ⟨HF.out.c0, HF.out.c1, HX.out.c0, HX.out.c1, HX.out.c2⟩ (fun hHeld => ?_)
 clear hK
 refine sch_one rfl (by rfl) (fun K hK => ?_)
 go_simp
 refine (HRa.out g5 _ HR5.out (HST.out.fs (Fs.of_nil HB.out))).mono ?_
 rintro e w6 ⟨rfl, hB6⟩
 rw [HN.out]
 have HF := vv (HF.out.below hB6)
 have HX := vv (HX.out.below hB6)
 have HB := vn HB hB6
 clear hB6
 go_wp2_with fail
 refine hK.out _ _ ⟨HF.out.c0, HF.out.c1, HX.out.c0, HX.out.c1, HX.out.c2⟩ (fun hHeld => ?_)
 clear hK
 iterate 5
  refine sch_still (v := ?_) rfl (by rfl) ?_ ?_
  rotate_left
  ·intro w hSw; go_simp; with_reducible rfl
  simp only [Act.put, List.setIfInBounds_toArray, List.set_cons_zero, List.set_cons_succ]
 refine sch_end rfl ?_
 go_wp2
 go_ret3
 exact ⟨by simp, HB.out⟩
def twoOk (neg : Bool) (n : Nat) (xs : List Nat) (e : Int) : Bool :=
 natOk n xs && decide (e <= 1073741824) && decide (-1073741824 <= e) && (if n = 0 then decide (e = 0) && !neg else decide (nth xs 0 % 2 = 1))
structure DyadBox (w : World) (g : Nat) (neg : Bool) (A : Option Addr) (n c : Nat) (e : Int) : Prop where
 c0 : w.cell? ⟨g, 0, none⟩ = some (.bool neg)
 c1 : w.cell? ⟨g, 1, none⟩ = some (.slice A n c)
 c2 : w.cell? ⟨g, 2, none⟩ = some (.int .i64 e)
 lt : g < w.heap.size
theorem DyadBox.made (w : World) (neg : Bool) (A : Option Addr) (n c : Nat) (e : Int) (t : TypeId) : DyadBox (w.alloc (.cells #[.bool neg, .slice A n c, .int .i64 e] t)) w.heap.size neg A n c e :=
 ⟨by simp only [World.cell?]; rw [heap_alloc_new]; rfl, by simp only [World.cell?]; rw [heap_alloc_new]; rfl, by simp only [World.cell?]; rw [heap_alloc_new]; rfl, by simp⟩
theorem DyadBox.below {w w' : World} {g : Nat} {neg : Bool} {A : Option Addr} {n c : Nat} {e : Int} (h : DyadBox w g neg A n c e) (hb : Below w.heap.size w w') : DyadBox w' g neg A n c e :=
 ⟨(hb.cell (p := ⟨g, 0, none⟩) h.lt).trans h.c0, (hb.cell (p := ⟨g, 1, none⟩) h.lt).trans h.c1, (hb.cell (p := ⟨g, 2, none⟩) h.lt).trans h.c2, Nat.lt_of_lt_of_le h.lt hb.size⟩
theorem rem_two (x : Nat) (h : x < 4294967296) : (((x : Nat) : Int) % 2 == 1) = decide (x % 2 = 1) := by
 rcases Nat.mod_two_eq_zero_or_one x with e | e
 ·have : ((x : Nat) : Int) % 2 = 0 := by omega
  rw [this, e]; rfl
 ·have : ((x : Nat) : Int) % 2 = 1 := by omega
  rw [this, e]; rfl
set_option maxRecDepth 100000 in
set_option maxHeartbeats 1000000 in
theorem Two (neg : Bool) (A : Option Addr) (n c : Nat) (xs : List Nat) (x : Int) (w : World) (hr : Rd w A n c xs) :
  Calls Tryz.prog 36 #[dyadV neg A n c x] w fun e w' => e = .returned (.bool (twoOk neg n xs x)) /\ Below w.heap.size w w' := by
 obtain ⟨w0, hw0⟩ := yx (w.alloc (.cells #[.bool neg, .slice A n c, .int .i64 x] 30))
 have hB0 : Below w.heap.size w w0 := by rw [hw0]; exact (Below.refl _ w).alloc (Nat.le_refl _) _
 have hX0 : DyadBox w0 w.heap.size neg A n c x := by rw [hw0]; exact DyadBox.made w _ _ _ _ _ _
 have HX := vv hX0
 have HB := vv hB0
 have HW0 := vv hw0
 have HR := vv fun w' (h : Below w.heap.size w w') => hr.below h rfl
 have HMay := vv fun w' (h : Below w.heap.size w w') => May A n c xs w' (hr.below h rfl)
 have hsm := hr.sm
 have f0 := hX0.c0
 have f1 := hX0.c1
 have f2 := hX0.c2
 have hlt := hX0.lt
 clear hr hw0 hB0 hX0
 by_cases hok : natOk n xs = true
 ·rw [hok] at HMay
  have HOk := vv hok
  clear hok
  go_enter Tryz.func36, Tryz.ntmps36
  go_wp2_with fail
  rw [<- HW0.out]
  refine (HMay.out _ HB.out).mono ?_
  rintro e w1 ⟨rfl, hB1⟩
  have HX := vv (HX.out.below hB1)
  have HB := vn HB hB1
  obtain ⟨f0, f1, f2, hlt⟩ := HX.out
  clear hB1
  by_cases hx1 : 1073741824 < x
  ·have HV : Hid (twoOk neg n xs x = false) := vv (by unfold twoOk; rw [decide_eq_false (p := x <= 1073741824) (by omega)]; simp)
   have hd : decide (1073741824 < x) = true := decide_eq_true hx1
   clear hx1
   go_wp2
   go_ret
   exact ⟨retB HV.out.symm, HB.out⟩
  by_cases hx2 : x < -1073741824
  ·have HV : Hid (twoOk neg n xs x = false) := vv (by unfold twoOk; rw [decide_eq_false (p := -1073741824 <= x) (by omega)]; simp)
   have hd : decide (1073741824 < x) = false := decide_eq_false hx1
   have hd2 : decide (x < -1073741824) = true := decide_eq_true hx2
   clear hx1 hx2
   go_wp2
   go_ret
   exact ⟨retB HV.out.symm, HB.out⟩
  have HV : Hid (twoOk neg n xs x = if n = 0 then decide (x = 0) && !neg else decide (nth xs 0 % 2 = 1)) := vv (by unfold twoOk; rw [HOk.out, decide_eq_true (p := x <= 1073741824) (by omega), decide_eq_true (p := -1073741824 <= x) (by omega)]; rfl)
  have hd : decide (1073741824 < x) = false := decide_eq_false hx1
  have hd2 : decide (x < -1073741824) = false := decide_eq_false hx2
  clear hx1 hx2
  rcases Nat.eq_zero_or_pos n with h0 | h0
  ·subst h0
   by_cases hx0 : x = 0
   ·subst hx0
    have HV2 : Hid (twoOk neg 0 xs 0 = !neg) := vv (by rw [HV.out]; simp)
    clear hd hd2
    go_wp2
    go_ret
    exact ⟨retB HV2.out.symm, HB.out⟩
   ·have HV2 : Hid (twoOk neg 0 xs x = false) := vv (by rw [HV.out]; simp [hx0])
    have t0 : (x == 0) = false := by rw [beq_eq_false_iff_ne]; exact hx0
    clear hx0
    go_wp2
    go_ret
    exact ⟨retB HV2.out.symm, HB.out⟩
  ·have t0 : ((n : Int) == 0) = false := by rw [beq_eq_false_iff_ne]; omega
   obtain ⟨b, off, rfl, hb, hc⟩ := (HR.out _ HB.out).cell h0
   have hx0 := hc 0 h0
   rw [Nat.add_zero] at hx0
   have hl := (HR.out _ HB.out).nth_lt 0
   have HRem := vv (rem_two _ hl)
   have HV2 : Hid (twoOk neg n xs x = decide (nth xs 0 % 2 = 1)) := vv (by rw [HV.out, if_neg (by omega)])
   have h0' : (0 : Int) < (n : Int) := by omega
   clear hc hl
   go_wp2
   go_ret
   exact ⟨retB (by rw [HV2.out]; exact HRem.out), HB.out⟩
 ·have hok' : natOk n xs = false := by simpa using hok
  rw [hok'] at HMay
  have HV : Hid (twoOk neg n xs x = false) := vv (by unfold twoOk; rw [hok']; rfl)
  clear hok hok'
  go_enter Tryz.func36, Tryz.ntmps36
  go_wp2_with fail
  rw [<- HW0.out]
  refine (HMay.out _ HB.out).mono ?_
  rintro e w1 ⟨rfl, hB1⟩
  have HB := vn HB hB1
  clear hB1
  go_wp2
  go_ret
  exact ⟨retB HV.out.symm, HB.out⟩
set_option maxRecDepth 100000 in
set_option maxHeartbeats 4000000 in
theorem Dyadic (E F : Nat) (below neg : Bool) (mode : Nat) (A : Option Addr) (n c N : Nat) (x : Int) (w : World) (h1 : 2 <= E) (h2 : E <= 11) (h3 : 1 <= F) (h4 : F <= 52) (hm : mode <= 4)
  (ha : Rd w A n c (toL N)) (hn : n <= 16384) (hok : twoOk below n (toL N) x = true) (hx1 : -4611686018427387904 <= x) (hx2 : x <= 4611686018427387904) (hst : Std w) :
  Calls Tryz.prog 16 #[fm E F, dyadV below A n c x, .bool neg, .int .u8 (mode : Int)] w (BfePost (signedS E F below neg mode (N * p2 x) (p2 (-x))) w) := by
 have hNb : bl N <= 524288 := by
  have k1 := lt_words N
  rw [ha.words, pow32] at k1
  have := bl_le k1
  omega
 obtain ⟨w0, hw0⟩ := yx (w.alloc (.cells #[.int .i64 (E : Int), .int .i64 (F : Int)] 23))
 obtain ⟨w1, hw1⟩ := yx (w0.alloc (.cells #[.bool below, .slice A n c, .int .i64 x] 30))
 have hB0 : Below w.heap.size w w0 := by rw [hw0]; exact (Below.refl _ w).alloc (Nat.le_refl _) _
 have hB1 : Below w0.heap.size w0 w1 := by rw [hw1]; exact (Below.refl _ w0).alloc (Nat.le_refl _) _
 have hsz : w0.heap.size = w.heap.size + 1 := by rw [hw0]; simp
 have hF0 : FmAt w1 w.heap.size E F := (show FmAt w0 w.heap.size E F by rw [hw0]; exact FmAt.made w _ _ _).below hB1
 have hX0 : DyadBox w1 (w.heap.size + 1) below A n c x := by rw [<- hsz, hw1]; exact DyadBox.made w0 _ _ _ _ _ _
 have hB : Below w.heap.size w w1 := hB0.trans (hB1.mono hB0.size)
 have HFo := vv hF0
 have HX := vv hX0
 have HB := vv hB
 have HW1 : Hid (w1 = (w.alloc (.cells #[.int .i64 (E : Int), .int .i64 (F : Int)] 23)).alloc (.cells #[.bool below, .slice A n c, .int .i64 x] 30)) := vv (by rw [hw1, hw0])
 have HST := vv hst
 have HFm := vv fun w => Form E F w h1 h2 h3 h4
 have HTw := vv fun w' (h : Below w.heap.size w w') => Two below A n c (toL N) x w' (ha.below h rfl)
 rw [hok] at HTw
 have HIt := vv fun w' (h : Below w.heap.size w w') => Int_ A n c (toL N) w' (ha.below h rfl)
 rw [val_toL] at HIt
 obtain ⟨K, hK⟩ := yx (near x (bl N + 1500))
 have hKb : -16778717 <= K /\ K <= 16778717 := by rw [hK]; unfold near; omega
 have HNe := vv fun w => Near x (bl N : Int) w hx1 hx2 (by omega) (by omega)
 rw [<- hK] at HNe
 have HPw := vv fun w => power K w (by omega) (by omega)
 have hb1 : bl (p2 K) <= 16778718 := by unfold Go.Proofs.YtbfmpcfcmbjeeaaGreatDoor.p2; rw [bl_pow]; omega
 have hb2 : bl (p2 (-K)) <= 16778718 := by unfold Go.Proofs.YtbfmpcfcmbjeeaaGreatDoor.p2; rw [bl_pow]; omega
 have hb3 := bl_mul_le N (p2 K)
 have HSZ : Hid (Sz N /\ Sz 1 /\ Sz (p2 K) /\ Sz (p2 (-K))) := vv (by unfold Sz; exact ⟨by omega, by decide, by omega, by omega⟩)
 have HRa := vv fun g w' (hg : RatAt w' g (sg below (N * p2 K)) (p2 (-K))) (hs : Std w') => RatZ g E F (N * p2 K) (p2 (-K)) below neg mode w' h1 h2 h3 h4 hg (by omega) (by omega) hs hm
 have HN := vv (signed_near2 (E := E) (F := F) (N := N) (below := below) (neg := neg) (mode := mode) 1500 x h1 h2 h3 h4 (by omega))
 rw [<- hK] at HN
 have hmi : (mode : Int) <= 4 := by omega
 have f0 := hF0.c0
 have f1 := hF0.c1
 have r0 := hX0.c0
 have r1 := hX0.c1
 have r2 := hX0.c2
 have l0 := hF0.lt
 have l1 := hX0.lt
 clear ha hn hok hx1 hx2 hst hNb hw0 hw1 hB0 hB1 hsz hF0 hX0 hB hK hKb hb1 hb2 hb3 h1 h2 hm
 go_enter Tryz.func16, Tryz.ntmps16
 go_wp2_with fail
 rw [<- HW1.out]
 refine (HFm.out _).mono ?_
 rintro e w2 ⟨rfl, hB2⟩
 have HFo := vv (HFo.out.below hB2)
 have HX := vv (HX.out.below hB2)
 have HB := vn HB hB2
 obtain ⟨r0, r1, r2, l1⟩ := HX.out
 clear hB2 f0 f1 l0
 go_wp2_with fail
 refine (HTw.out _ HB.out).mono ?_
 rintro e w3 ⟨rfl, hB3⟩
 have HFo := vv (HFo.out.below hB3)
 have HX := vv (HX.out.below hB3)
 have HB := vn HB hB3
 have r1 := HX.out.c1
 have l1 := HX.out.lt
 clear hB3 r0 r2
 go_wp2_with fail
 refine (HIt.out _ HB.out).mono ?_
 rintro e w2' ⟨gn, rfl, hgn, hIn, hB4⟩
 have HFo := vv (HFo.out.below hB4)
 have HX := vv (HX.out.below hB4)
 have HB := vn HB hB4
 have HIn := vv hIn
 clear hB4 hIn r1 l1
 obtain ⟨w2, rfl⟩ : ∃ x : World, x = w2' := ⟨_, rfl⟩
 have HF := vv HX.out
 have HSg : Hid (sg true (N * p2 K) = -((N * p2 K : Nat) : Int)) := vv rfl
 have HC : Hid ((N : Int) * ((p2 K : Nat) : Int) = ((N * p2 K : Nat) : Int) /\ 1 * p2 (-K) = p2 (-K)) := vv ⟨by rw [Int.natCast_mul], Nat.one_mul _⟩
 have HBw := vv HB.out
 clear HB
 go_wp2_with fail
 refine wp_region_sch (fun w' => w'.cell? ⟨w.heap.size + 1, 2, none⟩ = some (.int .i64 x)) 10
  (.still 2 (.still 4 (.still 5 (.still 6 (.two 0 (.one 1 (.one 3 (.one 7 (.one 8 (.one 9 .done))))) 1 (.two 0 (.one 3 (.one 7 (.one 8 (.one 9 .done)))) 3 (.two 0 (.one 7 (.one 8 (.one 9 .done))) 7 (.two 0 (.one 8 (.one 9 .done)) 8 (.two 0 (.one 9 .done) 9 (.one 0 .done))))))))))
  (by kernel_rfl) (by kernel_rfl) (fun _ _ d _ _ h => by cases d <;> exact h) HF.out.c2 (fun hS0 => ?_)
 iterate 4
  refine sch_still (v := ?_) rfl (by rfl) ?_ ?_
  rotate_left
  ·intro w hSw; go_simp; with_reducible rfl
  simp only [Act.put, List.setIfInBounds_toArray, List.set_cons_zero, List.set_cons_succ]
 have hB : Below w2.heap.size w2 w2.drew := below_drew (Below.refl _ _)
 have hIn : IntAt w2.drew gn 0 (N : Int) := HIn.out.drew
 obtain ⟨wc, hwc⟩ := yx (w2.drew)
 rw [<- hwc] at hB hS0 hIn ⊢
 have HB := vv hB
 have HIn := vv hIn
 clear hB hIn hwc
 refine sch_two rfl (by rfl) rfl (by rfl) (fun K hK => ?_) (fun K hK => ?_)
 ·go_simp
  obtain ⟨z0, hBn⟩ := one_rat wc
  obtain ⟨g0, hg0⟩ := yx (wc.heap.size)
  have hge0 : w2.heap.size <= g0 := by have := HB.out.size; omega
  have hn0 : ∀ g, g < wc.heap.size -> g ≠ g0 := fun g h => by omega
  have HN0 := vv hn0
  obtain ⟨wn, hwn⟩ := yx (wc.alloc ratZ)
  rw [<- hwn] at z0 hBn ⊢
  rw [<- hg0] at z0 ⊢
  try have HNE : Hid (g1 ≠ g0) := vv (HN0.out g1 HZ1.out.lt)
  try have HNE : Hid (g1 ≠ g0) := vv (HN0.out g1 HR3.out.lt)
  clear hn0 hwn hg0
  try have HZ0 := vv (HZ0.out.below hBn)
  try have HZ1 := vv (HZ1.out.below hBn)
  try have HR3 := vv (HR3.out.below hBn)
  try have HR9 := vv (HR9.out.below hBn)
  have HIn := vv (HIn.out.below hBn)
  have hbn := HB.out.trans (hBn.mono HB.out.size)
  have HB := vv hbn
  clear hBn hbn
  obtain ⟨wc, rfl⟩ := yx wn
  have HZ0 := vv z0
  clear z0
  go_wp2_with fail
  refine hK.out _ _ (HF.out.below HB.out).c2 (fun hHeld => ?_)
  clear hK
  refine sch_one rfl (by rfl) (fun K hK => ?_)
  go_simp
  obtain ⟨z1, hBn⟩ := one_rat wc
  obtain ⟨g1, hg1⟩ := yx (wc.heap.size)
  have hge1 : w2.heap.size <= g1 := by have := HB.out.size; omega
  have hn1 : ∀ g, g < wc.heap.size -> g ≠ g1 := fun g h => by omega
  have HN1 := vv hn1
  obtain ⟨wn, hwn⟩ := yx (wc.alloc ratZ)
  rw [<- hwn] at z1 hBn ⊢
  rw [<- hg1] at z1 ⊢
  try have HNE : Hid (g1 ≠ g0) := vv (Ne.symm (HN1.out g0 HZ0.out.lt))
  have HNI : Hid (g1 ≠ gn) := vv (Ne.symm (HN1.out gn HIn.out.lt))
  clear hn1 hwn hg1
  try have HZ0 := vv (HZ0.out.below hBn)
  try have HZ1 := vv (HZ1.out.below hBn)
  try have HR3 := vv (HR3.out.below hBn)
  try have HR9 := vv (HR9.out.below hBn)
  have HIn := vv (HIn.out.below hBn)
  have hbn := HB.out.trans (hBn.mono HB.out.size)
  have HB := vv hbn
  clear hBn hbn
  obtain ⟨wc, rfl⟩ := yx wn
  have HZ1 := vv z1
  clear z1
  go_wp2_with fail
  refine hK.out _ _ (HF.out.below HB.out).c2 (fun hHeld => ?_)
  clear hK
  refine sch_one rfl (by rfl) (fun K hK => ?_)
  go_simp
  refine (B.SetInt g1 gn _ _ HZ1.out.sh HIn.out).mono ?_
  rintro e wn hP
  try have HZ0 := vv (HZ0.out.fs1 hP.2.2 HNE.out)
  have HIn := vv (HIn.out.fs1 hP.2.2 HNI.out)
  have hbn := hP.below HB.out HB.out.size hge1
  have HB := vv hbn
  obtain ⟨rfl, hR3, -⟩ := hP
  have HR3 := vv hR3
  clear hR3 hbn HZ1
  obtain ⟨wc, rfl⟩ := yx wn
  go_wp2_with fail
  refine hK.out _ _ (HF.out.below HB.out).c2 (fun hHeld => ?_)
  clear hK
  refine sch_one rfl (by rfl) (fun K hK => ?_)
  go_simp
  refine (B.BitLen gn 0 _ _ HIn.out).mono ?_
  rintro e w' ⟨rfl, rfl⟩
  go_wp2_with fail
  refine hK.out _ _ (HF.out.below HB.out).c2 (fun hHeld => ?_)
  clear hK
  refine sch_one rfl (by rfl) (fun K hK => ?_)
  go_simp
  refine (HNe.out _).mono ?_
  rintro e w' ⟨rfl, rfl⟩
  go_wp2_with fail
  refine hK.out _ _ (HF.out.below HB.out).c2 (fun hHeld => ?_)
  clear hK
  refine sch_one rfl (by rfl) (fun K hK => ?_)
  go_simp
  refine (HPw.out _).mono ?_
  rintro e wn ⟨g9, rfl, hg9, hR9, hBn⟩
  try have HZ0 := vv (HZ0.out.below hBn)
  try have HZ1 := vv (HZ1.out.below hBn)
  try have HR3 := vv (HR3.out.below hBn)
  try have HR9 := vv (HR9.out.below hBn)
  have HIn := vv (HIn.out.below hBn)
  have hbn := HB.out.trans (hBn.mono HB.out.size)
  have HB := vv hbn
  clear hBn hbn
  obtain ⟨wc, rfl⟩ := yx wn
  have HR9 := vv hR9
  clear hR9
  go_wp2_with fail
  refine hK.out _ _ (HF.out.below HB.out).c2 (fun hHeld => ?_)
  clear hK
  refine sch_done ?_
  go_wp2_with fail
  refine (B.MulR g0 g1 g9 _ _ _ _ _ HZ0.out.sh HR3.out HR9.out (HST.out.fs (Fs.of_nil (HBw.out.trans (HB.out.mono HBw.out.size)))) (by exact HSZ.out.1) HSZ.out.2.1 (by exact HSZ.out.2.2.1) HSZ.out.2.2.2).mono ?_
  rintro e wn hP
  rw [HC.out.1, HC.out.2] at hP
  have hbn := hP.below HB.out HB.out.size hge0
  have HB := vv hbn
  obtain ⟨rfl, hR, -⟩ := hP
  have HR := vv hR
  clear hR hbn
  have d0 := (HF.out.below HB.out).c0
  have ld := (HF.out.below HB.out).lt
  obtain ⟨f0, f1, l0⟩ := (HFo.out.below HB.out)
  cases below
  ·go_wp2_with fail
   refine (HRa.out g0 _ HR.out (HST.out.fs (Fs.of_nil (HBw.out.trans (HB.out.mono HBw.out.size))))).mono ?_
   rintro e w8 ⟨rfl, hB8⟩
   rw [HN.out]
   have HB8 := vn HB hB8
   clear hB8 d0 ld f0 f1 l0
   go_wp2
   go_ret3
   exact ⟨by simp, HBw.out.trans (HB8.out.mono HBw.out.size)⟩
  ·go_wp2_with fail
   refine (B.NegR g0 g0 _ _ _ HR.out.sh HR.out).mono ?_
   rintro e w7 hP
   rw [<- HSg.out] at hP
   have hbn := hP.below HB.out HB.out.size hge0
   have HB := vv hbn
   obtain ⟨rfl, hR, -⟩ := hP
   have HR := vv hR
   clear hR hbn d0 ld f0 f1 l0
   obtain ⟨f0, f1, l0⟩ := (HFo.out.below HB.out)
   go_wp2_with fail
   refine (HRa.out g0 _ HR.out (HST.out.fs (Fs.of_nil (HBw.out.trans (HB.out.mono HBw.out.size))))).mono ?_
   rintro e w8 ⟨rfl, hB8⟩
   rw [HN.out]
   have HB8 := vn HB hB8
   clear hB8 f0 f1 l0
   go_wp2
   go_ret3
   exact ⟨by simp, HBw.out.trans (HB8.out.mono HBw.out.size)⟩
 ·go_simp
  obtain ⟨z1, hBn⟩ := one_rat wc
  obtain ⟨g1, hg1⟩ := yx (wc.heap.size)
  have hge1 : w2.heap.size <= g1 := by have := HB.out.size; omega
  have hn1 : ∀ g, g < wc.heap.size -> g ≠ g1 := fun g h => by omega
  have HN1 := vv hn1
  obtain ⟨wn, hwn⟩ := yx (wc.alloc ratZ)
  rw [<- hwn] at z1 hBn ⊢
  rw [<- hg1] at z1 ⊢
  try have HNE : Hid (g1 ≠ g0) := vv (Ne.symm (HN1.out g0 HZ0.out.lt))
  have HNI : Hid (g1 ≠ gn) := vv (Ne.symm (HN1.out gn HIn.out.lt))
  clear hn1 hwn hg1
  try have HZ0 := vv (HZ0.out.below hBn)
  try have HZ1 := vv (HZ1.out.below hBn)
  try have HR3 := vv (HR3.out.below hBn)
  try have HR9 := vv (HR9.out.below hBn)
  have HIn := vv (HIn.out.below hBn)
  have hbn := HB.out.trans (hBn.mono HB.out.size)
  have HB := vv hbn
  clear hBn hbn
  obtain ⟨wc, rfl⟩ := yx wn
  have HZ1 := vv z1
  clear z1
  go_wp2_with fail
  refine hK.out _ _ (HF.out.below HB.out).c2 (fun hHeld => ?_)
  clear hK
  refine sch_two rfl (by rfl) rfl (by rfl) (fun K hK => ?_) (fun K hK => ?_)
  ·go_simp
   obtain ⟨z0, hBn⟩ := one_rat wc
   obtain ⟨g0, hg0⟩ := yx (wc.heap.size)
   have hge0 : w2.heap.size <= g0 := by have := HB.out.size; omega
   have hn0 : ∀ g, g < wc.heap.size -> g ≠ g0 := fun g h => by omega
   have HN0 := vv hn0
   obtain ⟨wn, hwn⟩ := yx (wc.alloc ratZ)
   rw [<- hwn] at z0 hBn ⊢
   rw [<- hg0] at z0 ⊢
   try have HNE : Hid (g1 ≠ g0) := vv (HN0.out g1 HZ1.out.lt)
   try have HNE : Hid (g1 ≠ g0) := vv (HN0.out g1 HR3.out.lt)
   clear hn0 hwn hg0
   try have HZ0 := vv (HZ0.out.below hBn)
   try have HZ1 := vv (HZ1.out.below hBn)
   try have HR3 := vv (HR3.out.below hBn)
   try have HR9 := vv (HR9.out.below hBn)
   have HIn := vv (HIn.out.below hBn)
   have hbn := HB.out.trans (hBn.mono HB.out.size)
   have HB := vv hbn
   clear hBn hbn
   obtain ⟨wc, rfl⟩ := yx wn
   have HZ0 := vv z0
   clear z0
   go_wp2_with fail
   refine hK.out _ _ (HF.out.below HB.out).c2 (fun hHeld => ?_)
   clear hK
   refine sch_one rfl (by rfl) (fun K hK => ?_)
   go_simp
   refine (B.SetInt g1 gn _ _ HZ1.out.sh HIn.out).mono ?_
   rintro e wn hP
   try have HZ0 := vv (HZ0.out.fs1 hP.2.2 HNE.out)
   have HIn := vv (HIn.out.fs1 hP.2.2 HNI.out)
   have hbn := hP.below HB.out HB.out.size hge1
   have HB := vv hbn
   obtain ⟨rfl, hR3, -⟩ := hP
   have HR3 := vv hR3
   clear hR3 hbn HZ1
   obtain ⟨wc, rfl⟩ := yx wn
   go_wp2_with fail
   refine hK.out _ _ (HF.out.below HB.out).c2 (fun hHeld => ?_)
   clear hK
   refine sch_one rfl (by rfl) (fun K hK => ?_)
   go_simp
   refine (B.BitLen gn 0 _ _ HIn.out).mono ?_
   rintro e w' ⟨rfl, rfl⟩
   go_wp2_with fail
   refine hK.out _ _ (HF.out.below HB.out).c2 (fun hHeld => ?_)
   clear hK
   refine sch_one rfl (by rfl) (fun K hK => ?_)
   go_simp
   refine (HNe.out _).mono ?_
   rintro e w' ⟨rfl, rfl⟩
   go_wp2_with fail
   refine hK.out _ _ (HF.out.below HB.out).c2 (fun hHeld => ?_)
   clear hK
   refine sch_one rfl (by rfl) (fun K hK => ?_)
   go_simp
   refine (HPw.out _).mono ?_
   rintro e wn ⟨g9, rfl, hg9, hR9, hBn⟩
   try have HZ0 := vv (HZ0.out.below hBn)
   try have HZ1 := vv (HZ1.out.below hBn)
   try have HR3 := vv (HR3.out.below hBn)
   try have HR9 := vv (HR9.out.below hBn)
   have HIn := vv (HIn.out.below hBn)
   have hbn := HB.out.trans (hBn.mono HB.out.size)
   have HB := vv hbn
   clear hBn hbn
   obtain ⟨wc, rfl⟩ := yx wn
   have HR9 := vv hR9
   clear hR9
   go_wp2_with fail
   refine hK.out _ _ (HF.out.below HB.out).c2 (fun hHeld => ?_)
   clear hK
   refine sch_done ?_
   go_wp2_with fail
   refine (B.MulR g0 g1 g9 _ _ _ _ _ HZ0.out.sh HR3.out HR9.out (HST.out.fs (Fs.of_nil (HBw.out.trans (HB.out.mono HBw.out.size)))) (by exact HSZ.out.1) HSZ.out.2.1 (by exact HSZ.out.2.2.1) HSZ.out.2.2.2).mono ?_
   rintro e wn hP
   rw [HC.out.1, HC.out.2] at hP
   have hbn := hP.below HB.out HB.out.size hge0
   have HB := vv hbn
   obtain ⟨rfl, hR, -⟩ := hP
   have HR := vv hR
   clear hR hbn
   have d0 := (HF.out.below HB.out).c0
   have ld := (HF.out.below HB.out).lt
   obtain ⟨f0, f1, l0⟩ := (HFo.out.below HB.out)
   cases below
   ·go_wp2_with fail
    refine (HRa.out g0 _ HR.out (HST.out.fs (Fs.of_nil (HBw.out.trans (HB.out.mono HBw.out.size))))).mono ?_
    rintro e w8 ⟨rfl, hB8⟩
    rw [HN.out]
    have HB8 := vn HB hB8
    clear hB8 d0 ld f0 f1 l0
    go_wp2
    go_ret3
    exact ⟨by simp, HBw.out.trans (HB8.out.mono HBw.out.size)⟩
   ·go_wp2_with fail
    refine (B.NegR g0 g0 _ _ _ HR.out.sh HR.out).mono ?_
    rintro e w7 hP
    rw [<- HSg.out] at hP
    have hbn := hP.below HB.out HB.out.size hge0
    have HB := vv hbn
    obtain ⟨rfl, hR, -⟩ := hP
    have HR := vv hR
    clear hR hbn d0 ld f0 f1 l0
    obtain ⟨f0, f1, l0⟩ := (HFo.out.below HB.out)
    go_wp2_with fail
    refine (HRa.out g0 _ HR.out (HST.out.fs (Fs.of_nil (HBw.out.trans (HB.out.mono HBw.out.size))))).mono ?_
    rintro e w8 ⟨rfl, hB8⟩
    rw [HN.out]
    have HB8 := vn HB hB8
    clear hB8 f0 f1 l0
    go_wp2
    go_ret3
    exact ⟨by simp, HBw.out.trans (HB8.out.mono HBw.out.size)⟩
  ·go_simp
   refine (B.SetInt g1 gn _ _ HZ1.out.sh HIn.out).mono ?_
   rintro e wn hP
   try have HZ0 := vv (HZ0.out.fs1 hP.2.2 HNE.out)
   have HIn := vv (HIn.out.fs1 hP.2.2 HNI.out)
   have hbn := hP.below HB.out HB.out.size hge1
   have HB := vv hbn
   obtain ⟨rfl, hR3, -⟩ := hP
   have HR3 := vv hR3
   clear hR3 hbn HZ1
   obtain ⟨wc, rfl⟩ := yx wn
   go_wp2_with fail
   refine hK.out _ _ (HF.out.below HB.out).c2 (fun hHeld => ?_)
   clear hK
   refine sch_two rfl (by rfl) rfl (by rfl) (fun K hK => ?_) (fun K hK => ?_)
   ·go_simp
    obtain ⟨z0, hBn⟩ := one_rat wc
    obtain ⟨g0, hg0⟩ := yx (wc.heap.size)
    have hge0 : w2.heap.size <= g0 := by have := HB.out.size; omega
    have hn0 : ∀ g, g < wc.heap.size -> g ≠ g0 := fun g h => by omega
    have HN0 := vv hn0
    obtain ⟨wn, hwn⟩ := yx (wc.alloc ratZ)
    rw [<- hwn] at z0 hBn ⊢
    rw [<- hg0] at z0 ⊢
    try have HNE : Hid (g1 ≠ g0) := vv (HN0.out g1 HZ1.out.lt)
    try have HNE : Hid (g1 ≠ g0) := vv (HN0.out g1 HR3.out.lt)
    clear hn0 hwn hg0
    try have HZ0 := vv (HZ0.out.below hBn)
    try have HZ1 := vv (HZ1.out.below hBn)
    try have HR3 := vv (HR3.out.below hBn)
    try have HR9 := vv (HR9.out.below hBn)
    have HIn := vv (HIn.out.below hBn)
    have hbn := HB.out.trans (hBn.mono HB.out.size)
    have HB := vv hbn
    clear hBn hbn
    obtain ⟨wc, rfl⟩ := yx wn
    have HZ0 := vv z0
    clear z0
    go_wp2_with fail
    refine hK.out _ _ (HF.out.below HB.out).c2 (fun hHeld => ?_)
    clear hK
    refine sch_one rfl (by rfl) (fun K hK => ?_)
    go_simp
    refine (B.BitLen gn 0 _ _ HIn.out).mono ?_
    rintro e w' ⟨rfl, rfl⟩
    go_wp2_with fail
    refine hK.out _ _ (HF.out.below HB.out).c2 (fun hHeld => ?_)
    clear hK
    refine sch_one rfl (by rfl) (fun K hK => ?_)
    go_simp
    refine (HNe.out _).mono ?_
    rintro e w' ⟨rfl, rfl⟩
    go_wp2_with fail
    refine hK.out _ _ (HF.out.below HB.out).c2 (fun hHeld => ?_)
    clear hK
    refine sch_one rfl (by rfl) (fun K hK => ?_)
    go_simp
    refine (HPw.out _).mono ?_
    rintro e wn ⟨g9, rfl, hg9, hR9, hBn⟩
    try have HZ0 := vv (HZ0.out.below hBn)
    try have HZ1 := vv (HZ1.out.below hBn)
    try have HR3 := vv (HR3.out.below hBn)
    try have HR9 := vv (HR9.out.below hBn)
    have HIn := vv (HIn.out.below hBn)
    have hbn := HB.out.trans (hBn.mono HB.out.size)
    have HB := vv hbn
    clear hBn hbn
    obtain ⟨wc, rfl⟩ := yx wn
    have HR9 := vv hR9
    clear hR9
    go_wp2_with fail
    refine hK.out _ _ (HF.out.below HB.out).c2 (fun hHeld => ?_)
    clear hK
    refine sch_done ?_
    go_wp2_with fail
    refine (B.MulR g0 g1 g9 _ _ _ _ _ HZ0.out.sh HR3.out HR9.out (HST.out.fs (Fs.of_nil (HBw.out.trans (HB.out.mono HBw.out.size)))) (by exact HSZ.out.1) HSZ.out.2.1 (by exact HSZ.out.2.2.1) HSZ.out.2.2.2).mono ?_
    rintro e wn hP
    rw [HC.out.1, HC.out.2] at hP
    have hbn := hP.below HB.out HB.out.size hge0
    have HB := vv hbn
    obtain ⟨rfl, hR, -⟩ := hP
    have HR := vv hR
    clear hR hbn
    have d0 := (HF.out.below HB.out).c0
    have ld := (HF.out.below HB.out).lt
    obtain ⟨f0, f1, l0⟩ := (HFo.out.below HB.out)
    cases below
    ·go_wp2_with fail
     refine (HRa.out g0 _ HR.out (HST.out.fs (Fs.of_nil (HBw.out.trans (HB.out.mono HBw.out.size))))).mono ?_
     rintro e w8 ⟨rfl, hB8⟩
     rw [HN.out]
     have HB8 := vn HB hB8
     clear hB8 d0 ld f0 f1 l0
     go_wp2
     go_ret3
     exact ⟨by simp, HBw.out.trans (HB8.out.mono HBw.out.size)⟩
    ·go_wp2_with fail
     refine (B.NegR g0 g0 _ _ _ HR.out.sh HR.out).mono ?_
     rintro e w7 hP
     rw [<- HSg.out] at hP
     have hbn := hP.below HB.out HB.out.size hge0
     have HB := vv hbn
     obtain ⟨rfl, hR, -⟩ := hP
     have HR := vv hR
     clear hR hbn d0 ld f0 f1 l0
     obtain ⟨f0, f1, l0⟩ := (HFo.out.below HB.out)
     go_wp2_with fail
     refine (HRa.out g0 _ HR.out (HST.out.fs (Fs.of_nil (HBw.out.trans (HB.out.mono HBw.out.size))))).mono ?_
     rintro e w8 ⟨rfl, hB8⟩
     rw [HN.out]
     have HB8 := vn HB hB8
     clear hB8 f0 f1 l0
     go_wp2
     go_ret3
     exact ⟨by simp, HBw.out.trans (HB8.out.mono HBw.out.size)⟩
   ·go_simp
    refine (B.BitLen gn 0 _ _ HIn.out).mono ?_
    rintro e w' ⟨rfl, rfl⟩
    go_wp2_with fail
    refine hK.out _ _ (HF.out.below HB.out).c2 (fun hHeld => ?_)
    clear hK
    refine sch_two rfl (by rfl) rfl (by rfl) (fun K hK => ?_) (fun K hK => ?_)
    ·go_simp
     obtain ⟨z0, hBn⟩ := one_rat wc
     obtain ⟨g0, hg0⟩ := yx (wc.heap.size)
     have hge0 : w2.heap.size <= g0 := by have := HB.out.size; omega
     have hn0 : ∀ g, g < wc.heap.size -> g ≠ g0 := fun g h => by omega
     have HN0 := vv hn0
     obtain ⟨wn, hwn⟩ := yx (wc.alloc ratZ)
     rw [<- hwn] at z0 hBn ⊢
     rw [<- hg0] at z0 ⊢
     try have HNE : Hid (g1 ≠ g0) := vv (HN0.out g1 HZ1.out.lt)
     try have HNE : Hid (g1 ≠ g0) := vv (HN0.out g1 HR3.out.lt)
     clear hn0 hwn hg0
     try have HZ0 := vv (HZ0.out.below hBn)
     try have HZ1 := vv (HZ1.out.below hBn)
     try have HR3 := vv (HR3.out.below hBn)
     try have HR9 := vv (HR9.out.below hBn)
     have HIn := vv (HIn.out.below hBn)
     have hbn := HB.out.trans (hBn.mono HB.out.size)
     have HB := vv hbn
     clear hBn hbn
     obtain ⟨wc, rfl⟩ := yx wn
     have HZ0 := vv z0
     clear z0
     go_wp2_with fail
     refine hK.out _ _ (HF.out.below HB.out).c2 (fun hHeld => ?_)
     clear hK
     refine sch_one rfl (by rfl) (fun K hK => ?_)
     go_simp
     refine (HNe.out _).mono ?_
     rintro e w' ⟨rfl, rfl⟩
     go_wp2_with fail
     refine hK.out _ _ (HF.out.below HB.out).c2 (fun hHeld => ?_)
     clear hK
     refine sch_one rfl (by rfl) (fun K hK => ?_)
     go_simp
     refine (HPw.out _).mono ?_
     rintro e wn ⟨g9, rfl, hg9, hR9, hBn⟩
     try have HZ0 := vv (HZ0.out.below hBn)
     try have HZ1 := vv (HZ1.out.below hBn)
     try have HR3 := vv (HR3.out.below hBn)
     try have HR9 := vv (HR9.out.below hBn)
     have HIn := vv (HIn.out.below hBn)
     have hbn := HB.out.trans (hBn.mono HB.out.size)
     have HB := vv hbn
     clear hBn hbn
     obtain ⟨wc, rfl⟩ := yx wn
     have HR9 := vv hR9
     clear hR9
     go_wp2_with fail
     refine hK.out _ _ (HF.out.below HB.out).c2 (fun hHeld => ?_)
     clear hK
     refine sch_done ?_
     go_wp2_with fail
     refine (B.MulR g0 g1 g9 _ _ _ _ _ HZ0.out.sh HR3.out HR9.out (HST.out.fs (Fs.of_nil (HBw.out.trans (HB.out.mono HBw.out.size)))) (by exact HSZ.out.1) HSZ.out.2.1 (by exact HSZ.out.2.2.1) HSZ.out.2.2.2).mono ?_
     rintro e wn hP
     rw [HC.out.1, HC.out.2] at hP
     have hbn := hP.below HB.out HB.out.size hge0
     have HB := vv hbn
     obtain ⟨rfl, hR, -⟩ := hP
     have HR := vv hR
     clear hR hbn
     have d0 := (HF.out.below HB.out).c0
     have ld := (HF.out.below HB.out).lt
     obtain ⟨f0, f1, l0⟩ := (HFo.out.below HB.out)
     cases below
     ·go_wp2_with fail
      refine (HRa.out g0 _ HR.out (HST.out.fs (Fs.of_nil (HBw.out.trans (HB.out.mono HBw.out.size))))).mono ?_
      rintro e w8 ⟨rfl, hB8⟩
      rw [HN.out]
      have HB8 := vn HB hB8
      clear hB8 d0 ld f0 f1 l0
      go_wp2
      go_ret3
      exact ⟨by simp, HBw.out.trans (HB8.out.mono HBw.out.size)⟩
     ·go_wp2_with fail
      refine (B.NegR g0 g0 _ _ _ HR.out.sh HR.out).mono ?_
      rintro e w7 hP
      rw [<- HSg.out] at hP
      have hbn := hP.below HB.out HB.out.size hge0
      have HB := vv hbn
      obtain ⟨rfl, hR, -⟩ := hP
      have HR := vv hR
      clear hR hbn d0 ld f0 f1 l0
      obtain ⟨f0, f1, l0⟩ := (HFo.out.below HB.out)
      go_wp2_with fail
      refine (HRa.out g0 _ HR.out (HST.out.fs (Fs.of_nil (HBw.out.trans (HB.out.mono HBw.out.size))))).mono ?_
      rintro e w8 ⟨rfl, hB8⟩
      rw [HN.out]
      have HB8 := vn HB hB8
      clear hB8 f0 f1 l0
      go_wp2
      go_ret3
      exact ⟨by simp, HBw.out.trans (HB8.out.mono HBw.out.size)⟩
    ·go_simp
     refine (HNe.out _).mono ?_
     rintro e w' ⟨rfl, rfl⟩
     go_wp2_with fail
     refine hK.out _ _ (HF.out.below HB.out).c2 (fun hHeld => ?_)
     clear hK
     refine sch_two rfl (by rfl) rfl (by rfl) (fun K hK => ?_) (fun K hK => ?_)
     ·go_simp
      obtain ⟨z0, hBn⟩ := one_rat wc
      obtain ⟨g0, hg0⟩ := yx (wc.heap.size)
      have hge0 : w2.heap.size <= g0 := by have := HB.out.size; omega
      have hn0 : ∀ g, g < wc.heap.size -> g ≠ g0 := fun g h => by omega
      have HN0 := vv hn0
      obtain ⟨wn, hwn⟩ := yx (wc.alloc ratZ)
      rw [<- hwn] at z0 hBn ⊢
      rw [<- hg0] at z0 ⊢
      try have HNE : Hid (g1 ≠ g0) := vv (HN0.out g1 HZ1.out.lt)
      try have HNE : Hid (g1 ≠ g0) := vv (HN0.out g1 HR3.out.lt)
      clear hn0 hwn hg0
      try have HZ0 := vv (HZ0.out.below hBn)
      try have HZ1 := vv (HZ1.out.below hBn)
      try have HR3 := vv (HR3.out.below hBn)
      try have HR9 := vv (HR9.out.below hBn)
      have HIn := vv (HIn.out.below hBn)
      have hbn := HB.out.trans (hBn.mono HB.out.size)
      have HB := vv hbn
      clear hBn hbn
      obtain ⟨wc, rfl⟩ := yx wn
      have HZ0 := vv z0
      clear z0
      go_wp2_with fail
      refine hK.out _ _ (HF.out.below HB.out).c2 (fun hHeld => ?_)
      clear hK
      refine sch_one rfl (by rfl) (fun K hK => ?_)
      go_simp
      refine (HPw.out _).mono ?_
      rintro e wn ⟨g9, rfl, hg9, hR9, hBn⟩
      try have HZ0 := vv (HZ0.out.below hBn)
      try have HZ1 := vv (HZ1.out.below hBn)
      try have HR3 := vv (HR3.out.below hBn)
      try have HR9 := vv (HR9.out.below hBn)
      have HIn := vv (HIn.out.below hBn)
      have hbn := HB.out.trans (hBn.mono HB.out.size)
      have HB := vv hbn
      clear hBn hbn
      obtain ⟨wc, rfl⟩ := yx wn
      have HR9 := vv hR9
      clear hR9
      go_wp2_with fail
      refine hK.out _ _ (HF.out.below HB.out).c2 (fun hHeld => ?_)
      clear hK
      refine sch_done ?_
      go_wp2_with fail
      refine (B.MulR g0 g1 g9 _ _ _ _ _ HZ0.out.sh HR3.out HR9.out (HST.out.fs (Fs.of_nil (HBw.out.trans (HB.out.mono HBw.out.size)))) (by exact HSZ.out.1) HSZ.out.2.1 (by exact HSZ.out.2.2.1) HSZ.out.2.2.2).mono ?_
      rintro e wn hP
      rw [HC.out.1, HC.out.2] at hP
      have hbn := hP.below HB.out HB.out.size hge0
      have HB := vv hbn
      obtain ⟨rfl, hR, -⟩ := hP
      have HR := vv hR
      clear hR hbn
      have d0 := (HF.out.below HB.out).c0
      have ld := (HF.out.below HB.out).lt
      obtain ⟨f0, f1, l0⟩ := (HFo.out.below HB.out)
      cases below
      ·go_wp2_with fail
       refine (HRa.out g0 _ HR.out (HST.out.fs (Fs.of_nil (HBw.out.trans (HB.out.mono HBw.out.size))))).mono ?_
       rintro e w8 ⟨rfl, hB8⟩
       rw [HN.out]
       have HB8 := vn HB hB8
       clear hB8 d0 ld f0 f1 l0
       go_wp2
       go_ret3
       exact ⟨by simp, HBw.out.trans (HB8.out.mono HBw.out.size)⟩
      ·go_wp2_with fail
       refine (B.NegR g0 g0 _ _ _ HR.out.sh HR.out).mono ?_
       rintro e w7 hP
       rw [<- HSg.out] at hP
       have hbn := hP.below HB.out HB.out.size hge0
       have HB := vv hbn
       obtain ⟨rfl, hR, -⟩ := hP
       have HR := vv hR
       clear hR hbn d0 ld f0 f1 l0
       obtain ⟨f0, f1, l0⟩ := (HFo.out.below HB.out)
       go_wp2_with fail
       refine (HRa.out g0 _ HR.out (HST.out.fs (Fs.of_nil (HBw.out.trans (HB.out.mono HBw.out.size))))).mono ?_
       rintro e w8 ⟨rfl, hB8⟩
       rw [HN.out]
       have HB8 := vn HB hB8
       clear hB8 f0 f1 l0
       go_wp2
       go_ret3
       exact ⟨by simp, HBw.out.trans (HB8.out.mono HBw.out.size)⟩
     ·go_simp
      refine (HPw.out _).mono ?_
      rintro e wn ⟨g9, rfl, hg9, hR9, hBn⟩
      try have HZ0 := vv (HZ0.out.below hBn)
      try have HZ1 := vv (HZ1.out.below hBn)
      try have HR3 := vv (HR3.out.below hBn)
      try have HR9 := vv (HR9.out.below hBn)
      have HIn := vv (HIn.out.below hBn)
      have hbn := HB.out.trans (hBn.mono HB.out.size)
      have HB := vv hbn
      clear hBn hbn
      obtain ⟨wc, rfl⟩ := yx wn
      have HR9 := vv hR9
      clear hR9
      go_wp2_with fail
      refine hK.out _ _ (HF.out.below HB.out).c2 (fun hHeld => ?_)
      clear hK
      refine sch_one rfl (by rfl) (fun K hK => ?_)
      go_simp
      obtain ⟨z0, hBn⟩ := one_rat wc
      obtain ⟨g0, hg0⟩ := yx (wc.heap.size)
      have hge0 : w2.heap.size <= g0 := by have := HB.out.size; omega
      have hn0 : ∀ g, g < wc.heap.size -> g ≠ g0 := fun g h => by omega
      have HN0 := vv hn0
      obtain ⟨wn, hwn⟩ := yx (wc.alloc ratZ)
      rw [<- hwn] at z0 hBn ⊢
      rw [<- hg0] at z0 ⊢
      try have HNE : Hid (g1 ≠ g0) := vv (HN0.out g1 HZ1.out.lt)
      try have HNE : Hid (g1 ≠ g0) := vv (HN0.out g1 HR3.out.lt)
      clear hn0 hwn hg0
      try have HZ0 := vv (HZ0.out.below hBn)
      try have HZ1 := vv (HZ1.out.below hBn)
      try have HR3 := vv (HR3.out.below hBn)
      try have HR9 := vv (HR9.out.below hBn)
      have HIn := vv (HIn.out.below hBn)
      have hbn := HB.out.trans (hBn.mono HB.out.size)
      have HB := vv hbn
      clear hBn hbn
      obtain ⟨wc, rfl⟩ := yx wn
      have HZ0 := vv z0
      clear z0
      go_wp2_with fail
      refine hK.out _ _ (HF.out.below HB.out).c2 (fun hHeld => ?_)
      clear hK
      refine sch_done ?_
      go_wp2_with fail
      refine (B.MulR g0 g1 g9 _ _ _ _ _ HZ0.out.sh HR3.out HR9.out (HST.out.fs (Fs.of_nil (HBw.out.trans (HB.out.mono HBw.out.size)))) (by exact HSZ.out.1) HSZ.out.2.1 (by exact HSZ.out.2.2.1) HSZ.out.2.2.2).mono ?_
      rintro e wn hP
      rw [HC.out.1, HC.out.2] at hP
      have hbn := hP.below HB.out HB.out.size hge0
      have HB := vv hbn
      obtain ⟨rfl, hR, -⟩ := hP
      have HR := vv hR
      clear hR hbn
      have d0 := (HF.out.below HB.out).c0
      have ld := (HF.out.below HB.out).lt
      obtain ⟨f0, f1, l0⟩ := (HFo.out.below HB.out)
      cases below
      ·go_wp2_with fail
       refine (HRa.out g0 _ HR.out (HST.out.fs (Fs.of_nil (HBw.out.trans (HB.out.mono HBw.out.size))))).mono ?_
       rintro e w8 ⟨rfl, hB8⟩
       rw [HN.out]
       have HB8 := vn HB hB8
       clear hB8 d0 ld f0 f1 l0
       go_wp2
       go_ret3
       exact ⟨by simp, HBw.out.trans (HB8.out.mono HBw.out.size)⟩
      ·go_wp2_with fail
       refine (B.NegR g0 g0 _ _ _ HR.out.sh HR.out).mono ?_
       rintro e w7 hP
       rw [<- HSg.out] at hP
       have hbn := hP.below HB.out HB.out.size hge0
       have HB := vv hbn
       obtain ⟨rfl, hR, -⟩ := hP
       have HR := vv hR
       clear hR hbn d0 ld f0 f1 l0
       obtain ⟨f0, f1, l0⟩ := (HFo.out.below HB.out)
       go_wp2_with fail
       refine (HRa.out g0 _ HR.out (HST.out.fs (Fs.of_nil (HBw.out.trans (HB.out.mono HBw.out.size))))).mono ?_
       rintro e w8 ⟨rfl, hB8⟩
       rw [HN.out]
       have HB8 := vn HB hB8
       clear hB8 f0 f1 l0
       go_wp2
       go_ret3
       exact ⟨by simp, HBw.out.trans (HB8.out.mono HBw.out.size)⟩
end Go.Proofs.YtbfmpcfcmbjeeaaGreatDoor.R5
namespace Go.Proofs.YtbfmpcfcmbjeeaaGreatDoor.A
open Go Go.RowKit
theorem Mul (g o gx ox gy oy : Nat) (v u1 u2 : Int) (w : World) (h : IntAt w g o v) (hx : IntAt w gx ox u1) (hy : IntAt w gy oy u2) (hn : Sz u1.natAbs) (hm : Sz u2.natAbs) :
  Calls Tryz.prog 61 #[.pointer (some ⟨g, o, none⟩), .pointer (some ⟨gx, ox, none⟩), .pointer (some ⟨gy, oy, none⟩)] w (SetPost g o (u1 * u2) w) := by
 have HI := vv h
 have hlx := hx.lt
 have hly := hy.lt
 obtain ⟨A, n, c, h0, h1, hr, hz⟩ := hx.ex
 obtain ⟨B, m, d, k0, k1, hs, hy⟩ := hy.ex
 have HM := vv (mulWords A B n m c d _ _ _ hr.drew hs.drew (by have := hr.sz hn; have := hs.sz hm; omega))
 clear hr hz hs hy h hx hn hm
 go_enter Tryz.func61, Tryz.ntmps61
 go_wp2_with fail
 refine wp_region_sch (fun w' => w'.cell? ⟨gx, ox, none⟩ = some (.bool (decide (u1 < 0))) /\ w'.cell? ⟨gx, ox + 1, none⟩ = some (.slice A n c) /\ w'.cell? ⟨gy, oy, none⟩ = some (.bool (decide (u2 < 0))) /\ w'.cell? ⟨gy, oy + 1, none⟩ = some (.slice B m d)) 19
  (.still 0 (.still 1 (.still 2 (.still 3 (.still 4 (.still 5 (.still 6 (.still 7 (.still 8 (.still 9 (.still 10 (.still 11 (.still 12 (.still 13 (.still 14 (.still 15 (.still 16 (.still 17 (.one 18 .done))))))))))))))))))) (by kernel_rfl) (by kernel_rfl) (fun _ _ d _ _ h => by cases d <;> exact h) ⟨h0, h1, k0, k1⟩ (fun hS0 => ?_)
 iterate 18
  refine sch_still (v := ?_) rfl (by rfl) ?_ ?_
  rotate_left
  ·intro w hSw; go_simp; with_reducible rfl
  simp only [Act.put, List.setIfInBounds_toArray, List.set_cons_zero, List.set_cons_succ]
 refine sch_one rfl (by rfl) (fun K hK => ?_)
 go_simp
 refine HM.out.mono ?_
 rintro e w1 ⟨A', m', c', rfl, hR, hFr, hB⟩
 go_wp2_with fail
 refine hK.out _ _ ⟨(hB.cell (p := ⟨gx, ox, none⟩) hlx).trans h0, (hB.cell (p := ⟨gx, ox + 1, none⟩) hlx).trans h1, (hB.cell (p := ⟨gy, oy, none⟩) hly).trans k0, (hB.cell (p := ⟨gy, oy + 1, none⟩) hly).trans k1⟩ (fun hHeld => ?_)
 clear hK
 refine sch_done ?_
 go_wp2_with fail
 refine (set_of g o v (u1 * u2) _ A' m' c' (u1.natAbs * u2.natAbs) _ (HI.out.drew.below hB) (by rw [val_toL, val_toL] at hR; exact hR) (fun a e => (hFr a e).2) (Int.natAbs_mul u1 u2) ?_).mono ?_
 ·rw [sg_mul]; rfl
 rintro e w2 ⟨rfl, hI, hF⟩
 go_wp2
 go_ret
 exact ⟨rfl, hI, ((Fm.of_below hB HI.out.lt).trans hF).undrew⟩
theorem added_same (g o : Nat) (v u : Int) (b : Bool) (N M : Nat) (A B : Option Addr) (n m c d : Nat) (w : World) (h : IntAt w g o v) (ha : Rd w A n c (toL N)) (hb : Rd w B m d (toL M)) (hn : Sz N) (hm : Sz M) (hu : u = sg b (N + M)) :
  Calls Tryz.prog 187 #[.pointer (some ⟨g, o, none⟩), .slice A n c, .bool b, .slice B m d, .bool b] w (SetPost g o u w) := by
 have HI := vv h
 have HM := vv (addWords A B n m c d _ _ w ha hb (by have := ha.sz hn; omega) (by have := hb.sz hm; omega))
 have HU := vv hu
 clear ha hb hn hm h hu
 have hbb : (b == b) = true := by cases b <;> rfl
 go_enter Tryz.func187, Tryz.ntmps187
 go_wp2_with fail
 refine HM.out.mono ?_
 rintro e w1 ⟨A', m', c', rfl, hR, hFr, hB⟩
 rw [val_toL, val_toL] at hR
 have HR := vv hR
 clear hR
 go_wp2_with fail
 refine (set_of g o v u b A' m' c' (N + M) _ (HI.out.below hB) HR.out (fun a e => (hFr a e).2) (by rw [HU.out, sg_abs]) (by rw [HU.out, sg_neg'])).mono ?_
 rintro e w2 ⟨rfl, hI, hF⟩
 go_wp2
 go_ret
 exact ⟨rfl, hI, (Fm.of_below hB HI.out.lt).trans hF⟩
theorem added_ge (g o : Nat) (v u : Int) (b : Bool) (N M : Nat) (t : Int) (A B : Option Addr) (n m c d : Nat) (w : World) (h : IntAt w g o v) (ha : Rd w A n c (toL N)) (hb : Rd w B m d (toL M)) (ht : cmpI N M = t) (h0 : t = 0 \/ t = 1) (hle : M <= N) (hu : u = sg b (N - M)) :
  Calls Tryz.prog 187 #[.pointer (some ⟨g, o, none⟩), .slice A n c, .bool b, .slice B m d, .bool (!b)] w (SetPost g o u w) := by
 have HI := vv h
 have HC := vv (cmpWords A B n m c d _ _ w ha hb (by rw [val_toL]) (by rw [val_toL]))
 have HA := vv ha
 have HB := vv hb
 have HU := vv hu
 have HL := vv hle
 have HT := vv ht
 have hbb : (b == !b) = false := by cases b <;> rfl
 clear ha hb h hu hle ht
 rcases h0 with rfl | rfl
 all_goals
  go_enter Tryz.func187, Tryz.ntmps187
  go_wp2_with fail
  refine HC.out.mono ?_
  rintro e w1 ⟨rfl, hB⟩
  rw [val_toL, val_toL, HT.out]
  go_wp2_with fail
  refine (subWords A B n m c d _ _ _ (HA.out.below hB rfl) (HB.out.below hB rfl) (by rw [val_toL, val_toL]; exact HL.out) (HB.out.le_of HA.out HL.out)).mono ?_
  rintro e w2 ⟨A', m', c', rfl, hR, hFr, hB2⟩
  rw [val_toL, val_toL] at hR
  have HR := vv hR
  have HB2 := vv (hB.trans (hB2.mono hB.size))
  clear hR hB2
  go_wp2_with fail
  refine (set_of g o v u b A' m' c' (N - M) _ (HI.out.below HB2.out) HR.out (fun a e => (hFr a e).2) (by rw [HU.out, sg_abs]) (by rw [HU.out, sg_neg'])).mono ?_
  rintro e w3 ⟨rfl, hI, hF⟩
  go_wp2
  go_ret
  exact ⟨rfl, hI, (Fm.of_below HB2.out HI.out.lt).trans hF⟩
theorem added_lt (g o : Nat) (v u : Int) (b : Bool) (N M : Nat) (A B : Option Addr) (n m c d : Nat) (w : World) (h : IntAt w g o v) (ha : Rd w A n c (toL N)) (hb : Rd w B m d (toL M)) (ht : cmpI N M = -1) (hle : N <= M) (hu : u = sg (!b) (M - N)) :
  Calls Tryz.prog 187 #[.pointer (some ⟨g, o, none⟩), .slice A n c, .bool b, .slice B m d, .bool (!b)] w (SetPost g o u w) := by
 have HI := vv h
 have HC := vv (cmpWords A B n m c d _ _ w ha hb (by rw [val_toL]) (by rw [val_toL]))
 have HA := vv ha
 have HB := vv hb
 have HU := vv hu
 have HL := vv hle
 have HT := vv ht
 have hbb : (b == !b) = false := by cases b <;> rfl
 clear ha hb h hu hle ht
 go_enter Tryz.func187, Tryz.ntmps187
 go_wp2_with fail
 refine HC.out.mono ?_
 rintro e w1 ⟨rfl, hB⟩
 rw [val_toL, val_toL, HT.out]
 go_wp2_with fail
 refine (subWords B A m n d c _ _ _ (HB.out.below hB rfl) (HA.out.below hB rfl) (by rw [val_toL, val_toL]; exact HL.out) (HA.out.le_of HB.out HL.out)).mono ?_
 rintro e w2 ⟨A', m', c', rfl, hR, hFr, hB2⟩
 rw [val_toL, val_toL] at hR
 have HR := vv hR
 have HB2 := vv (hB.trans (hB2.mono hB.size))
 clear hR hB2
 go_wp2_with fail
 refine (set_of g o v u (!b) A' m' c' (M - N) _ (HI.out.below HB2.out) HR.out (fun a e => (hFr a e).2) (by rw [HU.out, sg_abs]) (by rw [HU.out, sg_neg'])).mono ?_
 rintro e w3 ⟨rfl, hI, hF⟩
 go_wp2
 go_ret
 exact ⟨rfl, hI, (Fm.of_below HB2.out HI.out.lt).trans hF⟩
theorem added (g o : Nat) (v : Int) (a b : Bool) (N M : Nat) (A B : Option Addr) (n m c d : Nat) (w : World) (h : IntAt w g o v) (ha : Rd w A n c (toL N)) (hb : Rd w B m d (toL M)) (hn : Sz N) (hm : Sz M) :
  Calls Tryz.prog 187 #[.pointer (some ⟨g, o, none⟩), .slice A n c, .bool a, .slice B m d, .bool b] w (SetPost g o (sg a N + sg b M) w) := by
 by_cases e : b = a
 ·subst e
  exact added_same g o v _ b N M A B n m c d w h ha hb hn hm (by cases b <;> simp [sg] <;> omega)
 ·obtain rfl : b = !a := by cases a <;> cases b <;> simp_all
  rcases Nat.lt_trichotomy N M with k | k | k
  ·exact added_lt g o v _ a N M A B n m c d w h ha hb (by unfold cmpI; simp [k]) (by omega) (by cases a <;> simp [sg] <;> omega)
  ·exact added_ge g o v _ a N M 0 A B n m c d w h ha hb (by unfold cmpI; simp [k]) (.inl rfl) (by omega) (by cases a <;> simp [sg] <;> omega)
  ·exact added_ge g o v _ a N M 1 A B n m c d w h ha hb (by unfold cmpI; simp [k]; omega) (.inr rfl) (by omega) (by cases a <;> simp [sg] <;> omega)
theorem Add (g o gx ox gy oy : Nat) (v u1 u2 : Int) (w : World) (h : IntAt w g o v) (hx : IntAt w gx ox u1) (hy : IntAt w gy oy u2) (hn : Sz u1.natAbs) (hm : Sz u2.natAbs) :
  Calls Tryz.prog 150 #[.pointer (some ⟨g, o, none⟩), .pointer (some ⟨gx, ox, none⟩), .pointer (some ⟨gy, oy, none⟩)] w (SetPost g o (u1 + u2) w) := by
 obtain ⟨A, n, c, h0, h1, hr, hz⟩ := hx.ex
 obtain ⟨B, m, d, k0, k1, hs, hy⟩ := hy.ex
 have HM := vv (added g o v (decide (u1 < 0)) (decide (u2 < 0)) _ _ A B n m c d w.drew h.drew hr.drew hs.drew hn hm)
 clear hr hz hs hy h hx hn hm
 go_enter Tryz.func150, Tryz.ntmps150
 go_wp2_with fail
 refine wp_region_sch (fun w' => w'.cell? ⟨gx, ox, none⟩ = some (.bool (decide (u1 < 0))) /\ w'.cell? ⟨gx, ox + 1, none⟩ = some (.slice A n c) /\ w'.cell? ⟨gy, oy, none⟩ = some (.bool (decide (u2 < 0))) /\ w'.cell? ⟨gy, oy + 1, none⟩ = some (.slice B m d)) 17
  (.still 0 (.still 1 (.still 2 (.still 3 (.still 4 (.still 5 (.still 6 (.still 7 (.still 8 (.still 9 (.still 10 (.still 11 (.still 12 (.still 13 (.still 14 (.still 15 (.still 16 .done))))))))))))))))) (by kernel_rfl) (by kernel_rfl) (fun _ _ d _ _ h => by cases d <;> exact h) ⟨h0, h1, k0, k1⟩ (fun hS0 => ?_)
 iterate 17
  refine sch_still (v := ?_) rfl (by rfl) ?_ ?_
  rotate_left
  ·intro w hSw; go_simp; with_reducible rfl
  simp only [Act.put, List.setIfInBounds_toArray, List.set_cons_zero, List.set_cons_succ]
 refine sch_done ?_
 go_wp2_with fail
 refine HM.out.mono ?_
 rintro e w1 ⟨rfl, hI, hF⟩
 rw [sg_of, sg_of] at hI
 go_wp2
 go_ret
 exact ⟨rfl, hI, hF.undrew⟩
theorem Lsh (g o gx ox k : Nat) (v u : Int) (w : World) (h : IntAt w g o v) (hx : IntAt w gx ox u) (hn : Sz u.natAbs) (hk : k < 1000000000000) :
  Calls Tryz.prog 62 #[.pointer (some ⟨g, o, none⟩), .pointer (some ⟨gx, ox, none⟩), .int .u64 (k : Int)] w (SetPost g o (u * 2 ^ k) w) := by
 have HI := vv h
 have hlx := hx.lt
 obtain ⟨A, n, c, h0, h1, hr, hz⟩ := hx.ex
 have HM := vv (up A n c _ k _ rfl _ hr.drew (by have := hr.sz hn; omega))
 have hk2 : IntKind.i64.wrap (k : Int) = (k : Int) := by rw [IntKind.wrap_i64]; omega
 clear hr hz h hx hn
 go_enter Tryz.func62, Tryz.ntmps62
 go_wp2_with fail
 refine wp_region_sch (fun w' => w'.cell? ⟨gx, ox, none⟩ = some (.bool (decide (u < 0))) /\ w'.cell? ⟨gx, ox + 1, none⟩ = some (.slice A n c)) 12
  (.still 0 (.still 1 (.still 2 (.still 3 (.still 4 (.still 5 (.still 6 (.still 7 (.still 8 (.still 9 (.still 10 (.one 11 .done)))))))))))) (by kernel_rfl) (by kernel_rfl) (fun _ _ d _ _ h => by cases d <;> exact h) ⟨h0, h1⟩ (fun hS0 => ?_)
 iterate 11
  refine sch_still (v := ?_) rfl (by rfl) ?_ ?_
  rotate_left
  ·intro w hSw; go_simp; with_reducible rfl
  simp only [Act.put, List.setIfInBounds_toArray, List.set_cons_zero, List.set_cons_succ]
 refine sch_one rfl (by rfl) (fun K hK => ?_)
 go_simp
 refine HM.out.mono ?_
 rintro e w1 ⟨A', m', c', rfl, hR, hFr, hB⟩
 go_wp2_with fail
 refine hK.out _ _ ⟨(hB.cell (p := ⟨gx, ox, none⟩) hlx).trans h0, (hB.cell (p := ⟨gx, ox + 1, none⟩) hlx).trans h1⟩ (fun hHeld => ?_)
 clear hK
 refine sch_done ?_
 go_wp2_with fail
 refine (set_of g o v (u * 2 ^ k) _ A' m' c' (u.natAbs * 2 ^ k) _ (HI.out.drew.below hB) (by rw [val_toL] at hR; exact hR) (fun a e => (hFr a e).2) (by rw [Int.natAbs_mul, Int.natAbs_pow]; rfl) ?_).mono ?_
 ·exact sg_shift u k
 rintro e w2 ⟨rfl, hI, hF⟩
 go_wp2
 go_ret
 exact ⟨rfl, hI, ((Fm.of_below hB HI.out.lt).trans hF).undrew⟩
theorem Uint64 (g o : Nat) (u : Int) (w : World) (h : IntAt w g o u) (hu : u.natAbs < 18446744073709551616) :
  Calls Tryz.prog 112 #[.pointer (some ⟨g, o, none⟩)] w fun e w' => e = .returned (.int .u64 ((u.natAbs : Nat) : Int)) /\ w = w' := by
 obtain ⟨A, n, c, h0, h1, hr, hz⟩ := h.ex
 have HM := vv (toUint A n c _ w hr)
 have HV := vv (two_words hu)
 clear hr hz h
 go_enter Tryz.func112, Tryz.ntmps112
 go_wp2_with fail
 refine HM.out.mono ?_
 rintro e w1 ⟨rfl, rfl⟩
 rw [HV.out]
 go_wp2
 go_ret
 exact ⟨rfl, rfl⟩
theorem NewInt (x : Int) (w : World) (h1 : -9223372036854775808 <= x) (h2 : x <= 9223372036854775807) :
  Calls Tryz.prog 26 #[.int .i64 x] w (NewPost x w) := by
 go_enter Tryz.func26, Tryz.ntmps26
 go_wp2_with fail
 refine (SetInt64 _ _ 0 x _ (IntAt.zero w 96) h1 h2).mono ?_
 rintro e w1 ⟨rfl, hI, hF⟩
 go_wp2
 go_ret
 exact ⟨_, rfl, Nat.le_refl _, hI, hF.below ((Below.refl _ w).alloc (Nat.le_refl _) _) (by simp) (Nat.le_refl _)⟩
theorem Cmp_ff (g o gx ox N M n c m d : Nat) (A B : Option Addr) (w : World) (h0 : w.cell? ⟨g, o, none⟩ = some (.bool false)) (h1 : w.cell? ⟨g, o + 1, none⟩ = some (.slice A n c)) (k0 : w.cell? ⟨gx, ox, none⟩ = some (.bool false)) (k1 : w.cell? ⟨gx, ox + 1, none⟩ = some (.slice B m d))
  (ha : Rd w A n c (toL N)) (hb : Rd w B m d (toL M)) :
  Calls Tryz.prog 141 #[.pointer (some ⟨g, o, none⟩), .pointer (some ⟨gx, ox, none⟩)] w fun e w' => e = .returned (.int .i64 (cmpI N M)) /\ Below w.heap.size w w' := by
 have HC := vv (cmpWords A B n m c d _ _ w.drew.drew (ha.like rfl) (hb.like rfl) (by rw [val_toL]) (by rw [val_toL]))
 clear ha hb
 go_enter Tryz.func141, Tryz.ntmps141
 go_wp2_with fail
 refine wp_region_sch (fun w' => w'.cell? ⟨g, o, none⟩ = some (.bool false) /\ w'.cell? ⟨gx, ox, none⟩ = some (.bool false)) 9
  (.still 0 (.still 1 (.still 2 (.still 3 (.still 4 (.still 5 (.still 6 (.still 7 (.still 8 .done))))))))) (by kernel_rfl) (by kernel_rfl) (fun _ _ d _ _ h => by cases d <;> exact h) ⟨h0, k0⟩ (fun hS0 => ?_)
 iterate 9
  refine sch_still (v := ?_) rfl (by rfl) ?_ ?_
  rotate_left
  ·intro w hSw; go_simp; with_reducible rfl
  simp only [Act.put, List.setIfInBounds_toArray, List.set_cons_zero, List.set_cons_succ]
 refine sch_end rfl ?_
 go_wp2_with fail
 refine wp_region_sch (fun w' => w'.cell? ⟨g, o + 1, none⟩ = some (.slice A n c) /\ w'.cell? ⟨gx, ox + 1, none⟩ = some (.slice B m d)) 8
  (.still 0 (.still 1 (.still 2 (.still 3 (.still 4 (.still 5 (.still 6 (.still 7 .done)))))))) (by kernel_rfl) (by kernel_rfl) (fun _ _ d _ _ h => by cases d <;> exact h) ⟨h1, k1⟩ (fun hS0 => ?_)
 iterate 8
  refine sch_still (v := ?_) rfl (by rfl) ?_ ?_
  rotate_left
  ·intro w hSw; go_simp; with_reducible rfl
  simp only [Act.put, List.setIfInBounds_toArray, List.set_cons_zero, List.set_cons_succ]
 refine sch_done ?_
 go_wp2_with fail
 refine HC.out.mono ?_
 rintro e w1 ⟨rfl, hB⟩
 rw [val_toL, val_toL]
 go_wp2
 go_ret
 exact ⟨rfl, ⟨hB.os, hB.tape, hB.output, hB.size, hB.block⟩⟩
theorem Cmp_tt (g o gx ox N M n c m d : Nat) (A B : Option Addr) (w : World) (h0 : w.cell? ⟨g, o, none⟩ = some (.bool true)) (h1 : w.cell? ⟨g, o + 1, none⟩ = some (.slice A n c)) (k0 : w.cell? ⟨gx, ox, none⟩ = some (.bool true)) (k1 : w.cell? ⟨gx, ox + 1, none⟩ = some (.slice B m d))
  (ha : Rd w A n c (toL N)) (hb : Rd w B m d (toL M)) :
  Calls Tryz.prog 141 #[.pointer (some ⟨g, o, none⟩), .pointer (some ⟨gx, ox, none⟩)] w fun e w' => e = .returned (.int .i64 (-cmpI N M)) /\ Below w.heap.size w w' := by
 have HC := vv (cmpWords A B n m c d _ _ w.drew.drew (ha.like rfl) (hb.like rfl) (by rw [val_toL]) (by rw [val_toL]))
 have HW : IntKind.i64.wrap (-cmpI N M) = -cmpI N M := by have := cmpI_bd N M; rw [IntKind.wrap_i64]; omega
 clear ha hb
 go_enter Tryz.func141, Tryz.ntmps141
 go_wp2_with fail
 refine wp_region_sch (fun w' => w'.cell? ⟨g, o, none⟩ = some (.bool true) /\ w'.cell? ⟨gx, ox, none⟩ = some (.bool true)) 9
  (.still 0 (.still 1 (.still 2 (.still 3 (.still 4 (.still 5 (.still 6 (.still 7 (.still 8 .done))))))))) (by kernel_rfl) (by kernel_rfl) (fun _ _ d _ _ h => by cases d <;> exact h) ⟨h0, k0⟩ (fun hS0 => ?_)
 iterate 9
  refine sch_still (v := ?_) rfl (by rfl) ?_ ?_
  rotate_left
  ·intro w hSw; go_simp; with_reducible rfl
  simp only [Act.put, List.setIfInBounds_toArray, List.set_cons_zero, List.set_cons_succ]
 refine sch_end rfl ?_
 go_wp2_with fail
 refine wp_region_sch (fun w' => w'.cell? ⟨g, o + 1, none⟩ = some (.slice A n c) /\ w'.cell? ⟨gx, ox + 1, none⟩ = some (.slice B m d)) 8
  (.still 0 (.still 1 (.still 2 (.still 3 (.still 4 (.still 5 (.still 6 (.still 7 .done)))))))) (by kernel_rfl) (by kernel_rfl) (fun _ _ d _ _ h => by cases d <;> exact h) ⟨h1, k1⟩ (fun hS0 => ?_)
 iterate 8
  refine sch_still (v := ?_) rfl (by rfl) ?_ ?_
  rotate_left
  ·intro w hSw; go_simp; with_reducible rfl
  simp only [Act.put, List.setIfInBounds_toArray, List.set_cons_zero, List.set_cons_succ]
 refine sch_done ?_
 go_wp2_with fail
 refine HC.out.mono ?_
 rintro e w1 ⟨rfl, hB⟩
 rw [val_toL, val_toL]
 go_wp2
 go_ret
 exact ⟨rfl, ⟨hB.os, hB.tape, hB.output, hB.size, hB.block⟩⟩
theorem Cmp_ne (g o gx ox : Nat) (a : Bool) (w : World) (h0 : w.cell? ⟨g, o, none⟩ = some (.bool a)) (k0 : w.cell? ⟨gx, ox, none⟩ = some (.bool !a)) :
  Calls Tryz.prog 141 #[.pointer (some ⟨g, o, none⟩), .pointer (some ⟨gx, ox, none⟩)] w fun e w' => e = .returned (.int .i64 (if a then -1 else 1)) /\ Below w.heap.size w w' := by
 cases a
 all_goals
  go_enter Tryz.func141, Tryz.ntmps141
  go_wp2_with fail
 ·refine wp_region_sch (fun w' => w'.cell? ⟨g, o, none⟩ = some (.bool false) /\ w'.cell? ⟨gx, ox, none⟩ = some (.bool true)) 9
   (.still 0 (.still 1 (.still 2 (.still 3 (.still 4 (.still 5 (.still 6 (.still 7 (.still 8 .done))))))))) (by kernel_rfl) (by kernel_rfl) (fun _ _ d _ _ h => by cases d <;> exact h) ⟨h0, k0⟩ (fun hS0 => ?_)
  iterate 9
   refine sch_still (v := ?_) rfl (by rfl) ?_ ?_
   rotate_left
   ·intro w hSw; go_simp; with_reducible rfl
   simp only [Act.put, List.setIfInBounds_toArray, List.set_cons_zero, List.set_cons_succ]
  refine sch_end rfl ?_
  go_wp2
  go_ret
  exact ⟨rfl, below_drew (Below.refl _ _)⟩
 ·refine wp_region_sch (fun w' => w'.cell? ⟨g, o, none⟩ = some (.bool true) /\ w'.cell? ⟨gx, ox, none⟩ = some (.bool false)) 9
   (.still 0 (.still 1 (.still 2 (.still 3 (.still 4 (.still 5 (.still 6 (.still 7 (.still 8 .done))))))))) (by kernel_rfl) (by kernel_rfl) (fun _ _ d _ _ h => by cases d <;> exact h) ⟨h0, k0⟩ (fun hS0 => ?_)
  iterate 9
   refine sch_still (v := ?_) rfl (by rfl) ?_ ?_
   rotate_left
   ·intro w hSw; go_simp; with_reducible rfl
   simp only [Act.put, List.setIfInBounds_toArray, List.set_cons_zero, List.set_cons_succ]
  refine sch_end rfl ?_
  go_wp2
  go_ret
  exact ⟨rfl, below_drew (Below.refl _ _)⟩
theorem Cmp (g o gx ox : Nat) (u1 u2 : Int) (w : World) (h : IntAt w g o u1) (hx : IntAt w gx ox u2) :
  Calls Tryz.prog 141 #[.pointer (some ⟨g, o, none⟩), .pointer (some ⟨gx, ox, none⟩)] w fun e w' => e = .returned (.int .i64 (cmpZ u1 u2)) /\ Below w.heap.size w w' := by
 obtain ⟨A, n, c, h0, h1, hr, hz⟩ := h.ex
 obtain ⟨B, m, d, k0, k1, hs, hy⟩ := hx.ex
 by_cases e1 : u1 < 0 <;> by_cases e2 : u2 < 0
 ·rw [decide_eq_true e1] at h0
  rw [decide_eq_true e2] at k0
  rw [cmpZ_tt e1 e2]
  exact Cmp_tt g o gx ox _ _ n c m d A B w h0 h1 k0 k1 hr hs
 ·rw [decide_eq_true e1] at h0
  rw [decide_eq_false e2] at k0
  rw [cmpZ_lt (by omega)]
  exact Cmp_ne g o gx ox true w h0 k0
 ·rw [decide_eq_false e1] at h0
  rw [decide_eq_true e2] at k0
  rw [cmpZ_gt (by omega)]
  exact Cmp_ne g o gx ox false w h0 k0
 ·rw [decide_eq_false e1] at h0
  rw [decide_eq_false e2] at k0
  rw [cmpZ_ff e1 e2]
  exact Cmp_ff g o gx ox _ _ n c m d A B w h0 h1 k0 k1 hr hs
theorem Bit0 (g o : Nat) (u : Int) (w : World) (h : IntAt w g o u) :
  Calls Tryz.prog 148 #[.pointer (some ⟨g, o, none⟩), .int .i64 0] w fun e w' => e = .returned (.int .u64 ((u.natAbs % 2 : Nat) : Int)) /\ w = w' := by
 obtain ⟨A, n, c, h0, h1, hr, hz⟩ := h.ex
 have hsm := hr.sm
 have hw := hr.words
 clear hz h h0
 rcases Nat.eq_zero_or_pos n with rfl | hn
 ·have hu := words_eq_zero.1 hw
  rw [hu]
  clear hw hr
  go_enter Tryz.func148, Tryz.ntmps148
  go_wp2
  go_ret
  exact ⟨rfl, rfl⟩
 ·obtain ⟨b, off, rfl, hb, hc⟩ := hr.cell hn
  have hc0 := hc 0 hn
  rw [Nat.add_zero] at hc0
  have hl := hr.nth_lt 0
  have HB := vv (and_one (nth (toL u.natAbs) 0) hl)
  have HE := vv (nth_zero_mod u.natAbs)
  clear hc hw hr
  go_enter Tryz.func148, Tryz.ntmps148
  go_wp2
  go_ret
  refine ⟨retI ?_, rfl⟩
  rw [HB.out, HE.out, IntKind.wrap_u64]
  omega
def QrPost (g o gr or : Nat) (q r : Int) (w : World) (e : Ending) (w' : World) : Prop :=
 e = .returned (.tuple #[.pointer (some ⟨g, o, none⟩), .pointer (some ⟨gr, or, none⟩)]) /\ IntAt w' g o q /\ IntAt w' gr or r /\ Fs [(gr, or, 2), (g, o, 2)] w w'
theorem QuoRem (g o gx ox gy oy gr or : Nat) (v u1 u2 ur : Int) (w : World) (h : IntAt w g o v) (hx : IntAt w gx ox u1) (hy : IntAt w gy oy u2) (hr : IntAt w gr or ur) (hne : g ≠ gr) (h0 : u2 ≠ 0) (hn : Sz u1.natAbs) :
  Calls Tryz.prog 147 #[.pointer (some ⟨g, o, none⟩), .pointer (some ⟨gx, ox, none⟩), .pointer (some ⟨gy, oy, none⟩), .pointer (some ⟨gr, or, none⟩)] w
   (QrPost g o gr or (sg (decide (u1 < 0) != decide (u2 < 0)) (u1.natAbs / u2.natAbs)) (sg (decide (u1 < 0)) (u1.natAbs % u2.natAbs)) w) := by
 have HI := vv h
 have HR := vv hr
 have hlx := hx.lt
 have hly := hy.lt
 obtain ⟨A, n, c, h0, h1, ha, hz⟩ := hx.ex
 obtain ⟨B, m, d, k0, k1, hb, hy⟩ := hy.ex
 have HM := vv (divWords A B n m c d _ _ w.drew.drew (ha.like rfl) (hb.like rfl) (by omega) (by have := ha.sz hn; omega))
 clear ha hz hb hy h hx hn hr
 go_enter Tryz.func147, Tryz.ntmps147
 go_wp2_with fail
 refine wp_region_sch (fun w' => w'.cell? ⟨gx, ox, none⟩ = some (.bool (decide (u1 < 0))) /\ w'.cell? ⟨gy, oy, none⟩ = some (.bool (decide (u2 < 0)))) 9
  (.still 0 (.still 1 (.still 2 (.still 3 (.still 4 (.still 5 (.still 6 (.still 7 (.still 8 .done))))))))) (by kernel_rfl) (by kernel_rfl) (fun _ _ d _ _ h => by cases d <;> exact h) ⟨h0, k0⟩ (fun hS0 => ?_)
 iterate 9
  refine sch_still (v := ?_) rfl (by rfl) ?_ ?_
  rotate_left
  ·intro w hSw; go_simp; with_reducible rfl
  simp only [Act.put, List.setIfInBounds_toArray, List.set_cons_zero, List.set_cons_succ]
 refine sch_done ?_
 go_wp2_with fail
 refine wp_region_sch (fun w' => w'.cell? ⟨gx, ox + 1, none⟩ = some (.slice A n c) /\ w'.cell? ⟨gy, oy + 1, none⟩ = some (.slice B m d)) 14
  (.still 0 (.still 1 (.still 2 (.still 3 (.still 4 (.still 5 (.still 6 (.still 7 (.one 8 (.still 9 (.still 10 (.still 11 (.still 12 (.still 13 .done)))))))))))))) (by kernel_rfl) (by kernel_rfl) (fun _ _ d _ _ h => by cases d <;> exact h) ⟨h1, k1⟩ (fun hS0 => ?_)
 iterate 8
  refine sch_still (v := ?_) rfl (by rfl) ?_ ?_
  rotate_left
  ·intro w hSw; go_simp; with_reducible rfl
  simp only [Act.put, List.setIfInBounds_toArray, List.set_cons_zero, List.set_cons_succ]
 refine sch_one rfl (by rfl) (fun K hK => ?_)
 go_simp
 refine HM.out.mono ?_
 rintro e w1 ⟨A1, m1, c1, A2, m2, c2, rfl, hR1, hR2, hF1, hF2, hB⟩
 have HB : Hid (Below w.heap.size w w1) := vv ⟨hB.os, hB.tape, hB.output, hB.size, hB.block⟩
 have HR1 := vv hR1
 have HR2 := vv hR2
 clear hR1 hR2 hB
 go_wp2_with fail
 refine hK.out _ _ ⟨(HB.out.cell (p := ⟨gx, ox + 1, none⟩) hlx).trans h1, (HB.out.cell (p := ⟨gy, oy + 1, none⟩) hly).trans k1⟩ (fun hHeld => ?_)
 clear hK
 iterate 5
  refine sch_still (v := ?_) rfl (by rfl) ?_ ?_
  rotate_left
  ·intro w hSw; go_simp; with_reducible rfl
  simp only [Act.put, List.setIfInBounds_toArray, List.set_cons_zero, List.set_cons_succ]
 refine sch_end rfl ?_
 go_wp2_with fail
 refine (set_of gr or ur (sg (decide (u1 < 0)) (u1.natAbs % u2.natAbs)) _ A2 m2 c2 _ _ (HR.out.below HB.out) HR2.out (fun a e => (hF2 a e).2) (sg_abs _ _) (sg_neg' _ _)).mono ?_
 rintro e w2 hP
 have HF := vv (hP.fs (HR.out.below HB.out))
 obtain ⟨rfl, hI2, hF⟩ := hP
 have HI2 := vv hI2
 clear hI2
 go_wp2_with fail
 refine (set_of g o v (sg (decide (u1 < 0) != decide (u2 < 0)) (u1.natAbs / u2.natAbs)) _ A1 m1 c1 _ _ ((HI.out.below HB.out).fs1 HF.out (Ne.symm hne)) (HR1.out.fs (fun a e => (hF1 a e).2) HF.out) (fun a e => (hF1 a e).2) (sg_abs _ _) (sg_neg' _ _)).mono ?_
 rintro e w3 hP
 have HF3 := vv (hP.fs ((HI.out.below HB.out).fs1 HF.out (Ne.symm hne)))
 obtain ⟨rfl, hI3, hF3⟩ := hP
 have HI3 := vv hI3
 clear hI3
 go_wp2
 go_ret2
 exact ⟨rfl, HI3.out, HI2.out.fs1 HF3.out hne, ((Fs.of_below [] HB.out (fun _ hp => by cases hp)).trans HF.out).trans HF3.out⟩
set_option maxHeartbeats 400000 in
theorem Exp (g o gx ox gy oy : Nat) (v : Int) (x y : Nat) (w : World) (h : IntAt w g o v) (hx : IntAt w gx ox (x : Int)) (hy : IntAt w gy oy (y : Int)) (hx0 : 0 < x) (hy0 : 0 < y) (hs : Sz (x ^ y)) (hsy : Sz y) :
  Calls Tryz.prog 60 #[.pointer (some ⟨g, o, none⟩), .pointer (some ⟨gx, ox, none⟩), .pointer (some ⟨gy, oy, none⟩), .pointer none] w (SetF g o ((x ^ y : Nat) : Int) w) := by
 have HI := vv h
 have HX := vv hx
 have HY := vv hy
 have hlty := hy.lt
 have HP : Hid (∀ q, q <= y -> Sz (x ^ q)) := vv fun q hq => hs.mono (Nat.pow_le_pow_right hx0 hq)
 have HSg : Hid ((y : Int).sign = 1) := vv (Int.sign_eq_one_of_pos (by omega))
 have HSY := vv hsy
 have HX0 := vv hx0
 have HY0 := vv hy0
 have HB : Hid (∀ (w : World) t, Below w.heap.size w (w.alloc (.cells #[.bool false, .slice none 0 0] t))) := vv fun w t => (Below.refl _ w).alloc (Nat.le_refl _) _
 have HZ := vv (IntAt.zero w 96)
 clear h hx hy hs hsy hx0 hy0
 go_enter Tryz.func60, Tryz.ntmps60
 go_wp2_with fail
 refine (NewInt 1 _ (by omega) (by omega)).mono ?_
 rintro e w1 ⟨g1, rfl, hg1, hI1, hB1⟩
 have HI1 := vv hI1
 have HB1 := vv ((HB.out w 96).trans (hB1.mono (Below.size (HB.out w 96))))
 have HZ1 := vv (HZ.out.below hB1)
 have hlt1 := hI1.lt
 have hg1' : w.heap.size < g1 := by simp at hg1; omega
 have hsz1 := HB1.out.size
 clear hI1 hB1 hg1
 go_wp2_with fail
 have HB2 := vv (HB1.out.trans ((HB.out w1 96).mono HB1.out.size))
 have HZB := vv (IntAt.zero w1 96)
 refine (Set _ 0 gx ox 0 _ _ HZB.out (HX.out.below HB2.out)).mono ?_
 rintro e w2 hP
 have hP := hP.f HZB.out
 have HB3 := vv (hP.below HB2.out (HB2.out.size) hsz1)
 have HI2 := vv ((HI1.out.below (HB.out w1 96)).fs1 hP.2.2 (by omega))
 have HZ2 := vv ((HZ1.out.below (HB.out w1 96)).fs1 hP.2.2 (by omega))
 have HX2 := vv hP.2.1
 obtain ⟨rfl, -, -⟩ := hP
 have HY2 := vv (HY.out.below HB3.out)
 go_wp2_with fail
 refine (Sign gy oy _ _ HY2.out).mono ?_
 rintro e w3 ⟨rfl, rfl⟩
 rw [HSg.out]
 obtain ⟨B, m, d, k0, k1, hr, hz⟩ := HY2.out.ex
 have HR := vv hr
 have hm := hr.words
 have HM := vv hm
 have hmb := hr.sz HSY.out
 have hlty2 := HY2.out.lt
 clear hr hz k0 hm
 go_wp2_with fail
 refine (copied _ _ _ _ _ HR.out).mono ?_
 rintro e w3 ⟨rfl, hO, hB⟩
 have HE0 : Hid (ExpInv w w.heap.size g1 w1.heap.size (some ⟨w2.heap.size, 0, none⟩) m x y 0 w3) := vv
  ⟨HZ2.out.below hB, by simpa using HI2.out.below hB, HX2.out.below hB, hO.rd HR.out.len.symm (Nat.le_refl _) HR.out.sm, fun a e => by cases e; rfl, HB3.out.trans (hB.mono HB3.out.size)⟩
 clear hO hB
 go_wp2
 go_loopw [13] (fun i wr => ∃ (z : Int) (j : Nat), i = .int .i64 z /\ z + 1 = j /\ j <= 32 * m /\ ExpInv w w.heap.size g1 w1.heap.size (some ⟨w2.heap.size, 0, none⟩) m x y (y / 2 ^ j) wr) (fun i _ => (intOf i + 1).toNat)
 case atStart =>
  refine ⟨_, 32 * m, rfl, by omega, Nat.le_refl _, ?_⟩
  have hlt := lt_words y
  have hme : words y = m := HM.out
  rw [hme, pow32] at hlt
  rw [Nat.div_eq_of_lt hlt]
  exact HE0.out
 case round =>
  obtain ⟨z, j, rfl, hz, hj, hE⟩ := hrel
  have HE := vv hE
  clear hE
  rcases Nat.eq_zero_or_pos j with rfl | hpos
  ·obtain rfl : z = -1 := by omega
   clear hz
   go_wp2_with fail
   have hE0 := HE.out.out
   rw [Nat.pow_zero, Nat.div_one] at hE0
   refine (Set g o g1 0 _ _ _ (HI.out.below HE.out.bel) hE0).mono ?_
   rintro e w5 hP
   have hF := vv ((hP.f (HI.out.below HE.out.bel)).after HE.out.bel)
   obtain ⟨rfl, hI5, -⟩ := hP
   go_wp2
   go_ret
   exact ⟨rfl, hI5, hF.out⟩
  ·obtain ⟨i, rfl⟩ : ∃ i, j = i + 1 := ⟨j - 1, by omega⟩
   obtain rfl : z = (i : Int) := by omega
   clear hz
   have i1 : (0 : Int) <= (i : Int) := by omega
   have i2 : (i : Int) < 32 * (m : Int) := by omega
   go_wp2_with fail
   refine (Mul g1 0 g1 0 g1 0 _ _ _ _ HE.out.out HE.out.out HE.out.out (by simpa using HP.out _ (Nat.div_le_self _ _)) (by simpa using HP.out _ (Nat.div_le_self _ _))).mono ?_
   rintro e w4 hP
   have HE4 := vv (HE.out.step hP (q' := 2 * (y / 2 ^ (i + 1))) (by rw [<- Int.natCast_mul, <- Nat.pow_add]; congr 2; omega) (by omega) (by omega) (by omega))
   obtain ⟨rfl, -, -⟩ := hP
   obtain ⟨b, off, hbo, hbl, hc⟩ := HE4.out.words.cell (by omega)
   cases hbo
   have hci := hc (i / 32) (by omega)
   rw [Nat.zero_add] at hci
   clear hc
   have hbit := and_one_eq (nth (toL y) (i / 32)) (i % 32) (HE4.out.words.nth_lt _)
   rw [nth_bit] at hbit
   have HQ := vv (div_pow_succ y i)
   by_cases hb : y / 2 ^ i % 2 = 1
   ·rw [decide_eq_true hb] at hbit
    have HQ1 : Hid (y / 2 ^ i = 2 * (y / 2 ^ (i + 1)) + 1) := vv (by have := HQ.out; omega)
    clear hb
    go_wp2_with fail
    refine (Mul g1 0 g1 0 w1.heap.size 0 _ _ _ _ HE4.out.out HE4.out.out HE4.out.base (by simpa using HP.out _ (by have := Nat.div_le_self y (2 ^ i); have := HQ1.out; omega)) (by simpa using HP.out 1 HY0.out)).mono ?_
    rintro e w5 hP
    have HE5 := vv (HE4.out.step hP (q' := y / 2 ^ i) (by rw [HQ1.out, Nat.pow_add x _ 1, Nat.pow_one, Int.natCast_mul]) (by omega) (by omega) (by omega))
    obtain ⟨rfl, -, -⟩ := hP
    obtain ⟨A5, c5, hn5⟩ := HE5.out.by_.nil
    have hlt5 := HE5.out.by_.lt
    clear hci hbit
    go_wp2
    go_roundw
    case rel => exact ⟨_, i, rfl, by omega, by omega, HE5.out⟩
    case measure => simp [intOf]
   ·rw [decide_eq_false hb] at hbit
    have HQ1 : Hid (y / 2 ^ i = 2 * (y / 2 ^ (i + 1))) := vv (by have := HQ.out; omega)
    clear hb
    have hE5 := HE4.out
    rw [<- HQ1.out] at hE5
    have HE5 := vv hE5
    obtain ⟨A5, c5, hn5⟩ := HE5.out.by_.nil
    have hlt5 := HE5.out.by_.lt
    clear hE5
    go_wp2
    go_roundw
    case rel => exact ⟨_, i, rfl, by omega, by omega, HE5.out⟩
    case measure => simp [intOf]
theorem Exp0 (g o gx ox gy oy : Nat) (v x : Int) (w : World) (h : IntAt w g o v) (hx : IntAt w gx ox x) (hy : IntAt w gy oy 0) :
  Calls Tryz.prog 60 #[.pointer (some ⟨g, o, none⟩), .pointer (some ⟨gx, ox, none⟩), .pointer (some ⟨gy, oy, none⟩), .pointer none] w (SetF g o 1 w) := by
 have HI := vv h
 have HX := vv hx
 have HY := vv hy
 have hlty := hy.lt
 have HB : Hid (∀ (w : World) t, Below w.heap.size w (w.alloc (.cells #[.bool false, .slice none 0 0] t))) := vv fun w t => (Below.refl _ w).alloc (Nat.le_refl _) _
 have HZ := vv (IntAt.zero w 96)
 clear h hx hy
 go_enter Tryz.func60, Tryz.ntmps60
 go_wp2_with fail
 refine (NewInt 1 _ (by omega) (by omega)).mono ?_
 rintro e w1 ⟨g1, rfl, hg1, hI1, hB1⟩
 have HI1 := vv hI1
 have HB1 := vv ((HB.out w 96).trans (hB1.mono (Below.size (HB.out w 96))))
 have HZ1 := vv (HZ.out.below hB1)
 have hlt1 := hI1.lt
 have hg1' : w.heap.size < g1 := by simp at hg1; omega
 have hsz1 := HB1.out.size
 clear hI1 hB1 hg1
 go_wp2_with fail
 have HB2 := vv (HB1.out.trans ((HB.out w1 96).mono HB1.out.size))
 have HZB := vv (IntAt.zero w1 96)
 refine (Set _ 0 gx ox 0 _ _ HZB.out (HX.out.below HB2.out)).mono ?_
 rintro e w2 hP
 have hP := hP.f HZB.out
 have HB3 := vv (hP.below HB2.out (HB2.out.size) hsz1)
 have HI2 := vv ((HI1.out.below (HB.out w1 96)).fs1 hP.2.2 (by omega))
 have HZ2 := vv ((HZ1.out.below (HB.out w1 96)).fs1 hP.2.2 (by omega))
 obtain ⟨rfl, -, -⟩ := hP
 have HY2 := vv (HY.out.below HB3.out)
 go_wp2_with fail
 refine (Sign gy oy _ _ HY2.out).mono ?_
 rintro e w3 ⟨rfl, rfl⟩
 rw [Int.sign_zero]
 obtain ⟨A5, c5, hn5⟩ := HZ2.out.nil
 have hlt5 := HZ2.out.lt
 go_wp2_with fail
 refine (Set g o g1 0 _ _ _ (HI.out.below HB3.out) HI2.out).mono ?_
 rintro e w5 hP
 have hF := vv ((hP.f (HI.out.below HB3.out)).after HB3.out)
 obtain ⟨rfl, hI5, -⟩ := hP
 go_wp2
 go_ret
 exact ⟨rfl, hI5, hF.out⟩
def BelowPost (d : Nat) (w : World) (e : Ending) (w' : World) : Prop := ∃ A n c, e = .returned (.slice A n c) /\ Rd w' A n c (toL d) /\ (∀ a, A = some a -> a.off = 0) /\ Below w.heap.size w w'
theorem below (g : Nat) (p : Int) (d : Nat) (w : World) (h : RatAt w g p d) :
  Calls Tryz.prog 178 #[.pointer (some ⟨g, 0, none⟩)] w (BelowPost (ld p d) w) := by
 have hlt := h.lt
 have hp := ld_pos (p := p) h.pos
 obtain ⟨A, n, c, e, ⟨hd, hz⟩⟩ := h.den
 clear h
 rcases hd with ⟨rfl, hd⟩ | ⟨hn, hr⟩
 ·rw [hd]
  clear hd hp
  go_enter Tryz.func178, Tryz.ntmps178
  go_wp2
  go_ret
  have hO : Own (w.alloc (.cells #[.int .u32 1] 34)) w.heap.size 34 [1] := Own.lit _ (Lim_cons.2 ⟨by omega, Lim_nil⟩) (by simp [u32s])
  exact ⟨_, 1, 1, rfl, hO.rd rfl (Nat.le_refl _) (by omega), fun a e => by cases e; rfl, (Below.refl _ _).alloc (Nat.le_refl _) _⟩
 ·have hsm := hr.sm
  have h0 : ((n : Int) == 0) = false := by simp; omega
  have HR := vv hr
  clear hr hp
  go_enter Tryz.func178, Tryz.ntmps178
  go_wp2
  go_ret
  exact ⟨_, n, c, rfl, HR.out, hz, Below.refl _ _⟩
theorem Num (g : Nat) (p : Int) (d : Nat) (w : World) (h : RatAt w g p d) :
  Calls Tryz.prog 175 #[.pointer (some ⟨g, 0, none⟩)] w (NewPost (lp p d) w) := by
 have hlt := h.lt
 have HB : Hid (∀ t, Below w.heap.size w (w.alloc (.cells #[.bool false, .slice none 0 0] t))) := vv fun t => (Below.refl _ w).alloc (Nat.le_refl _) _
 have HN := vv h.num
 clear h
 go_enter Tryz.func175, Tryz.ntmps175
 go_wp2_with fail
 refine (Set _ 0 g 0 0 _ _ (IntAt.zero w 96) (HN.out.below (HB.out _))).mono ?_
 rintro e w1 ⟨rfl, hI, hF⟩
 go_wp2
 go_ret
 exact ⟨_, rfl, Nat.le_refl _, hI, hF.below (HB.out _) (by simp) (Nat.le_refl _)⟩
theorem Denom (g : Nat) (p : Int) (d : Nat) (w : World) (h : RatAt w g p d) :
  Calls Tryz.prog 140 #[.pointer (some ⟨g, 0, none⟩)] w (NewPost (ld p d : Nat) w) := by
 have hlt := h.lt
 have HB : Hid (∀ t, Below w.heap.size w (w.alloc (.cells #[.bool false, .slice none 0 0] t))) := vv fun t => (Below.refl _ w).alloc (Nat.le_refl _) _
 have HN := vv h
 clear h
 go_enter Tryz.func140, Tryz.ntmps140
 go_wp2_with fail
 refine (below g p d _ (HN.out.below (HB.out _))).mono ?_
 rintro e w1 ⟨A, n, c, rfl, hR, hz, hB1⟩
 have HZ := vv ((IntAt.zero w 96).below hB1)
 have HR := vv hR
 have HB1 := vv ((HB.out 96).trans (hB1.mono (HB.out _).size))
 clear hR hB1
 go_wp2_with fail
 refine (copied _ _ _ _ _ HR.out).mono ?_
 rintro e w2 ⟨rfl, hO, hB2⟩
 have HO := vv hO
 have HZ2 := vv (HZ.out.below hB2)
 have HB2 := vn HB1 hB2
 clear hO hB2
 go_wp2_with fail
 refine (set_of _ 0 0 (ld p d : Nat) _ _ n n (ld p d) _ HZ2.out (HO.out.rd HR.out.len.symm (Nat.le_refl _) HR.out.sm) (fun a e => by cases e; rfl) rfl (sg_pos (by omega))).mono ?_
 rintro e w3 ⟨rfl, hI, hF⟩
 go_wp2
 go_ret
 exact ⟨_, rfl, Nat.le_refl _, hI, hF.below HB2.out HB2.out.size (Nat.le_refl _)⟩
theorem RSign (g : Nat) (p : Int) (d : Nat) (w : World) (h : RatAt w g p d) :
  Calls Tryz.prog 176 #[.pointer (some ⟨g, 0, none⟩)] w fun e w' => e = .returned (.int .i64 p.sign) /\ w = w' := by
 have hlt := h.lt
 have HN := vv (Sign g 0 _ w h.num)
 have HS := vv (lp_sign (p := p) h.pos)
 clear h
 go_enter Tryz.func176, Tryz.ntmps176
 go_wp2_with fail
 refine HN.out.mono ?_
 rintro e w1 ⟨rfl, rfl⟩
 rw [HS.out]
 go_wp2
 go_ret
 exact ⟨rfl, rfl⟩
theorem Rset_zero (g : Nat) (b : Bool) (A B : Option Addr) (n c m d : Nat) (xs ys : List Nat) (w : World) (h : RatSh w g) (ha : Rd w A n c xs) (hb : Rd w B m d ys) (hD : 0 < val ys) (h0 : val xs = 0) :
  Calls Tryz.prog 173 #[.pointer (some ⟨g, 0, none⟩), .bool b, .slice A n c, .slice B m d] w (RatF g (sg b (val xs)) (val ys) w) := by
 have HH := vv h
 obtain ⟨v, hv⟩ := h.int
 have HV := vv hv
 have hlt := hv.lt
 have HA := vv (trim A n c xs w ha)
 have HB := vv (trim B m d ys w hb)
 have HD := vv hD
 have H0 := vv h0
 clear hv h ha hb hD h0
 go_enter Tryz.func173, Tryz.ntmps173
 go_wp2_with fail
 refine HA.out.mono ?_
 rintro e w' ⟨n1, rfl, rfl, hR⟩
 obtain rfl : n1 = 0 := by rw [<- hR.words]; exact words_eq_zero.2 H0.out
 clear hR
 go_wp2_with fail
 refine HB.out.mono ?_
 rintro e w' ⟨m1, rfl, rfl, hR⟩
 clear hR
 go_wp2_with fail
 refine (set_of g 0 v 0 _ none 0 0 0 _ HV.out (Rd.nil _) (fun a e => by cases e) rfl rfl).mono ?_
 rintro e w1 hP
 have hP := hP.f HV.out
 obtain ⟨hi, x, hx⟩ := HH.out.num hP
 have hlt1 := hi.lt
 have hfz := hi.fz 2
 have HF := vv hP.2.2
 have HI := vv hi
 obtain ⟨rfl, -, -⟩ := hP
 have HXc := vv hx
 clear hi
 go_wp2
 go_ret
 refine ⟨rfl, RatAt.made HI.out ⟨x, HXc.out⟩ (DenAt.nil _) HD.out (by omega) (Nat.gcd_one_right _) ?_, fs3 ?_⟩
 ·rw [H0.out]; cases b <;> simp [sg]
 ·exact HF.out.trans (Fs.set2 HI.out _)
theorem Rset_pos (g : Nat) (b : Bool) (A B : Option Addr) (n c m d : Nat) (xs ys : List Nat) (w : World) (h : RatSh w g) (ha : Rd w A n c xs) (hb : Rd w B m d ys) (hD : 0 < val ys) (h0 : 0 < val xs) (hza : ∀ a, A = some a -> a.off = 0) (hzb : ∀ a, B = some a -> a.off = 0)
  (hst : Std w) (hn : n < 17179869184) (hm : m < 17179869184) :
  Calls Tryz.prog 173 #[.pointer (some ⟨g, 0, none⟩), .bool b, .slice A n c, .slice B m d] w (RatF g (sg b (val xs)) (val ys) w) := by
 have HH := vv h
 obtain ⟨v, hv⟩ := h.int
 have HV := vv hv
 have hlt := hv.lt
 have HA := vv (trim A n c xs w ha)
 have HB := vv (trim B m d ys w hb)
 have HD := vv hD
 have H0 := vv h0
 have HST := vv hst
 have HLA := vv ha.lim
 have HLB := vv hb.lim
 have HLa := vv ha.len
 have HLb := vv hb.len
 have HG := vv (gcd_pos_of (n := val xs) hD)
 have HLow := vv (sg_low (b := b) (N := val xs) hD)
 have HDp : Hid (0 < val ys / Nat.gcd (val xs) (val ys)) := vv (Nat.div_pos (Nat.le_of_dvd hD (Nat.gcd_dvd_right _ _)) HG.out)
 clear hv h ha hb hD h0 hst
 go_enter Tryz.func173, Tryz.ntmps173
 go_wp2_with fail
 refine HA.out.mono ?_
 rintro e w' ⟨n1, rfl, rfl, hR⟩
 have hn1 : n1 <= n := hR.trim_le HLA.out (by rw [HLa.out]; exact Nat.le_refl _)
 have hp1 : 0 < n1 := by
  rcases Nat.eq_zero_or_pos n1 with e | e
  ·have := hR.words; rw [e] at this; have := words_eq_zero.1 this; have := H0.out; omega
  ·exact e
 have hsm := hR.sm
 have HR := vv hR
 clear hR
 go_wp2_with fail
 refine HB.out.mono ?_
 rintro e w' ⟨m1, rfl, rfl, hR⟩
 have hm1 : m1 <= m := hR.trim_le HLB.out (by rw [HLb.out]; exact Nat.le_refl _)
 have HR2 := vv hR
 clear hR
 have ht0 : ((n1 : Int) == 0) = false := by simp; omega
 go_wp2_with fail
 refine (common A B n1 m1 c d _ _ _ HR.out HR2.out HST.out (by omega) (by omega)).mono ?_
 rintro e w1 ⟨A1, k1, c1, rfl, hG, hFr, hB1⟩
 have HG1 := vv hG
 have HB1 := vv hB1
 have HR' := vv (HR.out.below hB1 rfl)
 have HR2' := vv (HR2.out.below hB1 rfl)
 clear hG
 go_wp2_with fail
 refine wp_region_sch (fun _ => True) 7
  (.still 0 (.still 1 (.still 2 (.still 3 (.still 4 (.still 5 (.one 6 .done))))))) (by kernel_rfl) (by kernel_rfl) (fun _ _ d _ _ h => by cases d <;> exact h) trivial (fun hS0 => ?_)
 clear hS0
 iterate 6
  refine sch_still (v := ?_) rfl (by rfl) ?_ ?_
  rotate_left
  ·intro w hSw; go_simp; with_reducible rfl
  simp only [Act.put, List.setIfInBounds_toArray, List.set_cons_zero, List.set_cons_succ]
 refine sch_one rfl (by rfl) (fun K hK => ?_)
 go_simp
 refine (by_ A A1 n1 k1 c c1 _ _ _ HR'.out.drew HG1.out.drew HG.out (by omega)).mono ?_
 rintro e w2 ⟨A2, k2, c2, rfl, hQ, hFr2, hB2⟩
 have HB2 : Hid (Below w.heap.size w w2) := vv ((below_drew HB1.out).trans (hB2.mono (by simpa using HB1.out.size)))
 have hz2 : ∀ a, A2 = some a -> a.off = 0 := fun a e => by
  rcases hFr2 with hf | hf
  ·exact (hf a e).2
  ·exact hza a (hf ▸ e)
 have HQ := vv hQ
 have HZ2 := vv hz2
 have HG2 := vv (HG1.out.drew.below hB2 rfl)
 have HR2'' := vv (HR2'.out.drew.below hB2 rfl)
 clear hQ hz2 hFr2 hB2
 go_wp2_with fail
 refine hK.out _ _ trivial (fun hHeld => ?_)
 clear hK
 refine sch_done ?_
 go_wp2_with fail
 refine (set_of g 0 v (sg b (val xs / Nat.gcd (val xs) (val ys))) _ A2 k2 c2 _ _ (HV.out.below HB2.out) HQ.out HZ2.out (sg_abs _ _) (sg_neg' _ _)).mono ?_
 rintro e w3 hP
 have hP := hP.f (HV.out.below HB2.out)
 have HF3 := vv hP.2.2
 have HN3 := vv ((HH.out.below HB2.out).num hP)
 have HG3 := vv (HG2.out.fs (fun a e => (hFr a e).2) hP.2.2)
 have HR3 := vv (HR2''.out.fs hzb hP.2.2)
 obtain ⟨rfl, -, -⟩ := hP
 go_wp2_with fail
 refine (by_ B A1 m1 k1 d c1 _ _ _ HR3.out HG3.out HG.out (by omega)).mono ?_
 rintro e w4 ⟨A4, k4, c4, rfl, hQ, hFr4, hB4⟩
 have hz4 : ∀ a, A4 = some a -> a.off = 0 := fun a e => by
  rcases hFr4 with hf | hf
  ·exact (hf a e).2
  ·exact hzb a (hf ▸ e)
 have HQ4 := vv hQ
 have HZ4 := vv hz4
 obtain ⟨hi, x, hx⟩ := HN3.out
 have hi4 := hi.below hB4
 have hx4 := (hB4.cell (p := ⟨g, 2, none⟩) hi.lt).trans hx
 have hlt4 := hi4.lt
 have hfz := hi4.fz 2
 have HI4 := vv hi4
 have HX4 := vv hx4
 have HF4 : Hid (Fs [(g, 0, 2)] w w4) := vv (((HF3.out.after HB2.out).trans (Fs.of_nil hB4)).drop (fun p hp _ => by simpa using hp) (fun p hp => by simpa using hp))
 clear hQ hz4 hFr4 hB4 hi hi4 hx
 go_wp2
 go_ret
 refine ⟨rfl, RatAt.made HI4.out ⟨x, HX4.out⟩ (HQ4.out.den HDp.out HZ4.out) HD.out HDp.out HLow.out.1 HLow.out.2, fs3 ?_⟩
 exact HF4.out.trans (Fs.set2 HI4.out _)
theorem Rset (g : Nat) (b : Bool) (A B : Option Addr) (n c m d : Nat) (xs ys : List Nat) (w : World) (h : RatSh w g) (ha : Rd w A n c xs) (hb : Rd w B m d ys) (hD : 0 < val ys) (hza : ∀ a, A = some a -> a.off = 0) (hzb : ∀ a, B = some a -> a.off = 0)
  (hst : Std w) (hn : n < 17179869184) (hm : m < 17179869184) :
  Calls Tryz.prog 173 #[.pointer (some ⟨g, 0, none⟩), .bool b, .slice A n c, .slice B m d] w (RatF g (sg b (val xs)) (val ys) w) := by
 rcases Nat.eq_zero_or_pos (val xs) with h0 | h0
 ·exact Rset_zero g b A B n c m d xs ys w h ha hb hD h0
 ·exact Rset_pos g b A B n c m d xs ys w h ha hb hD h0 hza hzb hst hn hm
set_option maxRecDepth 100000 in
theorem SetFrac (g gx gy : Nat) (u : Int) (D : Nat) (w : World) (h : RatSh w g) (hx : IntAt w gx 0 u) (hy : IntAt w gy 0 (D : Int)) (hD : 0 < D) (hst : Std w) (hn : Sz u.natAbs) (hm : Sz D) :
  Calls Tryz.prog 137 #[.pointer (some ⟨g, 0, none⟩), .pointer (some ⟨gx, 0, none⟩), .pointer (some ⟨gy, 0, none⟩)] w (RatF g u D w) := by
 have hlx := hx.lt
 have hly := hy.lt
 obtain ⟨A, n, c, h0, h1, hr, hz⟩ := hx.ex
 obtain ⟨B, m, d, k0, k1, hs, hy⟩ := hy.ex
 rw [decide_eq_false (by omega)] at k0
 have hs' : Rd w B m d (toL D) := hs
 have HA := vv hr
 have HB := vv hs'
 have HH := vv h
 have HST := vv hst
 have HD := vv hD
 have HN := vv (hr.sz hn)
 have HM := vv (hs'.sz hm)
 clear hr hz hs hs' hy h hx hn hm hst hD
 have fin : ∀ w1 w2 A' B', Below w.heap.size w w1 -> Below w1.heap.size w1 w2 -> Rd w2 A' n n (toL u.natAbs) -> Rd w2 B' m m (toL D) -> (∀ a, A' = some a -> a.off = 0) -> (∀ a, B' = some a -> a.off = 0) ->
   Calls Tryz.prog 173 #[.pointer (some ⟨g, 0, none⟩), .bool (decide (u < 0)), .slice A' n n, .slice B' m m] w2 (RatF g u D w) := by
  intro w1 w2 A' B' hb1 hb2 ha hb hza hzb
  have hbb := hb1.trans (hb2.mono hb1.size)
  refine (Rset g _ A' B' n n m m _ _ w2 (HH.out.below hbb) ha hb (by rw [val_toL]; exact HD.out) hza hzb (HST.out.fs (Fs.of_nil hbb)) (by have := HN.out; omega) (by have := HM.out; omega)).mono ?_
  rintro e w' ⟨he, hR, hF⟩
  rw [val_toL, val_toL, sg_of] at hR
  exact ⟨he, hR, hF.after hbb⟩
 have Fin := vv fin
 clear fin
 go_enter Tryz.func137, Tryz.ntmps137
 go_wp2_with fail
 refine wp_region_sch (fun w' => w'.cell? ⟨gx, 0, none⟩ = some (.bool (decide (u < 0))) /\ w'.cell? ⟨gx, 1, none⟩ = some (.slice A n c) /\ w'.cell? ⟨gy, 0, none⟩ = some (.bool false) /\ w'.cell? ⟨gy, 1, none⟩ = some (.slice B m d)) 20
  (.still 0 (.still 1 (.still 2 (.still 3 (.still 4 (.still 5 (.still 6 (.still 7 (.still 8 (.still 9 (.still 10 (.still 11 (.still 12 (.still 13 (.still 15 (.still 16 (.still 17 (.still 18 (.one 14 (.one 19 .done)))))))))))))))))))) (by kernel_rfl) (by kernel_rfl) (fun _ _ d _ _ h => by cases d <;> exact h) ⟨h0, h1, k0, k1⟩ (fun hS0 => ?_)
 iterate 18
  refine sch_still (v := ?_) rfl (by rfl) ?_ ?_
  rotate_left
  ·intro w hSw; go_simp; with_reducible rfl
  simp only [Act.put, List.setIfInBounds_toArray, List.set_cons_zero, List.set_cons_succ]
 refine sch_one rfl (by rfl) (fun K hK => ?_)
 go_simp
 refine (copied _ _ _ _ _ HA.out.drew).mono ?_
 rintro e w1 ⟨rfl, hO, hB1⟩
 have HO := vv (hO.rd HA.out.len.symm (Nat.le_refl _) HA.out.sm)
 have HB1 : Hid (Below w.heap.size w w1) := vv ⟨hB1.os, hB1.tape, hB1.output, hB1.size, hB1.block⟩
 clear hO hB1
 go_wp2_with fail
 refine hK.out _ _ ⟨(HB1.out.cell (p := ⟨gx, 0, none⟩) hlx).trans h0, (HB1.out.cell (p := ⟨gx, 1, none⟩) hlx).trans h1, (HB1.out.cell (p := ⟨gy, 0, none⟩) hly).trans k0, (HB1.out.cell (p := ⟨gy, 1, none⟩) hly).trans k1⟩ (fun hHeld => ?_)
 clear hK
 refine sch_one rfl (by rfl) (fun K hK => ?_)
 go_simp
 refine (copied _ _ _ _ _ (HB.out.below HB1.out rfl)).mono ?_
 rintro e w2 ⟨rfl, hO2, hB2⟩
 have HO2 := vv (hO2.rd HB.out.len.symm (Nat.le_refl _) HB.out.sm)
 have HO1 := vv (HO.out.below hB2 rfl)
 have HB2 := vv hB2
 have HBB := vn HB1 hB2
 clear hO2 hB2
 go_wp2_with fail
 refine hK.out _ _ ⟨(HBB.out.cell (p := ⟨gx, 0, none⟩) hlx).trans h0, (HBB.out.cell (p := ⟨gx, 1, none⟩) hlx).trans h1, (HBB.out.cell (p := ⟨gy, 0, none⟩) hly).trans k0, (HBB.out.cell (p := ⟨gy, 1, none⟩) hly).trans k1⟩ (fun hHeld => ?_)
 clear hK
 refine sch_done ?_
 go_wp2_with fail
 refine (Fin.out w1 w2 _ _ HB1.out HB2.out HO1.out HO2.out (fun a e => by cases e; rfl) (fun a e => by cases e; rfl)).mono ?_
 rintro e w3 ⟨rfl, hR, hF⟩
 have HR := vv hR
 go_wp2
 go_ret
 exact ⟨rfl, HR.out, hF⟩
end Go.Proofs.YtbfmpcfcmbjeeaaGreatDoor.A
