/- Lemmas. -/
import Derived.Test.YtddaldghlinokaaGreatDoorPartAX
import Derived.Deep.Cut
import Derived.Deep.CutRange
import Derived.Test.YtddaldghlinokaaGreatDoorPartAV
set_option linter.all false
namespace Go.Proofs.YtddaldghlinokaaGreatDoor.Rnd
open Go Go.RowKit R5
theorem ilog_range (a b : Nat) : (bl a : Int) - bl b - 1 <= ilog a b /\ ilog a b <= (bl a : Int) - bl b := by
 unfold ilog
 split <;> omega
theorem bl_p2 (a : Nat) (s : Int) : bl (a * p2 s) <= bl a + s.toNat + 1 := by
 have h1 := bl_mul_le a (p2 s)
 have h2 : bl (p2 s) <= s.toNat + 1 := bl_le (by unfold p2; exact Nat.pow_lt_pow_right (by omega) (by omega))
 omega
theorem sz_p2 {a : Nat} {s : Int} (h : Sm a) (hs : s <= 100000000000) : Sz (a * p2 s) := by
 have := bl_p2 a s
 unfold Sm at h
 unfold Sz
 omega
set_option maxRecDepth 100000 in
set_option maxHeartbeats 4000000 in
theorem toForm (gn on gd od a b G F : Nat) (neg : Bool) (mode : Nat) (w : World) (hn : IntAt w gn on (a : Int)) (hd : IntAt w gd od (b : Int)) (ha : 0 < a) (hb0 : 0 < b) (sa : Sm a) (sb : Sm b) (g1 : 1 <= G) (g2 : G <= 10) (h3 : 1 <= F) (h4 : F <= 52) (hm : mode <= 4) :
  Calls Tryz.prog 214 #[numbV gn on gd od, fm ((G : Int) + 1) F, .bool neg, .int .u8 (mode : Int)] w (BfPost 0 (out (G + 1) F neg mode a b) w) := by
 have hsaZ : Sz a := by unfold Sm at sa; unfold Sz; omega
 have hsbZ : Sz b := by unfold Sm at sb; unfold Sz; omega
 obtain ⟨B, hB⟩ : ∃ B : Int, B = bias (G + 1) := ⟨_, rfl⟩
 obtain ⟨e, he⟩ : ∃ e : Int, e = ilog a b := ⟨_, rfl⟩
 have HLg := vv fun w' (h : IntAt w' gn on (a : Int)) (h' : IntAt w' gd od (b : Int)) => log gn on gd od a b w' h h' hsaZ hsbZ
 rw [<- he] at HLg
 have hr := ilog_range a b
 rw [<- he] at hr
 have sa1 : bl a <= 4294967296 := sa
 have sb1 : bl b <= 4294967296 := sb
 have e1 : e <= 4294967296 := by omega
 have e2 : -4294967297 <= e := by omega
 have hBp := bias_pos (E := G + 1) (by omega)
 have hBl := bias_le (E := G + 1) (by omega)
 rw [<- hB] at hBp hBl
 have hB2 : (2 : Int) ^ G = B + 1 := by rw [hB]; unfold bias; rw [Nat.add_sub_cancel]; omega
 have hsh : IntKind.i64.wrap ((2 : Int) ^ G) = B + 1 := by rw [hB2]; exact IntWalk.i64_in _ (by omega)
 have o0 := (Below.refl w.heap.size w).alloc (o := .cells #[.pointer (some ⟨gn, on, none⟩), .pointer (some ⟨gd, od, none⟩)] 162) (Nat.le_refl _)
 have x0 := NbBox.made w gn on gd od 162
 obtain ⟨w0, hw0⟩ := yx (w.alloc (.cells #[.pointer (some ⟨gn, on, none⟩), .pointer (some ⟨gd, od, none⟩)] 162))
 rw [<- hw0] at o0 x0
 have s0 : w0.heap.size = w.heap.size + 1 := by rw [hw0]; simp
 have o1 := (Below.refl w0.heap.size w0).alloc (o := .cells #[.int .i64 ((G : Int) + 1), .int .i64 (F : Int)] 23) (Nat.le_refl _)
 have f1 := FmAt.made w0 ((G : Int) + 1) (F : Int) 23
 obtain ⟨w1, hw1⟩ := yx (w0.alloc (.cells #[.int .i64 ((G : Int) + 1), .int .i64 (F : Int)] 23))
 rw [<- hw1] at o1 f1
 rw [s0] at f1
 have b1 : Below w.heap.size w w1 := o0.trans (o1.mono (by omega))
 have HX := vv (x0.below o1)
 have HF := vv f1
 have HB := vv b1
 have HN := vv (hn.below b1)
 have HD := vv (hd.below b1)
 have HW1 : Hid (w1 = (w.alloc (.cells #[.pointer (some ⟨gn, on, none⟩), .pointer (some ⟨gd, od, none⟩)] 162)).alloc (.cells #[.int .i64 ((G : Int) + 1), .int .i64 (F : Int)] 23)) := vv (by rw [hw1, hw0])
 obtain ⟨low, hlow⟩ : ∃ l : Int, max e (1 - B) = l := ⟨_, rfl⟩
 have l1 : low <= 4294967296 := by omega
 have l2 : -1023 <= low := by omega
 have HLow : Hid (low_ (G + 1) a b = low) := vv (by unfold low_; rw [<- he, <- hB]; exact hlow)
 obtain ⟨s, hs⟩ : ∃ s : Int, (F : Int) - low = s := ⟨_, rfl⟩
 have k1 : s <= 1100 := by omega
 have k2 : -4294967296 <= s := by omega
 have HT := vv fun w' (h : IntAt w' gn on (a : Int)) (h' : IntAt w' gd od (b : Int)) => times gn on gd od a b s w' h h' hsaZ hsbZ (by omega) (by omega)
 obtain ⟨X, hX⟩ := yx (a * p2 s)
 obtain ⟨Y, hY⟩ := yx (b * p2 (-s))
 have hY0 : 0 < Y := by rw [hY]; exact Nat.mul_pos hb0 (p2_pos _)
 have sX : Sz X := by rw [hX]; exact sz_p2 sa (by omega)
 have sY : Sz Y := by rw [hY]; exact sz_p2 sb (by omega)
 simp only [<- hX, <- hY] at HT
 have HWh := vv fun w' g1 o1 g2 o2 (h : IntAt w' g1 o1 (X : Int)) (h' : IntAt w' g2 o2 (Y : Int)) => whole g1 o1 g2 o2 X Y neg mode w' h h' hY0 sX sY hm
 have HMa : Hid (mant (G + 1) F neg mode a b = rnd neg mode X Y) := vv (by
  have el : low_ (G + 1) a b = low := by unfold low_; rw [<- he, <- hB]; exact hlow
  unfold mant; rw [el, hs, hX, hY, show low - (F : Int) = -s by omega])
 have HRe : Hid (rest_ (G + 1) F a b = X % Y) := vv (by
  have el : low_ (G + 1) a b = low := by unfold low_; rw [<- he, <- hB]; exact hlow
  unfold rest_; rw [el, hs, hX, hY, show low - (F : Int) = -s by omega])
 obtain ⟨m, hmm⟩ := yx (rnd neg mode X Y)
 obtain ⟨same, hsm⟩ := yx (decide (X % Y = 0))
 simp only [<- hmm, <- hsm] at HWh
 rw [<- hmm] at HMa
 have HSm := vv hsm
 obtain ⟨s2, hs2⟩ : ∃ s : Int, (F : Int) - e = s := ⟨_, rfl⟩
 have k3 : s2 <= 4294967400 := by omega
 have k4 : -4294967296 <= s2 := by omega
 have HT2 := vv fun w' (h : IntAt w' gn on (a : Int)) (h' : IntAt w' gd od (b : Int)) => times gn on gd od a b s2 w' h h' hsaZ hsbZ (by omega) (by omega)
 obtain ⟨X2, hX2⟩ := yx (a * p2 s2)
 obtain ⟨Y2, hY2⟩ := yx (b * p2 (-s2))
 have hY20 : 0 < Y2 := by rw [hY2]; exact Nat.mul_pos hb0 (p2_pos _)
 have sX2 : Sz X2 := by rw [hX2]; exact sz_p2 sa (by omega)
 have sY2 : Sz Y2 := by rw [hY2]; exact sz_p2 sb (by omega)
 simp only [<- hX2, <- hY2] at HT2
 have HWh2 := vv fun w' g1 o1 g2 o2 (h : IntAt w' g1 o1 (X2 : Int)) (h' : IntAt w' g2 o2 (Y2 : Int)) => whole g1 o1 g2 o2 X2 Y2 neg mode w' h h' hY20 sX2 sY2 hm
 have HFr : Hid (free_ F neg mode a b = rnd neg mode X2 Y2) := vv (by
  unfold free_; rw [<- he, hs2, hX2, hY2, show e - (F : Int) = -s2 by omega])
 obtain ⟨fk, hfk⟩ := yx (rnd neg mode X2 Y2)
 simp only [<- hfk] at HWh2
 rw [<- hfk] at HFr
 have HK1 := vv hs2
 have hgi : (G : Int) <= 10 := by omega
 have hfi : (F : Int) <= 52 := by omega
 have HHe := vv he
 have HHB := vv hB
 have HH2 := vv hB2
 clear o0 x0 hw0 s0 o1 f1 hw1 b1 hn hd he hB hB2 hs2 hX2 hY2 hY20 sX2 sY2 hfk hX hY hY0 sX sY hmm hsm sa1 sb1 hr hsaZ hsbZ sa sb
 go_enter Tryz.func214, Tryz.ntmps214
 go_wp2_with fail
 rw [<- HW1.out]
 refine (HLg.out _ HN.out HD.out).mono ?_
 rintro e' w2 ⟨rfl, hB2⟩
 have HX := vv (HX.out.below hB2)
 have HF := vv (HF.out.below hB2)
 have HN := vv (HN.out.below hB2)
 have HD := vv (HD.out.below hB2)
 have HB := vn HB hB2
 obtain ⟨x0, x1, xl⟩ := HX.out
 obtain ⟨f0, f1, fl⟩ := HF.out
 clear hB2
 go_wp2_with fail
 refine (HT.out _ HN.out HD.out).mono ?_
 rintro e' w3 ⟨g1, o1, g2, o2, rfl, i1, i2, hB3⟩
 have HI1 := vv i1
 have HI2 := vv i2
 have HX := vv (HX.out.below hB3)
 have HF := vv (HF.out.below hB3)
 have HN := vv (HN.out.below hB3)
 have HD := vv (HD.out.below hB3)
 have HB := vn HB hB3
 clear hB3 i1 i2 x0 x1 xl f0 f1 fl
 go_wp2_with fail
 refine (HWh.out _ g1 o1 g2 o2 HI1.out HI2.out).mono ?_
 rintro e' w4 ⟨gm, rfl, hgm, im, hB4⟩
 have HIm := vv im
 have HX := vv (HX.out.below hB4)
 have HF := vv (HF.out.below hB4)
 have HN := vv (HN.out.below hB4)
 have HD := vv (HD.out.below hB4)
 have HB := vn HB hB4
 clear hB4 im hgm
 obtain ⟨fl, hfl⟩ := yx (flags_ (G + 1) F neg mode a b)
 have HFl := vv hfl
 clear hfl
 go_upto_if 51 with fail
 go_cut [13, 14, 17, 18, 19] from 52 (fun s13 s14 s17 s18 s19 wx => s17 = .int .u8 (fl : Int) /\ IntAt wx gm 0 (m : Int) /\ FmAt wx (w.heap.size + 1) ((G : Int) + 1) F /\ Below w.heap.size w wx)
 case first =>
  have HFlag : Hid (fl = if X % Y = 0 then 0 else if under (G + 1) F neg mode a b then 5 else 1) := vv (by rw [HFl.out]; unfold flags_; rw [HRe.out])
  cases same
  ·have hne : X % Y ≠ 0 := of_decide_eq_false HSm.out.symm
   have HFlag : Hid (fl = if under (G + 1) F neg mode a b then 5 else 1) := vv (by rw [HFlag.out, if_neg hne])
   clear hne
   by_cases hlt : e < 1 - B
   ·have dlt : decide (e < 1 - B) = true := decide_eq_true hlt
    obtain ⟨x0, x1, xl⟩ := HX.out
    have f1 := HF.out.c1
    have fl0 := HF.out.lt
    have q1 := HK1.out
    have HLt := vv hlt
    clear hlt
    go_wp2_with fail
    refine (HT2.out _ HN.out HD.out).mono ?_
    rintro e' w5 ⟨g3, o3, g4, o4, rfl, i3, i4, hB5⟩
    have HI3 := vv i3
    have HI4 := vv i4
    have HIm := vv (HIm.out.below hB5)
    have HX := vv (HX.out.below hB5)
    have HF := vv (HF.out.below hB5)
    have HB := vn HB hB5
    clear hB5 i3 i4 x0 x1 xl f1 fl0
    go_wp2_with fail
    refine (HWh2.out _ g3 o3 g4 o4 HI3.out HI4.out).mono ?_
    rintro e' w6 ⟨gk, rfl, hgk, ik, hB6⟩
    have HIk := vv ik
    have HIm := vv (HIm.out.below hB6)
    have HX := vv (HX.out.below hB6)
    have HF := vv (HF.out.below hB6)
    have HB := vn HB hB6
    clear hB6 ik hgk
    go_wp2_with fail
    have hu : under (G + 1) F neg mode a b = (decide (e < -B) || decide (bl fk <= F + 1)) := by unfold under; rw [<- HHe.out, <- HHB.out, decide_eq_true HLt.out, HFr.out]; rfl
    have hor : bits BinOp.or IntKind.u8 1 4 = 5 := by decide
    by_cases hl2 : e < -B
    ·have HF5 : Hid (fl = 5) := vv (by rw [HFlag.out, hu, decide_eq_true hl2]; rfl)
     have d2 : decide (e < -B) = true := decide_eq_true hl2
     have hwn : IntKind.i64.wrap (-B) = -B := IntWalk.i64_in _ (by omega)
     clear hl2 hu
     go_quiet (fail)
     go_wp2
     go_meet
     case rel => exact ⟨by rw [HF5.out]; rfl, HIm.out.like rfl, ⟨HF.out.c0, HF.out.c1, HF.out.lt⟩, below_drewN HB.out _⟩
    ·have d2 : decide (e < -B) = false := decide_eq_false hl2
     have HU : Hid (under (G + 1) F neg mode a b = decide (bl fk <= F + 1)) := vv (by rw [hu, decide_eq_false hl2]; rfl)
     have hwn : IntKind.i64.wrap (-B) = -B := IntWalk.i64_in _ (by omega)
     clear hl2 hu
     refine wp_region_sch (fun w' => w'.cell? ⟨w.heap.size + 1, 1, none⟩ = some (.int .i64 (F : Int))) 12
      (.still 0 (.still 1 (.still 2 (.still 3 (.still 4 (.still 5 (.still 7 (.still 8 (.still 9 (.one 6 (.still 10 (.still 11 .done)))))))))))) (by kernel_rfl) (by kernel_rfl) (fun _ _ d _ _ h => by cases d <;> exact h) HF.out.c1 (fun hS0 => ?_)
     obtain ⟨wc, hwc⟩ := yx (w6.drew)
     have HIk : Hid (IntAt wc gk 0 (fk : Int)) := vv (by rw [hwc]; exact HIk.out.drew)
     have HIm : Hid (IntAt wc gm 0 (m : Int)) := vv (by rw [hwc]; exact HIm.out.drew)
     have HF : Hid (FmAt wc (w.heap.size + 1) ((G : Int) + 1) F) := vv (by rw [hwc]; exact ⟨HF.out.c0, HF.out.c1, HF.out.lt⟩)
     have HB : Hid (Below w.heap.size w wc) := vv (by rw [hwc]; exact below_drew HB.out)
     rw [<- hwc] at hS0 ⊢
     clear hwc
     have HBk := vv (A.BitLen gk 0 (fk : Int) wc HIk.out)
     rw [Int.natAbs_natCast] at HBk
     obtain ⟨lk, hlk⟩ := yx (bl fk)
     rw [<- hlk] at HBk HU
     have HWF : Hid (IntKind.i64.wrap ((F : Int) + 1) = (F : Int) + 1) := vv (IntWalk.i64_in _ (by omega))
     clear hlk
     iterate 9
      refine sch_still (v := ?_) rfl (by rfl) ?_ ?_
      rotate_left
      ·intro w hSw; go_simp; with_reducible rfl
      simp only [Act.put, List.setIfInBounds_toArray, List.set_cons_zero, List.set_cons_succ]
     refine sch_one rfl (by rfl) (fun K hK => ?_)
     go_simp
     refine HBk.out.mono ?_
     rintro e' w' ⟨rfl, rfl⟩
     go_wp2_with fail
     refine hK.out _ _ HF.out.c1 (fun hHeld => ?_)
     clear hK
     try rw [HWF.out]
     by_cases hb6 : lk <= F + 1
     ·have HF5 : Hid (fl = 5) := vv (by rw [HFlag.out, HU.out, decide_eq_true hb6]; rfl)
      have d6 : decide ((lk : Int) <= (F : Int) + 1) = true := decide_eq_true (by omega)
      have d7 : decide (lk <= F + 1) = true := decide_eq_true hb6
      clear hb6
      iterate 2
       refine sch_still (v := ?_) rfl (by rfl) ?_ ?_
       rotate_left
       ·intro w hSw; go_simp; with_reducible rfl
       simp only [Act.put, List.setIfInBounds_toArray, List.set_cons_zero, List.set_cons_succ]
      refine sch_end rfl ?_
      clear hHeld hS0
      go_wp2
      go_meet
      case rel => exact ⟨by rw [HF5.out]; rfl, HIm.out, HF.out, HB.out⟩
     ·have HF5 : Hid (fl = 1) := vv (by rw [HFlag.out, HU.out, decide_eq_false hb6]; rfl)
      have d6 : decide ((lk : Int) <= (F : Int) + 1) = false := decide_eq_false (by omega)
      have d7 : decide (lk <= F + 1) = false := decide_eq_false hb6
      clear hb6
      iterate 2
       refine sch_still (v := ?_) rfl (by rfl) ?_ ?_
       rotate_left
       ·intro w hSw; go_simp; with_reducible rfl
       simp only [Act.put, List.setIfInBounds_toArray, List.set_cons_zero, List.set_cons_succ]
      refine sch_end rfl ?_
      clear hHeld hS0
      go_wp2
      go_meet
      case rel => exact ⟨by rw [HF5.out]; rfl, HIm.out, HF.out, HB.out⟩
   ·have hu : under (G + 1) F neg mode a b = false := by unfold under; rw [<- HHe.out, <- HHB.out, decide_eq_false hlt]; rfl
    have HF1 : Hid (fl = 1) := vv (by rw [HFlag.out, hu]; rfl)
    have dlt : decide (e < 1 - B) = false := decide_eq_false hlt
    clear hlt hu
    go_wp2
    go_meet
    case rel => exact ⟨by rw [HF1.out]; rfl, HIm.out, HF.out, HB.out⟩
  ·have hne : X % Y = 0 := of_decide_eq_true HSm.out.symm
   have HF1 : Hid (fl = 0) := vv (by rw [HFlag.out, if_pos hne])
   clear hne
   go_wp2
   go_meet
   case rel => exact ⟨by rw [HF1.out]; rfl, HIm.out, HF.out, HB.out⟩
 case rest =>
  obtain ⟨rfl, im, hf, hb⟩ := hcut
  have HIm := vv im
  have HF := vv hf
  have HB := vv hb
  clear im hf hb
  go_wp2_with fail
  obtain ⟨LB, hLB⟩ : ∃ l : Int, low + B = l := ⟨_, rfl⟩
  obtain ⟨tt, htt⟩ : ∃ t : Nat, LB - 1 = (t : Int) := ⟨(LB - 1).toNat, by omega⟩
  have HWLB : Hid (IntKind.i64.wrap LB = LB) := vv (IntWalk.i64_in _ (by omega))
  have HWt : Hid (IntKind.i64.wrap (tt : Int) = (tt : Int)) := vv (IntWalk.i64_in _ (by omega))
  have HWu : Hid (IntKind.u64.wrap (tt : Int) = (tt : Int)) := vv (by rw [IntKind.wrap_u64]; omega)
  obtain ⟨W, hW⟩ : ∃ W : Int, IntKind.u64.wrap ((tt : Int) * 2 ^ F) = W := ⟨_, rfl⟩
  obtain ⟨S, hS⟩ : ∃ S : Int, IntKind.u64.wrap ((m : Int) + W) = S := ⟨_, rfl⟩
  have HHW := vv hW
  have HHS := vv hS
  have hm64 : m < 18446744073709551616 := by
   have h1 := mant_le (E := G + 1) (F := F) (neg := neg) (mode := mode) ha hb0
   rw [HMa.out] at h1
   have h2 : 2 ^ (F + 1) <= 2 ^ 53 := Nat.pow_le_pow_right (by omega) (by omega)
   omega
  have HUi := vv fun w' (h : IntAt w' gm 0 (m : Int)) => A.Uint64 gm 0 (m : Int) w' h (by rw [Int.natAbs_natCast]; exact hm64)
  have HM64 := vv hm64
  clear hm64
  refine wp_region_sch (fun w' => w'.cell? ⟨w.heap.size + 1, 1, none⟩ = some (.int .i64 (F : Int))) 11
   (.still 0 (.still 2 (.still 3 (.still 4 (.still 5 (.still 6 (.still 7 (.still 8 (.still 9 (.one 1 (.still 10 .done))))))))))) (by kernel_rfl) (by kernel_rfl) (fun _ _ d _ _ h => by cases d <;> exact h) HF.out.c1 (fun hS0 => ?_)
  iterate 4
   refine sch_still (v := ?_) rfl (by rfl) ?_ ?_
   rotate_left
   ·intro w hSw; go_simp; with_reducible rfl
   simp only [Act.put, List.setIfInBounds_toArray, List.set_cons_zero, List.set_cons_succ]
  rw [HWLB.out]
  iterate 1
   refine sch_still (v := ?_) rfl (by rfl) ?_ ?_
   rotate_left
   ·intro w hSw; go_simp; with_reducible rfl
   simp only [Act.put, List.setIfInBounds_toArray, List.set_cons_zero, List.set_cons_succ]
  rw [HWt.out]
  iterate 1
   refine sch_still (v := ?_) rfl (by rfl) ?_ ?_
   rotate_left
   ·intro w hSw; go_simp; with_reducible rfl
   simp only [Act.put, List.setIfInBounds_toArray, List.set_cons_zero, List.set_cons_succ]
  rw [HWu.out]
  iterate 3
   refine sch_still (v := ?_) rfl (by rfl) ?_ ?_
   rotate_left
   ·intro w hSw; go_simp; with_reducible rfl
   simp only [Act.put, List.setIfInBounds_toArray, List.set_cons_zero, List.set_cons_succ]
  obtain ⟨wd, hwd⟩ := yx (wc.drew)
  have HIm : Hid (IntAt wd gm 0 (m : Int)) := vv (by rw [hwd]; exact HIm.out.drew)
  have HF : Hid (FmAt wd (w.heap.size + 1) ((G : Int) + 1) F) := vv (by rw [hwd]; exact ⟨HF.out.c0, HF.out.c1, HF.out.lt⟩)
  have HB : Hid (Below w.heap.size w wd) := vv (by rw [hwd]; exact below_drew HB.out)
  rw [<- hwd]
  clear hwd hS0
  refine sch_one rfl (by rfl) (fun K hK => ?_)
  go_simp
  refine (HUi.out _ HIm.out).mono ?_
  rintro e' w' ⟨rfl, rfl⟩
  rw [Int.natAbs_natCast]
  go_wp2_with fail
  refine hK.out _ _ HF.out.c1 (fun hHeld => ?_)
  clear hK
  iterate 1
   refine sch_still (v := ?_) rfl (by rfl) ?_ ?_
   rotate_left
   ·intro w hSw; go_simp; with_reducible rfl
   simp only [Act.put, List.setIfInBounds_toArray, List.set_cons_zero, List.set_cons_succ]
  refine sch_done ?_
  clear hHeld
  go_wp2_with fail
  obtain ⟨EF, hEFn⟩ : ∃ n : Nat, n = G + 1 + F := ⟨_, rfl⟩
  have hEF : (G : Int) + 1 + (F : Int) = (EF : Int) := by omega
  have HWEF : Hid (IntKind.i64.wrap (EF : Int) = (EF : Int)) := vv (IntWalk.i64_in _ (by omega))
  have hEFb : (EF : Int) <= 63 := by omega
  obtain ⟨P, hP⟩ : ∃ P : Nat, P = R3.tw EF := ⟨_, rfl⟩
  obtain ⟨Q, hQ⟩ : ∃ Q : Nat, Q = R3.tw F := ⟨_, rfl⟩
  have hPb : P <= 9223372036854775808 := by rw [hP]; exact Nat.le_trans (R3.tw_le (j := EF) (k := 63) (by omega)) (by decide)
  have hQP : Q <= P := by rw [hP, hQ]; exact R3.tw_le (by omega)
  have HWP : Hid (IntKind.u64.wrap ((2 : Int) ^ EF) = (P : Int)) := vv (by
   have e : ((2 : Int) ^ EF) = (P : Int) := by rw [hP]; unfold R3.tw; rw [Int.natCast_pow]; rfl
   rw [e, IntKind.wrap_u64]; omega)
  have HWQ : Hid (IntKind.u64.wrap ((2 : Int) ^ F) = (Q : Int)) := vv (by
   have e : ((2 : Int) ^ F) = (Q : Int) := by rw [hQ]; unfold R3.tw; rw [Int.natCast_pow]; rfl
   rw [e, IntKind.wrap_u64]; omega)
  obtain ⟨I, hI⟩ : ∃ I : Nat, I = P - Q := ⟨_, rfl⟩
  have HWI : Hid (IntKind.u64.wrap ((P : Int) - (Q : Int)) = (I : Int)) := vv (by rw [IntKind.wrap_u64]; omega)
  have HInf : Hid (inf_ (G + 1) F = I) := vv (by rw [hI, hP, hQ, hEFn]; rfl)
  have HI1' := vv (show 1 <= I by
   have : Q * 2 <= P := by rw [hP, hQ, <- R3.tw_succ]; exact R3.tw_le (by omega)
   have := R3.tw_pos F
   omega)
  have HQ0 := vv hQ
  have HIb := vv (show I <= 9223372036854775808 by omega)
  clear hEFn hP hQ hPb hQP hI
  refine wp_region_sch (fun w' => w'.cell? ⟨w.heap.size + 1, 0, none⟩ = some (.int .i64 ((G : Int) + 1)) /\ w'.cell? ⟨w.heap.size + 1, 1, none⟩ = some (.int .i64 (F : Int))) 10
   (.still 0 (.still 1 (.still 2 (.still 3 (.still 4 (.still 5 (.still 6 (.still 7 (.still 8 (.still 9 .done)))))))))) (by kernel_rfl) (by kernel_rfl) (fun _ _ d _ _ h => by cases d <;> exact h) ⟨HF.out.c0, HF.out.c1⟩ (fun hS0 => ?_)
  iterate 5
   refine sch_still (v := ?_) rfl (by rfl) ?_ ?_
   rotate_left
   ·intro w hSw; go_simp; with_reducible rfl
   simp only [Act.put, List.setIfInBounds_toArray, List.set_cons_zero, List.set_cons_succ]
  rw [HWEF.out]
  iterate 1
   refine sch_still (v := ?_) rfl (by rfl) ?_ ?_
   rotate_left
   ·intro w hSw; go_simp; with_reducible rfl
   simp only [Act.put, List.setIfInBounds_toArray, List.set_cons_zero, List.set_cons_succ]
  rw [HWP.out]
  iterate 3
   refine sch_still (v := ?_) rfl (by rfl) ?_ ?_
   rotate_left
   ·intro w hSw; go_simp; with_reducible rfl
   simp only [Act.put, List.setIfInBounds_toArray, List.set_cons_zero, List.set_cons_succ]
  rw [HWQ.out]
  iterate 1
   refine sch_still (v := ?_) rfl (by rfl) ?_ ?_
   rotate_left
   ·intro w hSw; go_simp; with_reducible rfl
   simp only [Act.put, List.setIfInBounds_toArray, List.set_cons_zero, List.set_cons_succ]
  rw [HWI.out]
  refine sch_done ?_
  clear hS0
  have hov0 : over (G + 1) F neg mode a b = (decide (B < low) || decide (I <= bits_ (G + 1) F neg mode a b)) := by
   unfold over; rw [HInf.out, <- HHB.out, HLow.out]
  have HIi : Hid ((I : Int) <= 9223372036854775808 /\ (1 : Int) <= (I : Int)) := vv (by have := HIb.out; have := HI1'.out; omega)
  have hI1i := HIi.out.1
  have hI2i := HIi.out.2
  by_cases hlow2 : B < low
  ·have hov : over (G + 1) F neg mode a b = true := by rw [hov0, decide_eq_true hlow2]; rfl
   have d8 : decide (B < low) = true := decide_eq_true hlow2
   clear hov0 hlow2
   have HO : Hid (out (G + 1) F neg mode a b = (if inner neg mode then I - 1 else I, 3)) := vv (by unfold out; rw [hov, if_pos rfl, HInf.out])
   clear hov
   rcases (by omega : mode = 0 \/ mode = 1 \/ mode = 2 \/ mode = 3 \/ mode = 4) with rfl | rfl | rfl | rfl | rfl
   ·go_wp2
    go_ret2
    rw [HO.out]
    exact ⟨ret2 (by simp [inner]) rfl, below_drew HB.out⟩
   ·go_wp2
    go_ret2
    rw [HO.out]
    exact ⟨ret2 (by simp [inner]) rfl, below_drew HB.out⟩
   ·go_wp2
    go_ret2
    rw [HO.out]
    exact ⟨ret2 (by have := HI1'.out; simp [inner]; omega) rfl, below_drew HB.out⟩
   ·cases neg
    ·go_wp2
     go_ret2
     rw [HO.out]
     exact ⟨ret2 (by simp [inner]) rfl, below_drew HB.out⟩
    ·go_wp2
     go_ret2
     rw [HO.out]
     exact ⟨ret2 (by have := HI1'.out; simp [inner]; omega) rfl, below_drew HB.out⟩
   ·cases neg
    ·go_wp2
     go_ret2
     rw [HO.out]
     exact ⟨ret2 (by have := HI1'.out; simp [inner]; omega) rfl, below_drew HB.out⟩
    ·go_wp2
     go_ret2
     rw [HO.out]
     exact ⟨ret2 (by simp [inner]) rfl, below_drew HB.out⟩
  ·have d8 : decide (B < low) = false := decide_eq_false hlow2
   obtain ⟨bt, hbt⟩ : ∃ n : Nat, n = m + tt * 2 ^ F := ⟨_, rfl⟩
   have hBi : bits_ (G + 1) F neg mode a b = bt := by
    unfold bits_
    rw [HMa.out, HLow.out, <- HHB.out, hbt, show low + B - 1 = (tt : Int) by omega, Int.toNat_natCast]
   have htb : tt * 2 ^ F <= 9223372036854775808 := by
    have a1 : (tt : Int) + 1 <= 2 * B := by omega
    have a2 : (2 : Int) ^ G = ((2 ^ G : Nat) : Int) := by rw [Int.natCast_pow]; rfl
    have a3 := HH2.out
    rw [a2] at a3
    have a4 : tt <= 2 ^ G * 2 := by omega
    have a5 : tt * 2 ^ F <= 2 ^ G * 2 * 2 ^ F := Nat.mul_le_mul_right _ a4
    have a6 : 2 ^ G * 2 * 2 ^ F = 2 ^ (G + 1 + F) := by rw [Nat.pow_add, Nat.pow_succ]
    have a7 : 2 ^ (G + 1 + F) <= 2 ^ 63 := Nat.pow_le_pow_right (by omega) (by omega)
    omega
   have hmb : m <= 9007199254740992 := by
    have h1 := mant_le (E := G + 1) (F := F) (neg := neg) (mode := mode) ha hb0
    rw [HMa.out] at h1
    have h2 : 2 ^ (F + 1) <= 2 ^ 53 := Nat.pow_le_pow_right (by omega) (by omega)
    omega
   have hWv : W = ((tt * 2 ^ F : Nat) : Int) := by rw [<- HHW.out]; exact wrap_shl tt F (by omega)
   have hSv : S = (bt : Int) := by
    rw [<- HHS.out, hWv, hbt, IntKind.wrap_u64]
    omega
   have hbti : (bt : Int) <= 9232379236109516800 := by omega
   rw [hBi] at hov0
   have HBi := vv hBi
   clear hW hS hWv hBi hbt htb hmb hlow2
   subst hSv
   by_cases hge : I <= bt
   ·have hov : over (G + 1) F neg mode a b = true := by rw [hov0, decide_eq_true hge]; simp
    have d9 : decide ((I : Int) <= (bt : Int)) = true := decide_eq_true (by omega)
    have d10 : decide (I <= bt) = true := decide_eq_true hge
    clear hov0 hge
    have HO : Hid (out (G + 1) F neg mode a b = (if inner neg mode then I - 1 else I, 3)) := vv (by unfold out; rw [hov, if_pos rfl, HInf.out])
    clear hov
    rcases (by omega : mode = 0 \/ mode = 1 \/ mode = 2 \/ mode = 3 \/ mode = 4) with rfl | rfl | rfl | rfl | rfl
    ·go_wp2
     go_ret2
     rw [HO.out]
     exact ⟨ret2 (by simp [inner]) rfl, below_drew HB.out⟩
    ·go_wp2
     go_ret2
     rw [HO.out]
     exact ⟨ret2 (by simp [inner]) rfl, below_drew HB.out⟩
    ·go_wp2
     go_ret2
     rw [HO.out]
     exact ⟨ret2 (by have := HI1'.out; simp [inner]; omega) rfl, below_drew HB.out⟩
    ·cases neg
     ·go_wp2
      go_ret2
      rw [HO.out]
      exact ⟨ret2 (by simp [inner]) rfl, below_drew HB.out⟩
     ·go_wp2
      go_ret2
      rw [HO.out]
      exact ⟨ret2 (by have := HI1'.out; simp [inner]; omega) rfl, below_drew HB.out⟩
    ·cases neg
     ·go_wp2
      go_ret2
      rw [HO.out]
      exact ⟨ret2 (by have := HI1'.out; simp [inner]; omega) rfl, below_drew HB.out⟩
     ·go_wp2
      go_ret2
      rw [HO.out]
      exact ⟨ret2 (by simp [inner]) rfl, below_drew HB.out⟩
   ·have hov : over (G + 1) F neg mode a b = false := by rw [hov0, d8, decide_eq_false hge]; rfl
    have d9 : decide ((I : Int) <= (bt : Int)) = false := decide_eq_false (by omega)
    have d10 : decide (I <= bt) = false := decide_eq_false hge
    have HO : Hid (out (G + 1) F neg mode a b = (bt, fl)) := vv (by unfold out; rw [hov, HBi.out, <- HFl.out]; rfl)
    clear hov0 hge hov
    go_wp2
    go_ret2
    rw [HO.out]
    exact ⟨ret2 (by simp) rfl, below_drew HB.out⟩
theorem out_le (E F : Nat) (neg : Bool) (mode a b : Nat) : (out E F neg mode a b).1 <= inf_ E F := by
 unfold out
 cases h : over E F neg mode a b
 ·rw [if_neg (by decide)]
  unfold over at h
  simp only [Bool.or_eq_false_iff, decide_eq_false_iff_not] at h
  show bits_ E F neg mode a b <= inf_ E F
  omega
 ·rw [if_pos rfl]
  show (if inner neg mode then inf_ E F - 1 else inf_ E F) <= inf_ E F
  split <;> omega
set_option maxRecDepth 100000 in
set_option maxHeartbeats 2000000 in
theorem signed (gn on gd od a b G F : Nat) (below neg : Bool) (mode : Nat) (w : World) (hn : IntAt w gn on (a : Int)) (hd : IntAt w gd od (b : Int)) (hb0 : 0 < b) (sa : Sm a) (sb : Sm b) (g1 : 1 <= G) (g2 : G <= 10) (h3 : 1 <= F) (h4 : F <= 52) (hm : mode <= 4) :
  Calls Tryz.prog 115 #[fm ((G : Int) + 1) F, numbV gn on gd od, .bool below, .bool neg, .int .u8 (mode : Int)] w (BfePost (signedS (G + 1) F below neg mode a b) w) := by
 obtain ⟨EF, hEFn⟩ : ∃ n : Nat, n = G + 1 + F := ⟨_, rfl⟩
 have hEF : (G : Int) + 1 + (F : Int) = (EF : Int) := by omega
 have hEFb : (EF : Int) <= 63 := by omega
 obtain ⟨P, hP⟩ : ∃ P : Nat, P = R3.tw EF := ⟨_, rfl⟩
 have hPb : P <= 9223372036854775808 := by rw [hP]; exact Nat.le_trans (R3.tw_le (j := EF) (k := 63) (by omega)) (by decide)
 have hWP : IntKind.u64.wrap ((2 : Int) ^ EF) = (P : Int) := by
  have e : ((2 : Int) ^ EF) = (P : Int) := by rw [hP]; unfold R3.tw; rw [Int.natCast_pow]; rfl
  rw [e, IntKind.wrap_u64]; omega
 have hSg : ∀ n, sgb (G + 1) F n = if n then P else 0 := fun n => by unfold sgb; rw [hP, hEFn]; rfl
 have HSg := vv hSg
 have o0 := (Below.refl w.heap.size w).alloc (o := .cells #[.int .i64 ((G : Int) + 1), .int .i64 (F : Int)] 23) (Nat.le_refl _)
 have f0 := FmAt.made w ((G : Int) + 1) (F : Int) 23
 obtain ⟨w0, hw0⟩ := yx (w.alloc (.cells #[.int .i64 ((G : Int) + 1), .int .i64 (F : Int)] 23))
 rw [<- hw0] at o0 f0
 have s0 : w0.heap.size = w.heap.size + 1 := by rw [hw0]; simp
 have o1 := (Below.refl w0.heap.size w0).alloc (o := .cells #[.pointer (some ⟨gn, on, none⟩), .pointer (some ⟨gd, od, none⟩)] 162) (Nat.le_refl _)
 have x1 := NbBox.made w0 gn on gd od 162
 obtain ⟨w1, hw1⟩ := yx (w0.alloc (.cells #[.pointer (some ⟨gn, on, none⟩), .pointer (some ⟨gd, od, none⟩)] 162))
 rw [<- hw1] at o1 x1
 rw [s0] at x1
 have b1 : Below w.heap.size w w1 := o0.trans (o1.mono (by omega))
 have hf1 := f0.below o1
 have HX := vv x1
 have HF := vv hf1
 have HB := vv b1
 have hn1 := hn.below b1
 have hd1 := hd.below b1
 have HN := vv hn1
 have HD := vv hd1
 have HSi := vv (A.Sign gn on (a : Int) w1 hn1)
 have HW1 : Hid (w1 = (w.alloc (.cells #[.int .i64 ((G : Int) + 1), .int .i64 (F : Int)] 23)).alloc (.cells #[.pointer (some ⟨gn, on, none⟩), .pointer (some ⟨gd, od, none⟩)] 162)) := vv (by rw [hw1, hw0])
 have k0 := hf1.c0
 have k1 := hf1.c1
 have kl := hf1.lt
 have k2 := x1.c0
 have k3 := x1.c1
 have kl2 := x1.lt
 have hgi : (G : Int) <= 10 := by omega
 have hfi : (F : Int) <= 52 := by omega
 have HP63 := vv hPb
 rcases Nat.eq_zero_or_pos a with ha | ha
 ·have HS : Hid (signedS (G + 1) F below neg mode a b = (if neg then P else 0, 0)) := vv (by unfold signedS; rw [if_pos ha, hSg])
  have ts : ((a : Int).sign == 0) = true := by rw [ha]; rfl
  clear o0 f0 hw0 s0 o1 x1 hw1 b1 hf1 hn hd hn1 hd1 hSg hEFn hP hPb ha sa sb
  cases neg
  ·go_enter Tryz.func115, Tryz.ntmps115
   go_wp2_with fail
   rw [<- HW1.out]
   refine HSi.out.mono ?_
   rintro e' w' ⟨rfl, rfl⟩
   go_wp2
   go_ret3
   rw [HS.out]
   exact ⟨rfl, HB.out⟩
  ·go_enter Tryz.func115, Tryz.ntmps115
   go_wp2_with fail
   rw [<- HW1.out]
   refine HSi.out.mono ?_
   rintro e' w' ⟨rfl, rfl⟩
   go_wp2
   go_ret3
   rw [HS.out]
   exact ⟨rfl, HB.out⟩
 ·have HS : Hid (signedS (G + 1) F below neg mode a b = ((if below then P else 0) + (out (G + 1) F below mode a b).1, (out (G + 1) F below mode a b).2)) := vv (by unfold signedS; rw [if_neg (by omega), hSg])
  have ts : ((a : Int).sign == 0) = false := by rw [Int.sign_eq_one_of_pos (by omega)]; rfl
  have hle := out_le (G + 1) F below mode a b
  have hinf : inf_ (G + 1) F < P := by
   unfold inf_
   rw [hP, hEFn]
   have e1 := Nat.two_pow_pos (G + 1 + F)
   have e2 := Nat.two_pow_pos F
   show 2 ^ (G + 1 + F) - 2 ^ F < 2 ^ (G + 1 + F)
   omega
  have HTo := vv fun w' (h : IntAt w' gn on (a : Int)) (h' : IntAt w' gd od (b : Int)) => toForm gn on gd od a b G F below mode w' h h' ha hb0 sa sb g1 g2 h3 h4 hm
  obtain ⟨O, hO⟩ := yx (out (G + 1) F below mode a b)
  rw [<- hO] at HTo HS hle
  obtain ⟨o1v, o2v⟩ := O
  have HOr : Hid (bits .or .u64 (o1v : Int) (P : Int) = ((P + o1v : Nat) : Int)) := vv (by
   have hlt : o1v < 2 ^ EF := by have : P = 2 ^ EF := hP; rw [<- this]; exact Nat.lt_of_le_of_lt hle hinf
   have hP2 : P = 2 ^ EF := hP
   have hlP : o1v < P := by omega
   rw [u64_or_nat _ _ (by omega) (by omega), Nat.or_comm]
   have h := Nat.two_pow_add_eq_or_of_lt (i := EF) (b := o1v) hlt 1
   rw [Nat.mul_one, <- hP2] at h
   rw [<- h])
  have ho1 : (o1v : Int) <= 9223372036854775808 := by have h9 : o1v <= inf_ (G + 1) F := hle; omega
  clear o0 f0 hw0 s0 o1 x1 hw1 b1 hf1 hn hd hn1 hd1 hSg hEFn hP hPb ha sa sb hle hinf hO
  go_enter Tryz.func115, Tryz.ntmps115
  go_wp2_with fail
  rw [<- HW1.out]
  refine HSi.out.mono ?_
  rintro e' w' ⟨rfl, rfl⟩
  go_wp2_with fail
  refine (HTo.out _ HN.out HD.out).mono ?_
  rintro e' w2 ⟨rfl, hB2⟩
  have HB := vn HB hB2
  clear hB2
  cases below
  ·go_wp2
   go_ret3
   rw [HS.out]
   exact ⟨by simp, HB.out⟩
  ·go_wp2
   go_ret3
   rw [HS.out]
   exact ⟨by simp [HOr.out], HB.out⟩
end Go.Proofs.YtddaldghlinokaaGreatDoor.Rnd
namespace Go.Proofs.YtddaldghlinokaaGreatDoor
open Go Go.RowKit
theorem IntAt.setPtr {w : World} {g o gb j : Nat} {v : Int} {p : Option Addr} (h : IntAt w g o v) (hp : w.cell? ⟨gb, 0, none⟩ = some (.pointer p)) (u : Value) : IntAt (w.setCell ⟨gb, j, none⟩ u) g o v := by
 have hne : gb ≠ g := by
  intro e
  subst e
  obtain ⟨x, hx⟩ := h.head
  rw [hp] at hx
  cases hx
 have hc : ∀ i, (w.setCell ⟨gb, j, none⟩ u).cell? ⟨g, i, none⟩ = w.cell? ⟨g, i, none⟩ := fun i => cell_ne (fun e => by injection e with e1; exact hne e1)
 obtain ⟨A, n, c, h0, h1, hr, hz⟩ := h.ex
 refine ⟨by simpa [World.setCell] using h.lt, ?_, fun i => ?_, A, n, c, (hc _).trans h0, (hc _).trans h1, ⟨hr.len, hr.le, hr.sm, hr.lim, fun hn => ?_⟩, hz⟩
 ·obtain ⟨x, hx⟩ := h.head
  exact ⟨x, (hc _).trans hx⟩
 ·rw [<- h.fz i]
  exact frozen_block (p := ⟨g, i, none⟩) (Below.heap_setCell w ⟨gb, j, none⟩ u g (fun e => hne e.symm))
 ·obtain ⟨b, off, e, hl, hcs⟩ := hr.cell hn
  have h00 : off = 0 := hz _ e
  subst h00
  have hb : gb ≠ b := by
   intro e2
   subst e2
   have := hcs 0 hn
   rw [hp] at this
   cases this
  exact ⟨b, 0, e, by simpa [World.setCell] using hl, fun i hi => (cell_ne (fun e => by injection e with e1; exact hb e1)).trans (hcs i hi)⟩
namespace R5
theorem FmAt.belowLt {B : Nat} {w w' : World} {g : Nat} {E F : Int} (h : FmAt w g E F) (hb : Below B w w') (hl : g < B) : FmAt w' g E F :=
 ⟨(hb.cell (p := ⟨g, 0, none⟩) hl).trans h.c0, (hb.cell (p := ⟨g, 1, none⟩) hl).trans h.c1, Nat.lt_of_lt_of_le h.lt hb.size⟩
theorem DyadBox.belowLt {B : Nat} {w w' : World} {g : Nat} {neg : Bool} {A : Option Addr} {n c : Nat} {e : Int} (h : DyadBox w g neg A n c e) (hb : Below B w w') (hl : g < B) : DyadBox w' g neg A n c e :=
 ⟨(hb.cell (p := ⟨g, 0, none⟩) hl).trans h.c0, (hb.cell (p := ⟨g, 1, none⟩) hl).trans h.c1, (hb.cell (p := ⟨g, 2, none⟩) hl).trans h.c2, Nat.lt_of_lt_of_le h.lt hb.size⟩
end R5
namespace Rnd
open Go.Proofs.YtddaldghlinokaaGreatDoor.R5
theorem NbBox.set0 {w : World} {g gn on gd od : Nat} (h : NbBox w g gn on gd od) (ga oa : Nat) : NbBox (w.setCell ⟨g, 0, none⟩ (.pointer (some ⟨ga, oa, none⟩))) g ga oa gd od :=
 ⟨cell_eq h.c0, (cell_ne (fun e => by injection e with _ e; omega)).trans h.c1, by simpa [World.setCell] using h.lt⟩
theorem NbBox.set1 {w : World} {g gn on gd od : Nat} (h : NbBox w g gn on gd od) (ga oa : Nat) : NbBox (w.setCell ⟨g, 1, none⟩ (.pointer (some ⟨ga, oa, none⟩))) g gn on ga oa :=
 ⟨(cell_ne (fun e => by injection e with _ e; omega)).trans h.c0, cell_eq h.c1, by simpa [World.setCell] using h.lt⟩
set_option maxRecDepth 100000 in
set_option maxHeartbeats 4000000 in
theorem Dyadic (G F : Nat) (below neg : Bool) (mode : Nat) (Ad : Option Addr) (n c N : Nat) (x : Int) (w : World) (g1 : 1 <= G) (g2 : G <= 10) (h3 : 1 <= F) (h4 : F <= 52) (hm : mode <= 4)
  (ha : Rd w Ad n c (toL N)) (hn : n <= 16384) (hok : twoOk below n (toL N) x = true) (hx1 : -4611686018427387904 <= x) (hx2 : x <= 4611686018427387904) :
  Calls Tryz.prog 42 #[fm ((G : Int) + 1) F, dyadV below Ad n c x, .bool neg, .int .u8 (mode : Int)] w (BfePost (signedS (G + 1) F below neg mode (N * p2 x) (p2 (-x))) w) := by
 have hNb : bl N <= 524288 := by
  have k1 := lt_words N
  rw [ha.words, pow32] at k1
  have := bl_le k1
  omega
 have eG : (((G + 1 : Nat) : Int)) = (G : Int) + 1 := by omega
 have hck := R3.chk_ok (Fms.formOk_in (E := G + 1) (F := F) (by omega) (by omega) h3 h4)
 rw [eG] at hck
 obtain ⟨w0, hw0⟩ := yx (w.alloc (.cells #[.int .i64 ((G : Int) + 1), .int .i64 (F : Int)] 23))
 obtain ⟨w1, hw1⟩ := yx (w0.alloc (.cells #[.bool below, .slice Ad n c, .int .i64 x] 30))
 have hB0 : Below w.heap.size w w0 := by rw [hw0]; exact (Below.refl _ w).alloc (Nat.le_refl _) _
 have hB1 : Below w0.heap.size w0 w1 := by rw [hw1]; exact (Below.refl _ w0).alloc (Nat.le_refl _) _
 have hsz : w0.heap.size = w.heap.size + 1 := by rw [hw0]; simp
 have hF0 : FmAt w1 w.heap.size ((G : Int) + 1) F := (show FmAt w0 w.heap.size ((G : Int) + 1) F by rw [hw0]; exact FmAt.made w _ _ _).below hB1
 have hX0 : DyadBox w1 (w.heap.size + 1) below Ad n c x := by rw [<- hsz, hw1]; exact DyadBox.made w0 _ _ _ _ _ _
 have hB : Below w.heap.size w w1 := hB0.trans (hB1.mono hB0.size)
 have HFo := vv hF0
 have HX := vv hX0
 have HB := vv hB
 have HW1 : Hid (w1 = (w.alloc (.cells #[.int .i64 ((G : Int) + 1), .int .i64 (F : Int)] 23)).alloc (.cells #[.bool below, .slice Ad n c, .int .i64 x] 30)) := vv (by rw [hw1, hw0])
 have HFm := vv fun w => Fms.Check ((G : Int) + 1) F w
 rw [hck] at HFm
 obtain ⟨er, her⟩ := yx (Exa.exaErr below n (toL N) x)
 have HEx := vv fun w' (h : Below w.heap.size w w') => Exa.Check below Ad n c (toL N) x w' (ha.below h rfl)
 rw [<- her] at HEx
 have ter : (er == 0) = true := by rw [her, Exa.exaErr_zero]; exact hok
 have HLa := vv fun w' (h : Below w.heap.size w w') => large Ad n c N w' (ha.below h rfl) (by unfold Sz; omega)
 obtain ⟨K, hK⟩ := yx (near x (bl N + 1200))
 have hKb : -16778717 <= K /\ K <= 16778717 := by rw [hK]; unfold near; omega
 have HNe := vv fun w => near_ x (bl N) w hx1 hx2 (by omega)
 rw [<- hK] at HNe
 have hb1 : bl (p2 K) <= 16778718 := by unfold Go.Proofs.YtddaldghlinokaaGreatDoor.p2; rw [bl_pow]; omega
 have hb2 : bl (p2 (-K)) <= 16778718 := by unfold Go.Proofs.YtddaldghlinokaaGreatDoor.p2; rw [bl_pow]; omega
 have hb3 := bl_mul_le N (p2 K)
 have HT := vv fun w' g g' (h : IntAt w' g 0 (N : Int)) (h' : IntAt w' g' 0 1) => times g 0 g' 0 N 1 K w' h h' (by unfold Sz; omega) (by unfold Sz; decide) (by omega) (by omega)
 rw [Nat.one_mul] at HT
 obtain ⟨X, hX⟩ := yx (N * p2 K)
 obtain ⟨Y, hY⟩ := yx (p2 (-K))
 have hY0 : 0 < Y := by rw [hY]; exact p2_pos _
 have sX : Sm X := by rw [hX]; unfold Sm; omega
 have sY : Sm Y := by rw [hY]; unfold Sm; omega
 have hN := signed_near2 (E := G + 1) (F := F) (N := N) (below := below) (neg := neg) (mode := mode) 1200 x (by omega) (by omega) h3 h4 (by omega)
 rw [<- hK, <- hX, <- hY] at hN
 rw [<- hN]
 simp only [<- hX, <- hY] at HT
 have HSi := vv fun w' g o g' o' (h : IntAt w' g o (X : Int)) (h' : IntAt w' g' o' (Y : Int)) => signed g o g' o' X Y G F below neg mode w' h h' hY0 sX sY g1 g2 h3 h4 hm
 obtain ⟨S, hS⟩ := yx (signedS (G + 1) F below neg mode X Y)
 rw [<- hS] at HSi ⊢
 have hmi : (mode : Int) <= 4 := by omega
 have dm : decide ((4 : Int) < (mode : Int)) = false := decide_eq_false (by omega)
 have HBl := vv fun w' g (h : IntAt w' g 0 (N : Int)) => A.BitLen g 0 (N : Int) w' h
 simp only [Int.natAbs_natCast] at HBl
 obtain ⟨b, hb⟩ := yx (bl N)
 rw [<- hb] at HBl HNe
 have f0 := hF0.c0
 have f1 := hF0.c1
 have r0 := hX0.c0
 have r1 := hX0.c1
 have r2 := hX0.c2
 have l0 := hF0.lt
 have l1 := hX0.lt
 clear ha hn hok hx1 hx2 hNb hw0 hw1 hB0 hB1 hsz hF0 hX0 hB hK hKb hb1 hb2 hb3 hm hck her hX hY hY0 sX sY hN hS hb eG
 go_enter Tryz.func42, Tryz.ntmps42
 go_wp2_with fail
 rw [<- HW1.out]
 refine (HFm.out _).mono ?_
 rintro e w2 ⟨rfl, hB2⟩
 have HFo := vv (HFo.out.below hB2)
 have HX := vv (HX.out.below hB2)
 have HB := vn HB hB2
 obtain ⟨f0, f1, l0⟩ := HFo.out
 obtain ⟨r0, r1, r2, l1⟩ := HX.out
 clear hB2
 go_wp2_with fail
 refine (HEx.out _ HB.out).mono ?_
 rintro e w3 ⟨rfl, hB3⟩
 have HFo := vv (HFo.out.below hB3)
 have HX := vv (HX.out.below hB3)
 have HB := vn HB hB3
 obtain ⟨f0, f1, l0⟩ := HFo.out
 obtain ⟨r0, r1, r2, l1⟩ := HX.out
 clear hB3
 go_wp2_with fail
 refine (HLa.out _ HB.out).mono ?_
 rintro e w4 ⟨gN, rfl, hgN, hIN, hB4⟩
 have HFo := vv (HFo.out.below hB4)
 have HX := vv (HX.out.below hB4)
 have HB := vn HB hB4
 have HIn := vv hIN
 clear hB4 hIN f0 f1 l0 r0 r1 r2 l1
 go_wp2_with fail
 refine (A.NewInt 1 _ (by decide) (by decide)).mono ?_
 rintro e w5 ⟨gO, rfl, hgO, hIO, hB5⟩
 have HFo := vv (HFo.out.below hB5)
 have HX := vv (HX.out.below hB5)
 have HB := vn HB hB5
 have HIn := vv (HIn.out.below hB5)
 have HOn := vv hIO
 have hlX := HX.out.lt
 have o5 := (Below.refl w5.heap.size w5).alloc (o := .cells #[.pointer (some ⟨gN, 0, none⟩), .pointer (some ⟨gO, 0, none⟩)] 162) (Nat.le_refl _)
 have x5 := NbBox.made w5 gN 0 gO 0 162
 have z5 : ∀ j, (w5.alloc (.cells #[.pointer (some ⟨gN, 0, none⟩), .pointer (some ⟨gO, 0, none⟩)] 162)).frozen? ⟨w5.heap.size, j, none⟩ = false := fun j => by simp only [World.frozen?]; rw [heap_alloc_new]; simp
 obtain ⟨w6, hw6⟩ := yx (w5.alloc (.cells #[.pointer (some ⟨gN, 0, none⟩), .pointer (some ⟨gO, 0, none⟩)] 162))
 rw [<- hw6] at o5 x5 z5
 have HW6 := vv hw6
 have HFo := vv (HFo.out.below o5)
 have HX := vv (HX.out.below o5)
 have HIn := vv (HIn.out.below o5)
 have HOn := vv (HOn.out.below o5)
 obtain ⟨g, hg⟩ := yx (w5.heap.size)
 have hgs : w.heap.size + 1 < g := by omega
 rw [<- hg] at x5 z5
 have HFz := vv z5
 have HG := vv hg
 have HGs := vv hgs
 have HNb := vv x5
 have HB := vn HB o5
 clear hw6 o5 x5 z5 hB5 hIO hg hgs hlX
 go_wp2_with fail
 rw [<- HW6.out, <- HG.out]
 clear HW6
 refine wp_region_sch (fun w' => w'.cell? ⟨w.heap.size + 1, 2, none⟩ = some (.int .i64 x)) 15
  (.still 1 (.still 2 (.still 3 (.two 0 (.one 4 (.one 5 (.one 6 (.one 7 (.still 8 (.still 9 (.still 10 (.still 11 (.one 12 (.still 13 (.one 14 .done))))))))))) 4 (.two 0 (.one 5 (.one 6 (.one 7 (.still 8 (.still 9 (.still 10 (.still 11 (.one 12 (.still 13 (.one 14 .done)))))))))) 5 (.two 0 (.one 6 (.one 7 (.still 8 (.still 9 (.still 10 (.still 11 (.one 12 (.still 13 (.one 14 .done))))))))) 6 (.one 0 (.one 7 (.still 8 (.still 9 (.still 10 (.still 11 (.one 12 (.still 13 (.one 14 .done)))))))))))))))
  (by kernel_rfl) (by kernel_rfl) (fun _ _ d _ _ h => by cases d <;> exact h) HX.out.c2 (fun hS0 => ?_)
 have HFo : Hid (FmAt w6.drew w.heap.size ((G : Int) + 1) F) := vv (HFo.out.below (below_drew (Below.refl _ _)))
 have HX : Hid (DyadBox w6.drew (w.heap.size + 1) below Ad n c x) := vv (HX.out.below (below_drew (Below.refl _ _)))
 have HIn : Hid (IntAt w6.drew gN 0 (N : Int)) := vv HIn.out.drew
 have HOn : Hid (IntAt w6.drew gO 0 1) := vv HOn.out.drew
 have HNb : Hid (NbBox w6.drew g gN 0 gO 0) := vv HNb.out.drew
 have HFz : Hid (∀ j, w6.drew.frozen? ⟨g, j, none⟩ = false) := vv HFz.out
 have HB : Hid (Below w.heap.size w w6.drew) := vv (below_drew HB.out)
 obtain ⟨wc, hwc⟩ := yx (w6.drew)
 rw [<- hwc] at HFo HX HIn HOn HNb HFz HB hS0 ⊢
 clear hwc
 obtain ⟨x0, x1, xl⟩ := HNb.out
 iterate 3
  refine sch_still (v := ?_) rfl (by rfl) ?_ ?_
  rotate_left
  ·intro w hSw; go_simp; with_reducible rfl
  simp only [Act.put, List.setIfInBounds_toArray, List.set_cons_zero, List.set_cons_succ]
 refine sch_two rfl (by rfl) rfl (by rfl) (fun K hK => ?_) (fun K hK => ?_)
 focus
  go_simp
  refine hK.out _ _ HX.out.c2 (fun hHeld => ?_)
  clear hK
  refine sch_one rfl (by rfl) (fun K hK => ?_)
  go_simp
  refine hK.out _ _ HX.out.c2 (fun hHeld => ?_)
  clear hK
  refine sch_one rfl (by rfl) (fun K hK => ?_)
  go_simp
  refine (HBl.out _ gN HIn.out).mono ?_
  rintro e w' ⟨rfl, rfl⟩
  go_wp2_with fail
  refine hK.out _ _ HX.out.c2 (fun hHeld => ?_)
  clear hK
  refine sch_one rfl (by rfl) (fun K hK => ?_)
  go_simp
  refine (HNe.out _).mono ?_
  rintro e w' ⟨rfl, rfl⟩
  go_wp2_with fail
  refine hK.out _ _ HX.out.c2 (fun hHeld => ?_)
  clear hK
  refine sch_one rfl (by rfl) (fun K hK => ?_)
  go_simp
  refine (HT.out _ gN gO HIn.out HOn.out).mono ?_
  rintro e wn ⟨ga, oa, gb, ob, rfl, hIa, hIb, hBn⟩
  have HFo := vv (HFo.out.below hBn)
  have HX := vv (HX.out.below hBn)
  have HFz : Hid (∀ j, wn.frozen? ⟨g, j, none⟩ = false) := vv (fun j => (hBn.frozen (p := ⟨g, j, none⟩) HNb.out.lt).trans (HFz.out j))
  have HNb := vv (HNb.out.below hBn)
  have HB := vn HB hBn
  have HIa := vv hIa
  have HIb := vv hIb
  obtain ⟨x0, x1, xl⟩ := HNb.out
  clear hIa hIb hBn HIn HOn
  go_wp2_with fail
  refine hK.out _ _ HX.out.c2 (fun hHeld => ?_)
  clear hK
  iterate 4
   refine sch_still (v := ?_) rfl (by rfl) ?_ ?_
   rotate_left
   ·intro w hSw; go_simp; with_reducible rfl
   simp only [Act.put, List.setIfInBounds_toArray, List.set_cons_zero, List.set_cons_succ]
  refine sch_one rfl (by rfl) (fun K hK => ?_)
  have fz0 := HFz.out 0
  go_simp
  have HFz : Hid (∀ j, (wn.setCell ⟨g, 0, none⟩ (.pointer (some ⟨ga, oa, none⟩))).frozen? ⟨g, j, none⟩ = false) := vv (fun j => (World.frozen?_setCell _ _ _ _).trans (HFz.out j))
  have HIa := vv (HIa.out.setPtr (j := 0) HNb.out.c0 (.pointer (some ⟨ga, oa, none⟩)))
  have HIb := vv (HIb.out.setPtr (j := 0) HNb.out.c0 (.pointer (some ⟨ga, oa, none⟩)))
  have hBs : Below g wn (wn.setCell ⟨g, 0, none⟩ (.pointer (some ⟨ga, oa, none⟩))) := (Below.refl g wn).setCell (p := ⟨g, 0, none⟩) (Nat.le_refl _) _
  have HFo := vv (HFo.out.belowLt hBs (by have := HGs.out; omega))
  have HX := vv (HX.out.belowLt hBs (by have := HGs.out; omega))
  have HB := vv (HB.out.trans (hBs.mono (by have := HGs.out; omega)))
  have HNb := vv (HNb.out.set0 ga oa)
  obtain ⟨wm, hwm⟩ := yx (wn.setCell ⟨g, 0, none⟩ (.pointer (some ⟨ga, oa, none⟩)))
  rw [<- hwm] at HFz HIa HIb HFo HX HB HNb ⊢
  clear hwm hBs fz0
  obtain ⟨x0, x1, xl⟩ := HNb.out
  refine hK.out _ _ HX.out.c2 (fun hHeld => ?_)
  clear hK
  iterate 1
   refine sch_still (v := ?_) rfl (by rfl) ?_ ?_
   rotate_left
   ·intro w hSw; go_simp; with_reducible rfl
   simp only [Act.put, List.setIfInBounds_toArray, List.set_cons_zero, List.set_cons_succ]
  refine sch_one rfl (by rfl) (fun K hK => ?_)
  have fz1 := HFz.out 1
  go_simp
  have HIa := vv (HIa.out.setPtr (j := 1) HNb.out.c0 (.pointer (some ⟨gb, ob, none⟩)))
  have HIb := vv (HIb.out.setPtr (j := 1) HNb.out.c0 (.pointer (some ⟨gb, ob, none⟩)))
  have hBs : Below g wm (wm.setCell ⟨g, 1, none⟩ (.pointer (some ⟨gb, ob, none⟩))) := (Below.refl g wm).setCell (p := ⟨g, 1, none⟩) (Nat.le_refl _) _
  have HFo := vv (HFo.out.belowLt hBs (by have := HGs.out; omega))
  have HX := vv (HX.out.belowLt hBs (by have := HGs.out; omega))
  have HB := vv (HB.out.trans (hBs.mono (by have := HGs.out; omega)))
  have HNb := vv (HNb.out.set1 gb ob)
  obtain ⟨wl, hwl⟩ := yx (wm.setCell ⟨g, 1, none⟩ (.pointer (some ⟨gb, ob, none⟩)))
  rw [<- hwl] at HIa HIb HFo HX HB HNb ⊢
  clear hwl hBs fz1
  refine hK.out _ _ HX.out.c2 (fun hHeld => ?_)
  clear hK
 rotate_left 1
 focus
  go_simp
  refine hK.out _ _ HX.out.c2 (fun hHeld => ?_)
  clear hK
  refine sch_two rfl (by rfl) rfl (by rfl) (fun K hK => ?_) (fun K hK => ?_)
  focus
   go_simp
   refine hK.out _ _ HX.out.c2 (fun hHeld => ?_)
   clear hK
   refine sch_one rfl (by rfl) (fun K hK => ?_)
   go_simp
   refine (HBl.out _ gN HIn.out).mono ?_
   rintro e w' ⟨rfl, rfl⟩
   go_wp2_with fail
   refine hK.out _ _ HX.out.c2 (fun hHeld => ?_)
   clear hK
   refine sch_one rfl (by rfl) (fun K hK => ?_)
   go_simp
   refine (HNe.out _).mono ?_
   rintro e w' ⟨rfl, rfl⟩
   go_wp2_with fail
   refine hK.out _ _ HX.out.c2 (fun hHeld => ?_)
   clear hK
   refine sch_one rfl (by rfl) (fun K hK => ?_)
   go_simp
   refine (HT.out _ gN gO HIn.out HOn.out).mono ?_
   rintro e wn ⟨ga, oa, gb, ob, rfl, hIa, hIb, hBn⟩
   have HFo := vv (HFo.out.below hBn)
   have HX := vv (HX.out.below hBn)
   have HFz : Hid (∀ j, wn.frozen? ⟨g, j, none⟩ = false) := vv (fun j => (hBn.frozen (p := ⟨g, j, none⟩) HNb.out.lt).trans (HFz.out j))
   have HNb := vv (HNb.out.below hBn)
   have HB := vn HB hBn
   have HIa := vv hIa
   have HIb := vv hIb
   obtain ⟨x0, x1, xl⟩ := HNb.out
   clear hIa hIb hBn HIn HOn
   go_wp2_with fail
   refine hK.out _ _ HX.out.c2 (fun hHeld => ?_)
   clear hK
   iterate 4
    refine sch_still (v := ?_) rfl (by rfl) ?_ ?_
    rotate_left
    ·intro w hSw; go_simp; with_reducible rfl
    simp only [Act.put, List.setIfInBounds_toArray, List.set_cons_zero, List.set_cons_succ]
   refine sch_one rfl (by rfl) (fun K hK => ?_)
   have fz0 := HFz.out 0
   go_simp
   have HFz : Hid (∀ j, (wn.setCell ⟨g, 0, none⟩ (.pointer (some ⟨ga, oa, none⟩))).frozen? ⟨g, j, none⟩ = false) := vv (fun j => (World.frozen?_setCell _ _ _ _).trans (HFz.out j))
   have HIa := vv (HIa.out.setPtr (j := 0) HNb.out.c0 (.pointer (some ⟨ga, oa, none⟩)))
   have HIb := vv (HIb.out.setPtr (j := 0) HNb.out.c0 (.pointer (some ⟨ga, oa, none⟩)))
   have hBs : Below g wn (wn.setCell ⟨g, 0, none⟩ (.pointer (some ⟨ga, oa, none⟩))) := (Below.refl g wn).setCell (p := ⟨g, 0, none⟩) (Nat.le_refl _) _
   have HFo := vv (HFo.out.belowLt hBs (by have := HGs.out; omega))
   have HX := vv (HX.out.belowLt hBs (by have := HGs.out; omega))
   have HB := vv (HB.out.trans (hBs.mono (by have := HGs.out; omega)))
   have HNb := vv (HNb.out.set0 ga oa)
   obtain ⟨wm, hwm⟩ := yx (wn.setCell ⟨g, 0, none⟩ (.pointer (some ⟨ga, oa, none⟩)))
   rw [<- hwm] at HFz HIa HIb HFo HX HB HNb ⊢
   clear hwm hBs fz0
   obtain ⟨x0, x1, xl⟩ := HNb.out
   refine hK.out _ _ HX.out.c2 (fun hHeld => ?_)
   clear hK
   iterate 1
    refine sch_still (v := ?_) rfl (by rfl) ?_ ?_
    rotate_left
    ·intro w hSw; go_simp; with_reducible rfl
    simp only [Act.put, List.setIfInBounds_toArray, List.set_cons_zero, List.set_cons_succ]
   refine sch_one rfl (by rfl) (fun K hK => ?_)
   have fz1 := HFz.out 1
   go_simp
   have HIa := vv (HIa.out.setPtr (j := 1) HNb.out.c0 (.pointer (some ⟨gb, ob, none⟩)))
   have HIb := vv (HIb.out.setPtr (j := 1) HNb.out.c0 (.pointer (some ⟨gb, ob, none⟩)))
   have hBs : Below g wm (wm.setCell ⟨g, 1, none⟩ (.pointer (some ⟨gb, ob, none⟩))) := (Below.refl g wm).setCell (p := ⟨g, 1, none⟩) (Nat.le_refl _) _
   have HFo := vv (HFo.out.belowLt hBs (by have := HGs.out; omega))
   have HX := vv (HX.out.belowLt hBs (by have := HGs.out; omega))
   have HB := vv (HB.out.trans (hBs.mono (by have := HGs.out; omega)))
   have HNb := vv (HNb.out.set1 gb ob)
   obtain ⟨wl, hwl⟩ := yx (wm.setCell ⟨g, 1, none⟩ (.pointer (some ⟨gb, ob, none⟩)))
   rw [<- hwl] at HIa HIb HFo HX HB HNb ⊢
   clear hwl hBs fz1
   refine hK.out _ _ HX.out.c2 (fun hHeld => ?_)
   clear hK
  rotate_left 1
  focus
   go_simp
   refine (HBl.out _ gN HIn.out).mono ?_
   rintro e w' ⟨rfl, rfl⟩
   go_wp2_with fail
   refine hK.out _ _ HX.out.c2 (fun hHeld => ?_)
   clear hK
   refine sch_two rfl (by rfl) rfl (by rfl) (fun K hK => ?_) (fun K hK => ?_)
   focus
    go_simp
    refine hK.out _ _ HX.out.c2 (fun hHeld => ?_)
    clear hK
    refine sch_one rfl (by rfl) (fun K hK => ?_)
    go_simp
    refine (HNe.out _).mono ?_
    rintro e w' ⟨rfl, rfl⟩
    go_wp2_with fail
    refine hK.out _ _ HX.out.c2 (fun hHeld => ?_)
    clear hK
    refine sch_one rfl (by rfl) (fun K hK => ?_)
    go_simp
    refine (HT.out _ gN gO HIn.out HOn.out).mono ?_
    rintro e wn ⟨ga, oa, gb, ob, rfl, hIa, hIb, hBn⟩
    have HFo := vv (HFo.out.below hBn)
    have HX := vv (HX.out.below hBn)
    have HFz : Hid (∀ j, wn.frozen? ⟨g, j, none⟩ = false) := vv (fun j => (hBn.frozen (p := ⟨g, j, none⟩) HNb.out.lt).trans (HFz.out j))
    have HNb := vv (HNb.out.below hBn)
    have HB := vn HB hBn
    have HIa := vv hIa
    have HIb := vv hIb
    obtain ⟨x0, x1, xl⟩ := HNb.out
    clear hIa hIb hBn HIn HOn
    go_wp2_with fail
    refine hK.out _ _ HX.out.c2 (fun hHeld => ?_)
    clear hK
    iterate 4
     refine sch_still (v := ?_) rfl (by rfl) ?_ ?_
     rotate_left
     ·intro w hSw; go_simp; with_reducible rfl
     simp only [Act.put, List.setIfInBounds_toArray, List.set_cons_zero, List.set_cons_succ]
    refine sch_one rfl (by rfl) (fun K hK => ?_)
    have fz0 := HFz.out 0
    go_simp
    have HFz : Hid (∀ j, (wn.setCell ⟨g, 0, none⟩ (.pointer (some ⟨ga, oa, none⟩))).frozen? ⟨g, j, none⟩ = false) := vv (fun j => (World.frozen?_setCell _ _ _ _).trans (HFz.out j))
    have HIa := vv (HIa.out.setPtr (j := 0) HNb.out.c0 (.pointer (some ⟨ga, oa, none⟩)))
    have HIb := vv (HIb.out.setPtr (j := 0) HNb.out.c0 (.pointer (some ⟨ga, oa, none⟩)))
    have hBs : Below g wn (wn.setCell ⟨g, 0, none⟩ (.pointer (some ⟨ga, oa, none⟩))) := (Below.refl g wn).setCell (p := ⟨g, 0, none⟩) (Nat.le_refl _) _
    have HFo := vv (HFo.out.belowLt hBs (by have := HGs.out; omega))
    have HX := vv (HX.out.belowLt hBs (by have := HGs.out; omega))
    have HB := vv (HB.out.trans (hBs.mono (by have := HGs.out; omega)))
    have HNb := vv (HNb.out.set0 ga oa)
    obtain ⟨wm, hwm⟩ := yx (wn.setCell ⟨g, 0, none⟩ (.pointer (some ⟨ga, oa, none⟩)))
    rw [<- hwm] at HFz HIa HIb HFo HX HB HNb ⊢
    clear hwm hBs fz0
    obtain ⟨x0, x1, xl⟩ := HNb.out
    refine hK.out _ _ HX.out.c2 (fun hHeld => ?_)
    clear hK
    iterate 1
     refine sch_still (v := ?_) rfl (by rfl) ?_ ?_
     rotate_left
     ·intro w hSw; go_simp; with_reducible rfl
     simp only [Act.put, List.setIfInBounds_toArray, List.set_cons_zero, List.set_cons_succ]
    refine sch_one rfl (by rfl) (fun K hK => ?_)
    have fz1 := HFz.out 1
    go_simp
    have HIa := vv (HIa.out.setPtr (j := 1) HNb.out.c0 (.pointer (some ⟨gb, ob, none⟩)))
    have HIb := vv (HIb.out.setPtr (j := 1) HNb.out.c0 (.pointer (some ⟨gb, ob, none⟩)))
    have hBs : Below g wm (wm.setCell ⟨g, 1, none⟩ (.pointer (some ⟨gb, ob, none⟩))) := (Below.refl g wm).setCell (p := ⟨g, 1, none⟩) (Nat.le_refl _) _
    have HFo := vv (HFo.out.belowLt hBs (by have := HGs.out; omega))
    have HX := vv (HX.out.belowLt hBs (by have := HGs.out; omega))
    have HB := vv (HB.out.trans (hBs.mono (by have := HGs.out; omega)))
    have HNb := vv (HNb.out.set1 gb ob)
    obtain ⟨wl, hwl⟩ := yx (wm.setCell ⟨g, 1, none⟩ (.pointer (some ⟨gb, ob, none⟩)))
    rw [<- hwl] at HIa HIb HFo HX HB HNb ⊢
    clear hwl hBs fz1
    refine hK.out _ _ HX.out.c2 (fun hHeld => ?_)
    clear hK
   rotate_left 1
   focus
    go_simp
    refine (HNe.out _).mono ?_
    rintro e w' ⟨rfl, rfl⟩
    go_wp2_with fail
    refine hK.out _ _ HX.out.c2 (fun hHeld => ?_)
    clear hK
    refine sch_one rfl (by rfl) (fun K hK => ?_)
    go_simp
    refine hK.out _ _ HX.out.c2 (fun hHeld => ?_)
    clear hK
    refine sch_one rfl (by rfl) (fun K hK => ?_)
    go_simp
    refine (HT.out _ gN gO HIn.out HOn.out).mono ?_
    rintro e wn ⟨ga, oa, gb, ob, rfl, hIa, hIb, hBn⟩
    have HFo := vv (HFo.out.below hBn)
    have HX := vv (HX.out.below hBn)
    have HFz : Hid (∀ j, wn.frozen? ⟨g, j, none⟩ = false) := vv (fun j => (hBn.frozen (p := ⟨g, j, none⟩) HNb.out.lt).trans (HFz.out j))
    have HNb := vv (HNb.out.below hBn)
    have HB := vn HB hBn
    have HIa := vv hIa
    have HIb := vv hIb
    obtain ⟨x0, x1, xl⟩ := HNb.out
    clear hIa hIb hBn HIn HOn
    go_wp2_with fail
    refine hK.out _ _ HX.out.c2 (fun hHeld => ?_)
    clear hK
    iterate 4
     refine sch_still (v := ?_) rfl (by rfl) ?_ ?_
     rotate_left
     ·intro w hSw; go_simp; with_reducible rfl
     simp only [Act.put, List.setIfInBounds_toArray, List.set_cons_zero, List.set_cons_succ]
    refine sch_one rfl (by rfl) (fun K hK => ?_)
    have fz0 := HFz.out 0
    go_simp
    have HFz : Hid (∀ j, (wn.setCell ⟨g, 0, none⟩ (.pointer (some ⟨ga, oa, none⟩))).frozen? ⟨g, j, none⟩ = false) := vv (fun j => (World.frozen?_setCell _ _ _ _).trans (HFz.out j))
    have HIa := vv (HIa.out.setPtr (j := 0) HNb.out.c0 (.pointer (some ⟨ga, oa, none⟩)))
    have HIb := vv (HIb.out.setPtr (j := 0) HNb.out.c0 (.pointer (some ⟨ga, oa, none⟩)))
    have hBs : Below g wn (wn.setCell ⟨g, 0, none⟩ (.pointer (some ⟨ga, oa, none⟩))) := (Below.refl g wn).setCell (p := ⟨g, 0, none⟩) (Nat.le_refl _) _
    have HFo := vv (HFo.out.belowLt hBs (by have := HGs.out; omega))
    have HX := vv (HX.out.belowLt hBs (by have := HGs.out; omega))
    have HB := vv (HB.out.trans (hBs.mono (by have := HGs.out; omega)))
    have HNb := vv (HNb.out.set0 ga oa)
    obtain ⟨wm, hwm⟩ := yx (wn.setCell ⟨g, 0, none⟩ (.pointer (some ⟨ga, oa, none⟩)))
    rw [<- hwm] at HFz HIa HIb HFo HX HB HNb ⊢
    clear hwm hBs fz0
    obtain ⟨x0, x1, xl⟩ := HNb.out
    refine hK.out _ _ HX.out.c2 (fun hHeld => ?_)
    clear hK
    iterate 1
     refine sch_still (v := ?_) rfl (by rfl) ?_ ?_
     rotate_left
     ·intro w hSw; go_simp; with_reducible rfl
     simp only [Act.put, List.setIfInBounds_toArray, List.set_cons_zero, List.set_cons_succ]
    refine sch_one rfl (by rfl) (fun K hK => ?_)
    have fz1 := HFz.out 1
    go_simp
    have HIa := vv (HIa.out.setPtr (j := 1) HNb.out.c0 (.pointer (some ⟨gb, ob, none⟩)))
    have HIb := vv (HIb.out.setPtr (j := 1) HNb.out.c0 (.pointer (some ⟨gb, ob, none⟩)))
    have hBs : Below g wm (wm.setCell ⟨g, 1, none⟩ (.pointer (some ⟨gb, ob, none⟩))) := (Below.refl g wm).setCell (p := ⟨g, 1, none⟩) (Nat.le_refl _) _
    have HFo := vv (HFo.out.belowLt hBs (by have := HGs.out; omega))
    have HX := vv (HX.out.belowLt hBs (by have := HGs.out; omega))
    have HB := vv (HB.out.trans (hBs.mono (by have := HGs.out; omega)))
    have HNb := vv (HNb.out.set1 gb ob)
    obtain ⟨wl, hwl⟩ := yx (wm.setCell ⟨g, 1, none⟩ (.pointer (some ⟨gb, ob, none⟩)))
    rw [<- hwl] at HIa HIb HFo HX HB HNb ⊢
    clear hwl hBs fz1
    refine hK.out _ _ HX.out.c2 (fun hHeld => ?_)
    clear hK
 all_goals
  refine sch_end rfl ?_
  clear x0 x1 xl
  obtain ⟨x0, x1, xl⟩ := HNb.out
  obtain ⟨f0, f1, l0⟩ := HFo.out
  have r0 := HX.out.c0
  have l1 := HX.out.lt
  go_wp2_with fail
  refine (HSi.out _ ga oa gb ob HIa.out HIb.out).mono ?_
  rintro e w8 ⟨rfl, hB8⟩
  have HB8 := vn HB hB8
  clear hB8 x0 x1 xl f0 f1 l0 r0 l1
  go_wp2
  go_ret3
  exact ⟨rfl, HB8.out⟩
end Rnd
end Go.Proofs.YtddaldghlinokaaGreatDoor
namespace Go.Proofs.YtddaldghlinokaaGreatDoor.R5
open Go Go.RowKit
theorem RatioBox.fs {l : List Ob} {w w' : World} {g : Nat} {neg : Bool} {X : Option Addr} {n c : Nat} {Y : Option Addr} {m d : Nat} (h : RatioBox w g neg X n c Y m d) (hf : Fs l w w') (hne : ∀ p ∈ l, p.1 ≠ g) : RatioBox w' g neg X n c Y m d :=
 ⟨Rnd.Fs.cell0 hf h.c0 h.lt hne, Rnd.Fs.cell0 hf h.c1 h.lt hne, Rnd.Fs.cell0 hf h.c2 h.lt hne, Nat.lt_of_lt_of_le h.lt hf.size⟩
theorem RatioBox.drew {w : World} {g : Nat} {neg : Bool} {X : Option Addr} {n c : Nat} {Y : Option Addr} {m d : Nat} (h : RatioBox w g neg X n c Y m d) : RatioBox w.drew g neg X n c Y m d := ⟨h.c0, h.c1, h.c2, h.lt⟩
end Go.Proofs.YtddaldghlinokaaGreatDoor.R5
namespace Go.Proofs.YtddaldghlinokaaGreatDoor.Rtp
open Go Go.RowKit R5
theorem low1 {p : Int} {N D : Nat} (hp : p.natAbs = N) (hg : Nat.gcd N D = 1) : lp p D = p /\ ld p D = D := by
 unfold lp ld
 rw [hp, hg, Nat.div_one, Nat.div_one]
 refine ⟨?_, rfl⟩
 unfold sg
 by_cases h : p < 0
 ·rw [decide_eq_true h, if_pos rfl]; omega
 ·rw [decide_eq_false h, if_neg (by decide)]; omega
set_option maxRecDepth 100000 in
set_option maxHeartbeats 4000000 in
theorem taken_false (X : Option Addr) (n c : Nat) (Y : Option Addr) (m d N D : Nat) (w : World) (hX : Rd w X n c (toL N)) (hY : Rd w Y m d (toL D)) (hn : n <= 16384) (hm : m <= 16384) (hD : 0 < D) (hg : Nat.gcd N D = 1) (hst : Std w) :
  Calls Tryz.prog 162 #[ratioV false X n c Y m d] w fun e w' => ∃ g, e = .returned (.tuple #[.pointer (some ⟨g, 0, none⟩), .int .i64 0]) /\ w.heap.size <= g /\ RatAt w' g ((N : Int)) D /\ Below w.heap.size w w' := by
 obtain ⟨p, hp⟩ : ∃ p : Int, p = (N : Int) := ⟨_, rfl⟩
 have hpN : p.natAbs = N := by omega
 obtain ⟨elp, eld⟩ := low1 hpN hg
 have wn := hX.words
 have wm := hY.words
 have bN : bl N <= 524288 := by have := A.bl_words N; omega
 have bD : bl D <= 524288 := by have := A.bl_words D; omega
 have hm0 : 0 < m := by
  rcases Nat.eq_zero_or_pos m with h | h
  ·rw [h, words_eq_zero] at wm; omega
  ·exact h
 obtain ⟨w0, hw0⟩ := yx (w.alloc (.cells #[.bool false, .slice X n c, .slice Y m d] 114))
 have b0 : Below w.heap.size w w0 := by rw [hw0]; exact (Below.refl _ w).alloc (Nat.le_refl _) _
 have x0 : RatioBox w0 w.heap.size false X n c Y m d := by rw [hw0]; exact RatioBox.made w _ _ _ _ _ _ _ _
 have HW0 := vv hw0
 have HB := vv b0
 have HX := vv x0
 have HST := vv hst
 have HCk1 := vv fun w' (h : Below w.heap.size w w') => Nat_.Check X n c (toL N) w' (hX.below h rfl)
 rw [Nat_.natErr_ok (natOk_toL hX hn)] at HCk1
 have HCk2 := vv fun w' (h : Below w.heap.size w w') => Nat_.Check Y m d (toL D) w' (hY.below h rfl)
 rw [Nat_.natErr_ok (natOk_toL hY hm)] at HCk2
 have HWh1 := vv fun w' (h : Below w.heap.size w w') => whole X n c N w' (hX.below h rfl) (by omega)
 have HWh2 := vv fun w' (h : Below w.heap.size w w') => whole Y m d D w' (hY.below h rfl) (by omega)
 have HNg := vv fun w' g (h : IntAt w' g 0 (N : Int)) => A.Neg g 0 g 0 (N : Int) (N : Int) w' h h
 have HSf := vv fun w' g gx gy (h : RatSh w' g) (hx : IntAt w' gx 0 p) (hy : IntAt w' gy 0 (D : Int)) (hs : Std w') => A.SetFrac g gx gy p D w' h hx hy hD hs (by rw [hpN]; unfold Sz; omega) (by unfold Sz; omega)
 have HTo := vv fun w' g (h : RatAt w' g p D) => told g p D w' h (by rw [elp, hpN]; exact bN) (by rw [eld]; exact bD)
 have HDe := vv fun w' g (h : RatAt w' g p D) => A.Denom g p D w' h
 simp only [elp, eld, hpN] at HTo HDe
 have HCm := vv fun w' g gx (h : IntAt w' g 0 (D : Int)) (h' : IntAt w' gx 0 (D : Int)) => A.Cmp g 0 gx 0 (D : Int) (D : Int) w' h h'
 simp only [cmpZ_eq] at HCm
 have edp : decide (p < 0) = false := by rw [decide_eq_false_iff_not]; omega
 simp only [edp] at HTo
 have HWn := vv wn
 have HWm := vv wm
 have hmi : ((m : Int) == 0) = false := by rw [beq_eq_false_iff_ne]; omega
 have hni : (n : Int) <= 16384 := by omega
 have hmi2 : (m : Int) <= 16384 := by omega
 have f0 := x0.c0
 have f1 := x0.c1
 have f2 := x0.c2
 have fl := x0.lt
 rw [<- hp]
 have HP := vv hp
 clear hX hY hn hm hD hg hst hp hpN elp eld wn wm bN bD hm0 hw0 b0 x0 edp 
 go_enter Tryz.func162, Tryz.ntmps162
 go_wp2_with fail
 rw [<- HW0.out]
 refine (HCk1.out _ HB.out).mono ?_
 rintro e w1 ⟨rfl, hB1⟩
 have HX := vv (HX.out.below hB1)
 have HB := vn HB hB1
 obtain ⟨f0, f1, f2, fl⟩ := HX.out
 clear hB1
 go_wp2_with fail
 refine (HCk2.out _ HB.out).mono ?_
 rintro e w2 ⟨rfl, hB2⟩
 have HX := vv (HX.out.below hB2)
 have HB := vn HB hB2
 obtain ⟨f0, f1, f2, fl⟩ := HX.out
 clear hB2
 go_wp2_with fail
 refine wp_region_sch (fun w' => w'.cell? ⟨w.heap.size, 1, none⟩ = some (.slice X n c) /\ w'.cell? ⟨w.heap.size, 2, none⟩ = some (.slice Y m d)) 6
  (.still 0 (.still 1 (.still 3 (.still 4 (.one 2 (.one 5 .done)))))) (by kernel_rfl) (by kernel_rfl) (fun _ _ d _ _ h => by cases d <;> exact h) ⟨f1, f2⟩ (fun hS0 => ?_)
 have HX : Hid (RatioBox w2.drew w.heap.size false X n c Y m d) := vv HX.out.drew
 have HB : Hid (Below w.heap.size w w2.drew) := vv (below_drew HB.out)
 obtain ⟨wc, hwc⟩ := yx (w2.drew)
 rw [<- hwc] at HX HB hS0 ⊢
 clear hwc f0 f1 f2 fl
 iterate 4
  refine sch_still (v := ?_) rfl (by rfl) ?_ ?_
  rotate_left
  ·intro w hSw; go_simp; with_reducible rfl
  simp only [Act.put, List.setIfInBounds_toArray, List.set_cons_zero, List.set_cons_succ]
 refine sch_one rfl (by rfl) (fun K hK => ?_)
 go_simp
 refine (HWh1.out _ HB.out).mono ?_
 rintro e w3 ⟨g1, rfl, hg1, hI1, hB3⟩
 have HI1 := vv hI1
 have HX := vv (HX.out.below hB3)
 have HB := vn HB hB3
 have HG1 : Hid (w.heap.size < g1) := vv (by have := HX.out.lt; have := hB3.size; have : w.heap.size < wc.heap.size := by { show _; exact (by assumption : RatioBox wc w.heap.size false X n c Y m d).lt }; omega)
 clear hI1 hB3 hg1
 go_wp2_with fail
 refine hK.out _ _ ⟨HX.out.c1, HX.out.c2⟩ (fun hHeld => ?_)
 clear hK
 refine sch_one rfl (by rfl) (fun K hK => ?_)
 go_simp
 refine (HWh2.out _ HB.out).mono ?_
 rintro e w4 ⟨g2, rfl, hg2, hI2, hB4⟩
 have HI2 := vv hI2
 have hne : g1 < g2 := by have := HI1.out.lt; omega
 have HNE := vv hne
 have HI1 := vv (HI1.out.below hB4)
 have HX := vv (HX.out.below hB4)
 have HB := vn HB hB4
 clear hI2 hB4 hg2 hne
 go_wp2_with fail
 refine hK.out _ _ ⟨HX.out.c1, HX.out.c2⟩ (fun hHeld => ?_)
 clear hK
 refine sch_done ?_
 have f0 := HX.out.c0
 have fl := HX.out.lt
 have hi2 : IntAt w4 g1 0 p := by rw [HP.out]; exact HI1.out
 have HI1 := vv hi2
 clear hi2
 obtain ⟨w5, rfl⟩ : ∃ x : World, x = w4 := ⟨_, rfl⟩
 obtain ⟨w6, hw6⟩ := yx (w5.alloc (.cells #[.bool false, .slice none 0 0, .slice none 0 0] 211))
 have b6 : Below w5.heap.size w5 w6 := by rw [hw6]; exact (Below.refl _ _).alloc (Nat.le_refl _) _
 have z6 : RatAt w6 w5.heap.size 0 1 := by rw [hw6]; exact RatAt.zero _ _
 obtain ⟨g, hgd⟩ := yx (w5.heap.size)
 have lg1 := HI1.out.lt
 have lg2 := HI2.out.lt
 have lgX := HX.out.lt
 rw [<- hgd] at z6 lg1 lg2 lgX
 have HZ6 := vv z6
 have HI1 := vv (HI1.out.below b6)
 have HI2 := vv (HI2.out.below b6)
 have HX := vv (HX.out.below b6)
 have HGB : Hid (w.heap.size < g) := vv lgX
 have HB := vn HB b6
 have HLT := vv (And.intro lg1 (And.intro lg2 lgX))
 have HW6 := vv hw6
 have HGD := vv hgd
 clear hw6 b6 z6 hgd lg1 lg2 lgX
 go_wp2_with fail
 clear f0 fl
 rw [<- HW6.out, <- HGD.out]
 clear HW6 HGD
 refine (HSf.out _ g g1 g2 HZ6.out.sh HI1.out HI2.out (HST.out.fs (Fs.of_nil HB.out))).mono ?_
 rintro e w7 hP
 have hbn := hP.below HB.out HB.out.size (by have := HGB.out; omega)
 have HRat := vv hP.2.1
 have HX := vv (HX.out.fs hP.2.2 (by intro p hp; simp at hp; rw [hp]; have := HLT.out.2.2; show g ≠ _; omega))
 have HI2 := vv (HI2.out.fs hP.2.2 (by intro p hp k; simp at hp; rw [hp] at k; have := HLT.out.2.1; exact absurd k (by show g ≠ _; omega)))
 have HB := vv hbn
 obtain ⟨rfl, -, -⟩ := hP
 clear hbn
 go_wp2_with fail
 refine (HTo.out _ g HRat.out).mono ?_
 rintro e w8 ⟨X', n', Y', m', rfl, hX', hY', hB8⟩
 obtain rfl : n' = n := by rw [<- hX'.words]; exact HWn.out
 obtain rfl : m' = m := by rw [<- hY'.words]; exact HWm.out
 have HRat := vv (HRat.out.below hB8)
 have HX := vv (HX.out.below hB8)
 have HI2 := vv (HI2.out.below hB8)
 have HB := vn HB hB8
 clear hX' hY' hB8
 obtain ⟨w9, hw9⟩ := yx (w8.alloc (.cells #[.bool false, .slice X' n' n', .slice Y' m' m'] 114))
 have b9 : Below w8.heap.size w8 w9 := by rw [hw9]; exact (Below.refl _ _).alloc (Nat.le_refl _) _
 have x9 : RatioBox w9 w8.heap.size false X' n' n' Y' m' m' := by rw [hw9]; exact RatioBox.made _ _ _ _ _ _ _ _ _
 obtain ⟨gy, hgy⟩ := yx (w8.heap.size)
 rw [<- hgy] at x9
 have HRat := vv (HRat.out.below b9)
 have HX := vv (HX.out.below b9)
 have HY := vv x9
 have HI2 := vv (HI2.out.below b9)
 have HB := vn HB b9
 have HW9 := vv hw9
 have HGY := vv hgy
 clear hw9 b9 x9 hgy
 go_wp2_with fail
 rw [<- HW9.out, <- HGY.out]
 clear HW9 HGY
 refine wp_region_sch (fun w' => (w'.cell? ⟨gy, 0, none⟩ = some (.bool false) /\ w'.cell? ⟨gy, 1, none⟩ = some (.slice X' n' n') /\ w'.cell? ⟨gy, 2, none⟩ = some (.slice Y' m' m')) /\ w'.cell? ⟨w.heap.size, 0, none⟩ = some (.bool false) /\ w'.cell? ⟨w.heap.size, 1, none⟩ = some (.slice X n' c) /\ w'.cell? ⟨w.heap.size, 2, none⟩ = some (.slice Y m' d)) 16
  (.still 0 (.still 1 (.still 2 (.still 3 (.still 5 (.one 4 (.one 6 (.still 7 (.still 8 (.still 9 (.still 10 (.still 12 (.one 11 (.one 13 (.still 14 (.still 15 .done)))))))))))))))) (by kernel_rfl) (by kernel_rfl) (fun _ _ d _ _ h => by cases d <;> exact h) ⟨⟨HY.out.c0, HY.out.c1, HY.out.c2⟩, HX.out.c0, HX.out.c1, HX.out.c2⟩ (fun hS0 => ?_)
 have HX : Hid (RatioBox w9.drew w.heap.size false X n' c Y m' d) := vv HX.out.drew
 have HY : Hid (RatioBox w9.drew gy false X' n' n' Y' m' m') := vv HY.out.drew
 have HRat : Hid (RatAt w9.drew g p D) := vv (HRat.out.like rfl)
 have HI2 : Hid (IntAt w9.drew g2 0 (D : Int)) := vv HI2.out.drew
 have HB : Hid (Below w.heap.size w w9.drew) := vv (below_drew HB.out)
 obtain ⟨wc, hwc⟩ := yx (w9.drew)
 rw [<- hwc] at HX HY HRat HI2 HB hS0 ⊢
 clear hwc
 have yl := HY.out.lt
 have xl := HX.out.lt
 iterate 5
  refine sch_still (v := ?_) rfl (by rfl) ?_ ?_
  rotate_left
  ·intro w hSw; go_simp; with_reducible rfl
  simp only [Act.put, List.setIfInBounds_toArray, List.set_cons_zero, List.set_cons_succ]
 refine sch_one rfl (by rfl) (fun K hK => ?_)
 go_simp
 refine (seen false X' n' n' Y' m' m' _).mono ?_
 rintro e wn ⟨rfl, hbb⟩
 have HX := vv (HX.out.below hbb)
 have HY := vv (HY.out.below hbb)
 have HRat := vv (HRat.out.below hbb)
 have HI2 := vv (HI2.out.below hbb)
 have HB := vn HB hbb
 clear hbb
 go_wp2_with fail
 refine hK.out _ _ ⟨⟨HY.out.c0, HY.out.c1, HY.out.c2⟩, HX.out.c0, HX.out.c1, HX.out.c2⟩ (fun hHeld => ?_)
 clear hK
 refine sch_one rfl (by rfl) (fun K hK => ?_)
 go_simp
 refine (seen false X n' c Y m' d _).mono ?_
 rintro e wn ⟨rfl, hbb⟩
 have HX := vv (HX.out.below hbb)
 have HY := vv (HY.out.below hbb)
 have HRat := vv (HRat.out.below hbb)
 have HI2 := vv (HI2.out.below hbb)
 have HB := vn HB hbb
 clear hbb
 go_wp2_with fail
 refine hK.out _ _ ⟨⟨HY.out.c0, HY.out.c1, HY.out.c2⟩, HX.out.c0, HX.out.c1, HX.out.c2⟩ (fun hHeld => ?_)
 clear hK
 iterate 5
  refine sch_still (v := ?_) rfl (by rfl) ?_ ?_
  rotate_left
  ·intro w hSw; go_simp; with_reducible rfl
  simp only [Act.put, List.setIfInBounds_toArray, List.set_cons_zero, List.set_cons_succ]
 refine sch_one rfl (by rfl) (fun K hK => ?_)
 go_simp
 refine (HDe.out _ g HRat.out).mono ?_
 rintro e wn ⟨g9, rfl, hg9, hI9, hbb⟩
 have HX := vv (HX.out.below hbb)
 have HY := vv (HY.out.below hbb)
 have HRat := vv (HRat.out.below hbb)
 have HI2 := vv (HI2.out.below hbb)
 have HB := vn HB hbb
 have HI9 := vv hI9
 clear hbb hg9 hI9
 go_wp2_with fail
 refine hK.out _ _ ⟨⟨HY.out.c0, HY.out.c1, HY.out.c2⟩, HX.out.c0, HX.out.c1, HX.out.c2⟩ (fun hHeld => ?_)
 clear hK
 refine sch_one rfl (by rfl) (fun K hK => ?_)
 go_simp
 refine (HCm.out _ g9 g2 HI9.out HI2.out).mono ?_
 rintro e wn ⟨rfl, hbb⟩
 have HX := vv (HX.out.below hbb)
 have HY := vv (HY.out.below hbb)
 have HRat := vv (HRat.out.below hbb)
 have HI2 := vv (HI2.out.below hbb)
 have HB := vn HB hbb
 clear hbb
 go_wp2_with fail
 refine hK.out _ _ ⟨⟨HY.out.c0, HY.out.c1, HY.out.c2⟩, HX.out.c0, HX.out.c1, HX.out.c2⟩ (fun hHeld => ?_)
 clear hK
 iterate 2
  refine sch_still (v := ?_) rfl (by rfl) ?_ ?_
  rotate_left
  ·intro w hSw; go_simp; with_reducible rfl
  simp only [Act.put, List.setIfInBounds_toArray, List.set_cons_zero, List.set_cons_succ]
 refine sch_end rfl ?_
 go_wp2
 go_ret2
 exact ⟨g, rfl, by have := HGB.out; omega, HRat.out, HB.out⟩
set_option maxRecDepth 100000 in
set_option maxHeartbeats 4000000 in
theorem taken_true (X : Option Addr) (n c : Nat) (Y : Option Addr) (m d N D : Nat) (w : World) (hX : Rd w X n c (toL N)) (hY : Rd w Y m d (toL D)) (hn : n <= 16384) (hm : m <= 16384) (hD : 0 < D) (hg : Nat.gcd N D = 1) (hN : 0 < N) (hst : Std w) :
  Calls Tryz.prog 162 #[ratioV true X n c Y m d] w fun e w' => ∃ g, e = .returned (.tuple #[.pointer (some ⟨g, 0, none⟩), .int .i64 0]) /\ w.heap.size <= g /\ RatAt w' g (-(N : Int)) D /\ Below w.heap.size w w' := by
 obtain ⟨p, hp⟩ : ∃ p : Int, p = -(N : Int) := ⟨_, rfl⟩
 have hpN : p.natAbs = N := by omega
 obtain ⟨elp, eld⟩ := low1 hpN hg
 have wn := hX.words
 have wm := hY.words
 have bN : bl N <= 524288 := by have := A.bl_words N; omega
 have bD : bl D <= 524288 := by have := A.bl_words D; omega
 have hm0 : 0 < m := by
  rcases Nat.eq_zero_or_pos m with h | h
  ·rw [h, words_eq_zero] at wm; omega
  ·exact h
 obtain ⟨w0, hw0⟩ := yx (w.alloc (.cells #[.bool true, .slice X n c, .slice Y m d] 114))
 have b0 : Below w.heap.size w w0 := by rw [hw0]; exact (Below.refl _ w).alloc (Nat.le_refl _) _
 have x0 : RatioBox w0 w.heap.size true X n c Y m d := by rw [hw0]; exact RatioBox.made w _ _ _ _ _ _ _ _
 have HW0 := vv hw0
 have HB := vv b0
 have HX := vv x0
 have HST := vv hst
 have HCk1 := vv fun w' (h : Below w.heap.size w w') => Nat_.Check X n c (toL N) w' (hX.below h rfl)
 rw [Nat_.natErr_ok (natOk_toL hX hn)] at HCk1
 have HCk2 := vv fun w' (h : Below w.heap.size w w') => Nat_.Check Y m d (toL D) w' (hY.below h rfl)
 rw [Nat_.natErr_ok (natOk_toL hY hm)] at HCk2
 have HWh1 := vv fun w' (h : Below w.heap.size w w') => whole X n c N w' (hX.below h rfl) (by omega)
 have HWh2 := vv fun w' (h : Below w.heap.size w w') => whole Y m d D w' (hY.below h rfl) (by omega)
 have HNg := vv fun w' g (h : IntAt w' g 0 (N : Int)) => A.Neg g 0 g 0 (N : Int) (N : Int) w' h h
 have HSf := vv fun w' g gx gy (h : RatSh w' g) (hx : IntAt w' gx 0 p) (hy : IntAt w' gy 0 (D : Int)) (hs : Std w') => A.SetFrac g gx gy p D w' h hx hy hD hs (by rw [hpN]; unfold Sz; omega) (by unfold Sz; omega)
 have HTo := vv fun w' g (h : RatAt w' g p D) => told g p D w' h (by rw [elp, hpN]; exact bN) (by rw [eld]; exact bD)
 have HDe := vv fun w' g (h : RatAt w' g p D) => A.Denom g p D w' h
 simp only [elp, eld, hpN] at HTo HDe
 have HCm := vv fun w' g gx (h : IntAt w' g 0 (D : Int)) (h' : IntAt w' gx 0 (D : Int)) => A.Cmp g 0 gx 0 (D : Int) (D : Int) w' h h'
 simp only [cmpZ_eq] at HCm
 have edp : decide (p < 0) = true := by rw [decide_eq_true_eq]; omega
 simp only [edp] at HTo
 have HWn := vv wn
 have HWm := vv wm
 have hmi : ((m : Int) == 0) = false := by rw [beq_eq_false_iff_ne]; omega
 have hni : (n : Int) <= 16384 := by omega
 have hmi2 : (m : Int) <= 16384 := by omega
 have f0 := x0.c0
 have f1 := x0.c1
 have f2 := x0.c2
 have fl := x0.lt
 rw [<- hp]
 have HP := vv hp
 clear hX hY hn hm hD hg hst hp hpN elp eld wn wm bN bD hm0 hw0 b0 x0 edp hN
 go_enter Tryz.func162, Tryz.ntmps162
 go_wp2_with fail
 rw [<- HW0.out]
 refine (HCk1.out _ HB.out).mono ?_
 rintro e w1 ⟨rfl, hB1⟩
 have HX := vv (HX.out.below hB1)
 have HB := vn HB hB1
 obtain ⟨f0, f1, f2, fl⟩ := HX.out
 clear hB1
 go_wp2_with fail
 refine (HCk2.out _ HB.out).mono ?_
 rintro e w2 ⟨rfl, hB2⟩
 have HX := vv (HX.out.below hB2)
 have HB := vn HB hB2
 obtain ⟨f0, f1, f2, fl⟩ := HX.out
 clear hB2
 go_wp2_with fail
 refine wp_region_sch (fun w' => w'.cell? ⟨w.heap.size, 1, none⟩ = some (.slice X n c) /\ w'.cell? ⟨w.heap.size, 2, none⟩ = some (.slice Y m d)) 6
  (.still 0 (.still 1 (.still 3 (.still 4 (.one 2 (.one 5 .done)))))) (by kernel_rfl) (by kernel_rfl) (fun _ _ d _ _ h => by cases d <;> exact h) ⟨f1, f2⟩ (fun hS0 => ?_)
 have HX : Hid (RatioBox w2.drew w.heap.size true X n c Y m d) := vv HX.out.drew
 have HB : Hid (Below w.heap.size w w2.drew) := vv (below_drew HB.out)
 obtain ⟨wc, hwc⟩ := yx (w2.drew)
 rw [<- hwc] at HX HB hS0 ⊢
 clear hwc f0 f1 f2 fl
 iterate 4
  refine sch_still (v := ?_) rfl (by rfl) ?_ ?_
  rotate_left
  ·intro w hSw; go_simp; with_reducible rfl
  simp only [Act.put, List.setIfInBounds_toArray, List.set_cons_zero, List.set_cons_succ]
 refine sch_one rfl (by rfl) (fun K hK => ?_)
 go_simp
 refine (HWh1.out _ HB.out).mono ?_
 rintro e w3 ⟨g1, rfl, hg1, hI1, hB3⟩
 have HI1 := vv hI1
 have HX := vv (HX.out.below hB3)
 have HB := vn HB hB3
 have HG1 : Hid (w.heap.size < g1) := vv (by have := HX.out.lt; have := hB3.size; have : w.heap.size < wc.heap.size := by { show _; exact (by assumption : RatioBox wc w.heap.size true X n c Y m d).lt }; omega)
 clear hI1 hB3 hg1
 go_wp2_with fail
 refine hK.out _ _ ⟨HX.out.c1, HX.out.c2⟩ (fun hHeld => ?_)
 clear hK
 refine sch_one rfl (by rfl) (fun K hK => ?_)
 go_simp
 refine (HWh2.out _ HB.out).mono ?_
 rintro e w4 ⟨g2, rfl, hg2, hI2, hB4⟩
 have HI2 := vv hI2
 have hne : g1 < g2 := by have := HI1.out.lt; omega
 have HNE := vv hne
 have HI1 := vv (HI1.out.below hB4)
 have HX := vv (HX.out.below hB4)
 have HB := vn HB hB4
 clear hI2 hB4 hg2 hne
 go_wp2_with fail
 refine hK.out _ _ ⟨HX.out.c1, HX.out.c2⟩ (fun hHeld => ?_)
 clear hK
 refine sch_done ?_
 have f0 := HX.out.c0
 have fl := HX.out.lt
 go_wp2_with fail
 refine (HNg.out _ g1 HI1.out).mono ?_
 rintro e w5 ⟨rfl, hi, hf⟩
 have hF := hf.fs HI1.out hi
 have HI2 := vv (HI2.out.fs hF (by intro p hp k; simp at hp; rw [hp] at k; have := HNE.out; exact absurd k (by show g1 ≠ _; omega)))
 have HX := vv (HX.out.fs hF (by intro p hp; simp at hp; rw [hp]; have := HG1.out; show g1 ≠ _; omega))
 have HB := vv (hF.below HB.out HB.out.size (by intro p hp; simp at hp; rw [hp]; have := HG1.out; show w.heap.size <= g1; omega))
 have hi2 : IntAt w5 g1 0 p := by rw [HP.out]; exact hi
 have HI1 := vv hi2
 have f0 := HX.out.c0
 have fl := HX.out.lt
 clear hi hf hF hi2
 obtain ⟨w6, hw6⟩ := yx (w5.alloc (.cells #[.bool false, .slice none 0 0, .slice none 0 0] 211))
 have b6 : Below w5.heap.size w5 w6 := by rw [hw6]; exact (Below.refl _ _).alloc (Nat.le_refl _) _
 have z6 : RatAt w6 w5.heap.size 0 1 := by rw [hw6]; exact RatAt.zero _ _
 obtain ⟨g, hgd⟩ := yx (w5.heap.size)
 have lg1 := HI1.out.lt
 have lg2 := HI2.out.lt
 have lgX := HX.out.lt
 rw [<- hgd] at z6 lg1 lg2 lgX
 have HZ6 := vv z6
 have HI1 := vv (HI1.out.below b6)
 have HI2 := vv (HI2.out.below b6)
 have HX := vv (HX.out.below b6)
 have HGB : Hid (w.heap.size < g) := vv lgX
 have HB := vn HB b6
 have HLT := vv (And.intro lg1 (And.intro lg2 lgX))
 have HW6 := vv hw6
 have HGD := vv hgd
 clear hw6 b6 z6 hgd lg1 lg2 lgX
 go_wp2_with fail
 clear f0 fl
 rw [<- HW6.out, <- HGD.out]
 clear HW6 HGD
 refine (HSf.out _ g g1 g2 HZ6.out.sh HI1.out HI2.out (HST.out.fs (Fs.of_nil HB.out))).mono ?_
 rintro e w7 hP
 have hbn := hP.below HB.out HB.out.size (by have := HGB.out; omega)
 have HRat := vv hP.2.1
 have HX := vv (HX.out.fs hP.2.2 (by intro p hp; simp at hp; rw [hp]; have := HLT.out.2.2; show g ≠ _; omega))
 have HI2 := vv (HI2.out.fs hP.2.2 (by intro p hp k; simp at hp; rw [hp] at k; have := HLT.out.2.1; exact absurd k (by show g ≠ _; omega)))
 have HB := vv hbn
 obtain ⟨rfl, -, -⟩ := hP
 clear hbn
 go_wp2_with fail
 refine (HTo.out _ g HRat.out).mono ?_
 rintro e w8 ⟨X', n', Y', m', rfl, hX', hY', hB8⟩
 obtain rfl : n' = n := by rw [<- hX'.words]; exact HWn.out
 obtain rfl : m' = m := by rw [<- hY'.words]; exact HWm.out
 have HRat := vv (HRat.out.below hB8)
 have HX := vv (HX.out.below hB8)
 have HI2 := vv (HI2.out.below hB8)
 have HB := vn HB hB8
 clear hX' hY' hB8
 obtain ⟨w9, hw9⟩ := yx (w8.alloc (.cells #[.bool true, .slice X' n' n', .slice Y' m' m'] 114))
 have b9 : Below w8.heap.size w8 w9 := by rw [hw9]; exact (Below.refl _ _).alloc (Nat.le_refl _) _
 have x9 : RatioBox w9 w8.heap.size true X' n' n' Y' m' m' := by rw [hw9]; exact RatioBox.made _ _ _ _ _ _ _ _ _
 obtain ⟨gy, hgy⟩ := yx (w8.heap.size)
 rw [<- hgy] at x9
 have HRat := vv (HRat.out.below b9)
 have HX := vv (HX.out.below b9)
 have HY := vv x9
 have HI2 := vv (HI2.out.below b9)
 have HB := vn HB b9
 have HW9 := vv hw9
 have HGY := vv hgy
 clear hw9 b9 x9 hgy
 go_wp2_with fail
 rw [<- HW9.out, <- HGY.out]
 clear HW9 HGY
 refine wp_region_sch (fun w' => (w'.cell? ⟨gy, 0, none⟩ = some (.bool true) /\ w'.cell? ⟨gy, 1, none⟩ = some (.slice X' n' n') /\ w'.cell? ⟨gy, 2, none⟩ = some (.slice Y' m' m')) /\ w'.cell? ⟨w.heap.size, 0, none⟩ = some (.bool true) /\ w'.cell? ⟨w.heap.size, 1, none⟩ = some (.slice X n' c) /\ w'.cell? ⟨w.heap.size, 2, none⟩ = some (.slice Y m' d)) 16
  (.still 0 (.still 1 (.still 2 (.still 3 (.still 5 (.one 4 (.one 6 (.still 7 (.still 8 (.still 9 (.still 10 (.still 12 (.one 11 (.one 13 (.still 14 (.still 15 .done)))))))))))))))) (by kernel_rfl) (by kernel_rfl) (fun _ _ d _ _ h => by cases d <;> exact h) ⟨⟨HY.out.c0, HY.out.c1, HY.out.c2⟩, HX.out.c0, HX.out.c1, HX.out.c2⟩ (fun hS0 => ?_)
 have HX : Hid (RatioBox w9.drew w.heap.size true X n' c Y m' d) := vv HX.out.drew
 have HY : Hid (RatioBox w9.drew gy true X' n' n' Y' m' m') := vv HY.out.drew
 have HRat : Hid (RatAt w9.drew g p D) := vv (HRat.out.like rfl)
 have HI2 : Hid (IntAt w9.drew g2 0 (D : Int)) := vv HI2.out.drew
 have HB : Hid (Below w.heap.size w w9.drew) := vv (below_drew HB.out)
 obtain ⟨wc, hwc⟩ := yx (w9.drew)
 rw [<- hwc] at HX HY HRat HI2 HB hS0 ⊢
 clear hwc
 have yl := HY.out.lt
 have xl := HX.out.lt
 iterate 5
  refine sch_still (v := ?_) rfl (by rfl) ?_ ?_
  rotate_left
  ·intro w hSw; go_simp; with_reducible rfl
  simp only [Act.put, List.setIfInBounds_toArray, List.set_cons_zero, List.set_cons_succ]
 refine sch_one rfl (by rfl) (fun K hK => ?_)
 go_simp
 refine (seen true X' n' n' Y' m' m' _).mono ?_
 rintro e wn ⟨rfl, hbb⟩
 have HX := vv (HX.out.below hbb)
 have HY := vv (HY.out.below hbb)
 have HRat := vv (HRat.out.below hbb)
 have HI2 := vv (HI2.out.below hbb)
 have HB := vn HB hbb
 clear hbb
 go_wp2_with fail
 refine hK.out _ _ ⟨⟨HY.out.c0, HY.out.c1, HY.out.c2⟩, HX.out.c0, HX.out.c1, HX.out.c2⟩ (fun hHeld => ?_)
 clear hK
 refine sch_one rfl (by rfl) (fun K hK => ?_)
 go_simp
 refine (seen true X n' c Y m' d _).mono ?_
 rintro e wn ⟨rfl, hbb⟩
 have HX := vv (HX.out.below hbb)
 have HY := vv (HY.out.below hbb)
 have HRat := vv (HRat.out.below hbb)
 have HI2 := vv (HI2.out.below hbb)
 have HB := vn HB hbb
 clear hbb
 go_wp2_with fail
 refine hK.out _ _ ⟨⟨HY.out.c0, HY.out.c1, HY.out.c2⟩, HX.out.c0, HX.out.c1, HX.out.c2⟩ (fun hHeld => ?_)
 clear hK
 iterate 5
  refine sch_still (v := ?_) rfl (by rfl) ?_ ?_
  rotate_left
  ·intro w hSw; go_simp; with_reducible rfl
  simp only [Act.put, List.setIfInBounds_toArray, List.set_cons_zero, List.set_cons_succ]
 refine sch_one rfl (by rfl) (fun K hK => ?_)
 go_simp
 refine (HDe.out _ g HRat.out).mono ?_
 rintro e wn ⟨g9, rfl, hg9, hI9, hbb⟩
 have HX := vv (HX.out.below hbb)
 have HY := vv (HY.out.below hbb)
 have HRat := vv (HRat.out.below hbb)
 have HI2 := vv (HI2.out.below hbb)
 have HB := vn HB hbb
 have HI9 := vv hI9
 clear hbb hg9 hI9
 go_wp2_with fail
 refine hK.out _ _ ⟨⟨HY.out.c0, HY.out.c1, HY.out.c2⟩, HX.out.c0, HX.out.c1, HX.out.c2⟩ (fun hHeld => ?_)
 clear hK
 refine sch_one rfl (by rfl) (fun K hK => ?_)
 go_simp
 refine (HCm.out _ g9 g2 HI9.out HI2.out).mono ?_
 rintro e wn ⟨rfl, hbb⟩
 have HX := vv (HX.out.below hbb)
 have HY := vv (HY.out.below hbb)
 have HRat := vv (HRat.out.below hbb)
 have HI2 := vv (HI2.out.below hbb)
 have HB := vn HB hbb
 clear hbb
 go_wp2_with fail
 refine hK.out _ _ ⟨⟨HY.out.c0, HY.out.c1, HY.out.c2⟩, HX.out.c0, HX.out.c1, HX.out.c2⟩ (fun hHeld => ?_)
 clear hK
 iterate 2
  refine sch_still (v := ?_) rfl (by rfl) ?_ ?_
  rotate_left
  ·intro w hSw; go_simp; with_reducible rfl
  simp only [Act.put, List.setIfInBounds_toArray, List.set_cons_zero, List.set_cons_succ]
 refine sch_end rfl ?_
 go_wp2
 go_ret2
 exact ⟨g, rfl, by have := HGB.out; omega, HRat.out, HB.out⟩
theorem taken (neg : Bool) (X : Option Addr) (n c : Nat) (Y : Option Addr) (m d N D : Nat) (w : World) (hX : Rd w X n c (toL N)) (hY : Rd w Y m d (toL D)) (hn : n <= 16384) (hm : m <= 16384) (hD : 0 < D) (hg : Nat.gcd N D = 1) (h0 : neg = true -> 0 < N) (hst : Std w) :
  Calls Tryz.prog 162 #[ratioV neg X n c Y m d] w fun e w' => ∃ g, e = .returned (.tuple #[.pointer (some ⟨g, 0, none⟩), .int .i64 0]) /\ w.heap.size <= g /\ RatAt w' g (sg neg N) D /\ Below w.heap.size w w' := by
 cases neg
 ·exact taken_false X n c Y m d N D w hX hY hn hm hD hg hst
 ·exact taken_true X n c Y m d N D w hX hY hn hm hD hg (h0 rfl) hst
theorem Check (neg : Bool) (X : Option Addr) (n c : Nat) (Y : Option Addr) (m d N D : Nat) (w : World) (hX : Rd w X n c (toL N)) (hY : Rd w Y m d (toL D)) (hn : n <= 16384) (hm : m <= 16384) (hD : 0 < D) (hg : Nat.gcd N D = 1) (h0 : neg = true -> 0 < N) (hst : Std w) :
  Calls Tryz.prog 170 #[ratioV neg X n c Y m d] w fun e w' => e = .returned (.int .i64 0) /\ Below w.heap.size w w' := by
 obtain ⟨w0, hw0⟩ := yx (w.alloc (.cells #[.bool neg, .slice X n c, .slice Y m d] 114))
 have b0 : Below w.heap.size w w0 := by rw [hw0]; exact (Below.refl _ w).alloc (Nat.le_refl _) _
 have x0 : RatioBox w0 w.heap.size neg X n c Y m d := by rw [hw0]; exact RatioBox.made w _ _ _ _ _ _ _ _
 have HT := vv (taken neg X n c Y m d N D w0 (hX.below b0 rfl) (hY.below b0 rfl) hn hm hD hg h0 (hst.fs (Fs.of_nil b0)))
 have HW0 := vv hw0
 have HB := vv b0
 have f0 := x0.c0
 have f1 := x0.c1
 have f2 := x0.c2
 have fl := x0.lt
 clear hX hY hn hm hD hg h0 hst hw0 b0 x0
 go_enter Tryz.func170, Tryz.ntmps170
 go_wp2_with fail
 rw [<- HW0.out]
 refine HT.out.mono ?_
 rintro e w1 ⟨g, rfl, -, -, hB1⟩
 have HB := vn HB hB1
 clear hB1
 go_wp2
 go_ret
 exact ⟨rfl, HB.out⟩
end Go.Proofs.YtddaldghlinokaaGreatDoor.Rtp
