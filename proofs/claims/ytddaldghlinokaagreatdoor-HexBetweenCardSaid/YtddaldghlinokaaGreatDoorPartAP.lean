/- Lemmas. -/
import Derived.Test.YtddaldghlinokaaGreatDoorPartAO
import Derived.Test.YtddaldghlinokaaGreatDoorPartAI
import Derived.Test.YtddaldghlinokaaGreatDoorPartAB
import Derived.Deep.RegionHeld3
set_option linter.all false
namespace Go.Proofs.YtddaldghlinokaaGreatDoor.B
open Go Go.RowKit
def DivPost (q r : Nat) (w : World) (e : Ending) (w' : World) : Prop :=
 ∃ A m c A' m' c', e = .returned (.tuple #[.slice A m c, .slice A' m' c']) /\ Rd w' A m c (toL q) /\ Rd w' A' m' c' (toL r) /\ Fr w.heap.size A /\ Fr w.heap.size A' /\ Below w.heap.size w w'
end Go.Proofs.YtddaldghlinokaaGreatDoor.B
namespace Go.Proofs.YtddaldghlinokaaGreatDoor.A
open Go Go.RowKit
def DivPost (q r : Nat) (w : World) (e : Ending) (w' : World) : Prop :=
 ∃ A m c A' m' c', e = .returned (.tuple #[.slice A m c, .slice A' m' c']) /\ Rd w' A m c (toL q) /\ Rd w' A' m' c' (toL r) /\ Fr w.heap.size A /\ Fr w.heap.size A' /\ Below w.heap.size w w'
theorem div_less (A B : Option Addr) (n m c d a b : Nat) (w : World) (ha : Rd w A n c (toL a)) (hb : Rd w B m d (toL b)) (h : a < b) :
  Calls Tryz.prog 315 #[.slice A n c, .slice B m d] w (DivPost (a / b) (a % b) w) := by
 have t0 : decide (cmpI a b < 0) = true := by rw [cmpI_lt h]; rfl
 have e1 : a / b = 0 := Nat.div_eq_of_lt h
 have e2 : a % b = a := Nat.mod_eq_of_lt h
 rw [e1, e2]
 have hc : Calls Tryz.prog 313 #[.slice A n c, .slice B m d] w fun e w' => e = .returned (.int .i64 (cmpI a b)) /\ Below w.heap.size w w' := by
  have := cmpWords A B n m c d (toL a) (toL b) w ha hb (by rw [val_toL]) (by rw [val_toL])
  rw [val_toL, val_toL] at this
  exact this
 have HC := vv hc
 clear hc e1 e2
 go_enter Tryz.func315, Tryz.ntmps315
 go_wp2_with fail
 refine HC.out.mono ?_
 rintro e w1 ⟨rfl, hB1⟩
 have HA := vv (ha.below hB1 rfl)
 go_wp2_with fail
 refine (copied _ _ _ _ _ HA.out).mono ?_
 rintro e w2 ⟨rfl, hO, hB2⟩
 go_wp2
 go_ret2
 exact ⟨none, 0, 0, _, _, _, rfl, Rd.nil _, hO.rd HA.out.len.symm (Nat.le_refl _) HA.out.sm, Fr.none_ _, Fr.at_ hB1.size, hB1.trans (hB2.mono hB1.size)⟩
theorem div_one (A B : Option Addr) (n c d a b : Nat) (w : World) (ha : Rd w A n c (toL a)) (hb : Rd w B 1 d (toL b)) (h : b <= a) :
  Calls Tryz.prog 315 #[.slice A n c, .slice B 1 d] w (DivPost (a / b) (a % b) w) := by
 have t0 : decide (cmpI a b < 0) = false := by simp only [decide_eq_false_iff_not]; have := cmpI_ge_zero.2 h; omega
 have hc : Calls Tryz.prog 313 #[.slice A n c, .slice B 1 d] w fun e w' => e = .returned (.int .i64 (cmpI a b)) /\ Below w.heap.size w w' := by
  have := cmpWords A B n 1 c d (toL a) (toL b) w ha hb (by rw [val_toL]) (by rw [val_toL])
  rw [val_toL, val_toL] at this
  exact this
 have HC := vv hc
 have hwb : words b = 1 := hb.words
 have hb1 : b < 4294967296 := by have := lt_words b; rw [hwb] at this; simpa using this
 have hb0 : 0 < b := by
  rcases Nat.eq_zero_or_pos b with h0 | h0
  ·subst h0; rw [words_zero] at hwb; omega
  ·exact h0
 have hn0 : nth (toL b) 0 = b := by rw [nth_toL]; simp; omega
 obtain ⟨g, off, rfl, hbl, hcell⟩ := hb.cell (by omega)
 have hx := hcell 0 (by omega)
 rw [Nat.add_zero, hn0] at hx
 clear hc hwb hn0 hcell
 go_enter Tryz.func315, Tryz.ntmps315
 go_wp2_with fail
 refine HC.out.mono ?_
 rintro e w1 ⟨rfl, hB1⟩
 have HA := vv (ha.below hB1 rfl)
 have hx1 : w1.cell? ⟨g, off, none⟩ = some (.int .u32 (b : Int)) := (hB1.cell (p := ⟨g, off, none⟩) hbl).trans hx
 go_wp2_with fail
 refine (divSmall _ _ _ b _ _ HA.out hb0 hb1).mono ?_
 rintro e w2 ⟨A2, m2, c2, rfl, hR2, hF2, hB2⟩
 rw [val_toL] at hR2
 rw [val_toL]
 have hr : a % b < 4294967296 := Nat.lt_trans (Nat.mod_lt _ hb0) hb1
 generalize hreq : a % b = r at *
 have hown : Own (w2.alloc (.cells #[.int .u32 (r : Int)] 34)) w2.heap.size 34 [r] := Own.lit _ (Lim_cons.2 ⟨hr, Lim_nil⟩) (by simp [u32s])
 have HB2 := vv (hB1.trans (hB2.mono hB1.size))
 have HB3 := vv (HB2.out.alloc HB2.out.size (.cells #[.int .u32 (r : Int)] 34))
 have HR2 := vv (hR2.below ((Below.refl _ w2).alloc (Nat.le_refl _) (.cells #[.int .u32 (r : Int)] 34)) rfl)
 have HO := vv hown
 clear hreq hR2 hown
 go_wp2_with fail
 refine (trim _ _ _ _ _ (HO.out.rd (n := 1) (c := 1) rfl (Nat.le_refl _) (by omega))).mono ?_
 rintro e w' ⟨m', rfl, rfl, hR'⟩
 rw [val_single] at hR'
 go_wp2
 go_ret2
 exact ⟨A2, m2, c2, _, m', 1, rfl, HR2.out, hR', hF2.mono hB1.size, Fr.at_ HB2.out.size, HB3.out⟩
set_option maxRecDepth 100000 in
set_option maxHeartbeats 400000 in
theorem div_main (A B : Option Addr) (n m c d a b : Nat) (w : World) (ha : Rd w A n c (toL a)) (hb : Rd w B m d (toL b)) (h : b <= a) (hm : 2 <= m) (hs : n < 549755813888) :
  Calls Tryz.prog 315 #[.slice A n c, .slice B m d] w (DivPost (a / b) (a % b) w) := by
 have t0 : decide (cmpI a b < 0) = false := by simp only [decide_eq_false_iff_not]; have := cmpI_ge_zero.2 h; omega
 have hc : Calls Tryz.prog 313 #[.slice A n c, .slice B m d] w fun e w' => e = .returned (.int .i64 (cmpI a b)) /\ Below w.heap.size w w' := by
  have := cmpWords A B n m c d (toL a) (toL b) w ha hb (by rw [val_toL]) (by rw [val_toL])
  rw [val_toL, val_toL] at this
  exact this
 have HC := vv hc
 have hwb : words b = m := hb.words
 have hwa : words a = n := ha.words
 have hb0 : 0 < b := by
  rcases Nat.eq_zero_or_pos b with h0 | h0
  ·subst h0; rw [words_zero] at hwb; omega
  ·exact h0
 have hmn : m <= n := by rw [<- hwb, <- hwa]; exact words_mono h
 obtain ⟨g, off, rfl, hbl, hcell⟩ := hb.cell (by omega)
 have hx := hcell (m - 1) (by omega)
 have htl := hb.nth_lt (m - 1)
 obtain ⟨n1, n2, n3⟩ := norm_top hb0
 rw [hwb] at n1 n2 n3
 have t1 : ((m : Int) == 1) = false := by simp; omega
 obtain ⟨s, hseq⟩ := yx (32 - bl (nth (toL b) (m - 1)))
 rw [<- hseq] at n1 n2 n3
 have hAlt : a * 2 ^ s < 4294967296 ^ (n + 1) := by
  have h1 := lt_words a
  rw [hwa] at h1
  have h2 : a * 2 ^ s < 4294967296 ^ n * 2 ^ s := Nat.mul_lt_mul_of_pos_right h1 (Nat.two_pow_pos _)
  have h3 : 2 ^ s <= 2 ^ 32 := Nat.pow_le_pow_right (by omega) (by omega)
  have h4 : 4294967296 ^ n * 2 ^ s <= 4294967296 ^ n * 2 ^ 32 := Nat.mul_le_mul_left _ h3
  rw [Nat.pow_succ]
  omega
 have HALT := vv hAlt
 have HSEQ := vv hseq
 have HN1 := vv n1
 have HN2 := vv n2
 have HWA := vv (And.intro hwa hwb)
 have HH := vv h
 clear hc hwb hwa hcell n1 n2 hseq hAlt h
 have j1 : (0 : Int) <= (m : Int) - 1 := by omega
 have j2 : (m : Int) - 1 < (m : Int) := by omega
 go_enter Tryz.func315, Tryz.ntmps315
 go_wp2_with fail
 refine HC.out.mono ?_
 rintro e w1 ⟨rfl, hB1⟩
 have HA1 := vv (ha.below hB1 rfl)
 have HB1 := vv (hb.below hB1 rfl)
 have hx1 : w1.cell? ⟨g, off + (m - 1), none⟩ = some (.int .u32 ((nth (toL b) (m - 1) : Nat) : Int)) := (hB1.cell (p := ⟨g, off + (m - 1), none⟩) hbl).trans hx
 have HBel1 := vv hB1
 clear hB1 hx
 go_wp2_with fail
 refine (lz32 _ _ htl).mono ?_
 rintro e w' ⟨rfl, rfl⟩
 rw [<- HSEQ.out]
 clear hx1
 go_wp2_with fail
 refine (up _ _ _ _ s _ rfl _ HB1.out (by omega)).mono ?_
 rw [val_toL]
 rintro e w2 ⟨A2, m2, c2, rfl, hR2, hF2, hB2⟩
 have hm2 : m2 = m := by rw [<- hR2.words]; exact HN1.out
 subst hm2
 have hblk := hR2.block_lt (by omega)
 have HR2 := vv hR2
 have HF2 := vv (hF2.mono HBel1.out.size)
 have HA2 := vv (HA1.out.below hB2 rfl)
 have HBel2 := vn HBel1 hB2
 have HBLK := vv hblk
 clear hR2 hF2 hB2 hblk
 have hmk := mk1 n (by omega)
 have hal : Below w2.heap.size w2 (w2.alloc (.cells (madeCells #[.int .u32 0] (n + 1)) 34)) := (Below.refl _ _).alloc (Nat.le_refl _) _
 have HA3 := vv (HA2.out.below hal rfl)
 have HR3 := vv (HR2.out.below hal rfl)
 have HO3 := vv (Own.made w2 (n + 1) 34)
 have HBel3 := vn HBel2 hal
 clear hal
 have hsz3 : (w2.alloc (.cells (madeCells #[.int .u32 0] (n + 1)) 34)).heap.size = w2.heap.size + 1 := World.size_alloc _ _
 have HSZ3 := vv hsz3
 clear hsz3
 go_wp2_with fail
 refine (up _ _ _ _ s _ rfl _ HA3.out (by omega)).mono ?_
 rw [val_toL]
 rintro e w4 ⟨A4, m4, c4, rfl, hR4, hF4, hB4⟩
 have hm4 : m4 <= n + 1 := hR4.bound HALT.out
 have HO4 := vv (HO3.out.below hB4 (by rw [HSZ3.out]; omega))
 have HR4v := vv (HR3.out.below hB4 rfl)
 have HBel4 := vn HBel3 hB4
 have HSZ4 : Hid (w2.heap.size + 1 <= w4.heap.size) := vv (by have := hB4.size; rw [HSZ3.out] at this; exact this)
 have H1 := vv HO4.out.heap
 have HCP := vv hR4
 have HLen : Hid ((u32s (toL (a * 2 ^ s))).length = Nat.min m4 (n + 1)) := vv (by
  have := hR4.len
  have e : (u32s (toL (a * 2 ^ s))).length = m4 := by simpa [u32s] using this
  rw [e]; exact (Nat.min_eq_left hm4).symm)
 have HFit : Hid (0 + (u32s (toL (a * 2 ^ s))).length <= (u32s (List.replicate (n + 1) 0)).length) := vv (by
  have := hR4.len
  simp only [u32s, List.length_map, List.length_replicate]; omega)
 have Hs : Hid ((Tryz.prog.info? 34).map (·.size) = some 1) := vv (by kernel_rfl)
 have HL4 := vv hR4.len
 clear hR4 hF4 hB4 hmk
 go_wp2_with ((with_reducible refine wpList_copy_splice (o := ⟨some 53, _, _, _, _, _⟩) rfl _ _ 26 26 rfl 34 Tryz.underlying26 Hs.out _ _ (n + 1) (n + 1) m4 c4 rfl rfl w2.heap.size 0 _ 34 H1.out (u32s (toL (a * 2 ^ s))) HLen.out (HCP.out.copyPos rfl) HFit.out (u32s_one _) w2.heap.size w4 (Below.refl _ _) (Nat.le_refl _) ?_))
 intro w5 hh hb5
 have HO5 : Hid (Own w5 w2.heap.size 34 (toL (a * 2 ^ s) ++ List.replicate (n + 1 - m4) 0)) := vv (by
  refine Own.of_heap ?_ (Lim_append.2 ⟨Lim_toL _, Lim_replicate _⟩)
  have := hh.out
  have e : splice (u32s (List.replicate (n + 1) 0)) 0 (u32s (toL (a * 2 ^ s))) = u32s (toL (a * 2 ^ s) ++ List.replicate (n + 1 - m4) 0) := by
   unfold splice u32s
   rw [List.take_zero, List.nil_append, List.map_append, Nat.zero_add, List.length_map, HL4.out, <- List.map_drop, List.drop_replicate]
  rw [e] at this
  exact this)
 have HR5 := vv (HR4v.out.below' hb5 HBLK.out)
 have HBel5 := vv (HBel4.out.trans (hb5.mono HBel2.out.size))
 have HSZ5 : Hid (w2.heap.size + 1 <= w5.heap.size) := vv (Nat.le_trans HSZ4.out hb5.size)
 have HVU : Hid (val (toL (a * 2 ^ s) ++ List.replicate (n + 1 - m4) 0) = a * 2 ^ s) := vv (by rw [val_append_zeros, val_toL])
 have HLU : Hid ((toL (a * 2 ^ s) ++ List.replicate (n + 1 - m4) 0).length = n + 1) := vv (by rw [List.length_append, HL4.out, List.length_replicate]; omega)
 clear hh hb5 HR4v HA3 HO4 HO3 H1 HCP HLen HFit
 generalize toL (a * 2 ^ s) ++ List.replicate (n + 1 - m4) 0 = U0 at *
 have hmk2 := mk1 (n - m2) (by omega)
 have ec : ((n - m2 : Nat) : Int) = (n : Int) - (m2 : Int) := by omega
 rw [ec] at hmk2
 clear ec
 have HO6 := vv (HO5.out.alloc (.cells (madeCells #[.int .u32 0] (n - m2 + 1)) 34))
 have HQ6 := vv (Own.made w5 (n - m2 + 1) 34)
 have hal6 : Below w5.heap.size w5 (w5.alloc (.cells (madeCells #[.int .u32 0] (n - m2 + 1)) 34)) := (Below.refl _ _).alloc (Nat.le_refl _) _
 have HR6 := vv (HR5.out.below hal6 rfl)
 have HBel6 := vn HBel5 hal6
 have HS6 : Hid ((w5.alloc (.cells (madeCells #[.int .u32 0] (n - m2 + 1)) 34)).heap.size = w5.heap.size + 1) := vv (World.size_alloc _ _)
 clear hal6
 have HST : Hid (val (U0.drop (n - m2 + 1)) < b * 2 ^ s) := vv (div_start HO5.out.2 HVU.out (by have := lt_words a; rw [HWA.out.1] at this; exact this) n3 hmn (by omega) HN2.out)
 have HNE : Hid (∀ a, A2 = some a -> a.block ≠ w2.heap.size) := vv fun a e => by have := HBLK.out a e; omega
 have HNQ : Hid (∀ a, A2 = some a -> a.block ≠ w5.heap.size) := vv fun a e => by have := HBLK.out a e; have := HSZ5.out; omega
 have hgq : w2.heap.size ≠ w5.heap.size := by have := HSZ5.out; omega
 have HGQ := vv hgq
 have HB2S : Hid (w.heap.size <= w2.heap.size) := vv HBel2.out.size
 clear hgq
 go_wp2
 go_loopw [13] (fun z wx => ∃ (k : Nat) (i : Int) (U Q : List Nat), z = .int .i64 i /\ i + 1 = k /\ k <= n - m2 + 1 /\ U.length = n + 1 /\ Q.length = n - m2 + 1 /\ Own wx w2.heap.size 34 U /\ Own wx w5.heap.size 34 Q /\
   Rd wx A2 m2 c2 (toL (b * 2 ^ s)) /\ val (U.drop k) < b * 2 ^ s /\ a * 2 ^ s = val U + b * 2 ^ s * (4294967296 ^ k * val (Q.drop k)) /\ Below w.heap.size w wx) (fun z _ => (intOf z + 1).toNat)
 case atStart =>
  refine ⟨n - m2 + 1, _, U0, List.replicate (n - m2 + 1) 0, rfl, by omega, Nat.le_refl _, HLU.out, by simp, HO6.out, HQ6.out, HR6.out, HST.out, ?_, HBel6.out⟩
  rw [HVU.out, List.drop_of_length_le (by rw [List.length_replicate]; exact Nat.le_refl _), val_nil, Nat.mul_zero, Nat.mul_zero, Nat.add_zero]
 case round =>
  clear hmk2
  obtain ⟨k, i, U, Q, rfl, hi, hk, hUl, hQl, hOU, hOQ, hRv, hlt, hinv, hbel⟩ := hrel
  have HOU := vv hOU
  have HOQ := vv hOQ
  have HRV := vv hRv
  have HLT := vv hlt
  have HINV := vv hinv
  have HUL := vv hUl
  have HQL := vv hQl
  have HBEL := vv hbel
  clear hOU hRv hlt hinv hUl hQl hbel
  rcases Nat.eq_zero_or_pos k with rfl | hpos
  ·obtain rfl : i = -1 := by omega
   clear hi
   have hin := HINV.out
   rw [Nat.pow_zero, Nat.one_mul, List.drop_zero] at hin
   have hul := HLT.out
   rw [List.drop_zero] at hul
   obtain ⟨hq, hr⟩ := div_end hb0 hin hul
   have hum : val (U.take m2) = val U := by
    have h1 := lt_words (b * 2 ^ s)
    rw [HN1.out] at h1
    rw [<- val_mod_pow HOU.out.2, Nat.mod_eq_of_lt (Nat.lt_trans hul h1)]
   have HQE := vv hq
   have HRE := vv hr
   have HUM := vv hum
   have HSQ := vv (hOQ.rd (n := n - m2 + 1) (c := n - m2 + 1) HQL.out.symm (Nat.le_refl _) (by omega)).drew
   have HSU := vv ((HOU.out.rd (n := n + 1) (c := n + 1) HUL.out.symm (Nat.le_refl _) (by omega)).take (k := m2) (by omega)).drew
   clear hin hul hq hr hum hOQ
   have k1 : (m2 : Int) <= (n : Int) + 1 := by omega
   have k2 : (0 : Int) <= (m2 : Int) := by omega
   go_wp2_with fail
   go_region_held3 (fun _ => True) (trivial) (first
    | (go_at_call 294; (with_reducible refine (trim _ _ _ _ _ HSQ.out).mono ?_); rintro e w' ⟨mq, rfl, rfl, hRq⟩)
    | (go_at_call 294; (with_reducible refine (trim _ _ _ _ _ HSU.out).mono ?_); rintro e w' ⟨mr, rfl, rfl, hRr⟩)
    | (go_at_call 322; (with_reducible refine (down _ _ _ _ s _ rfl _ hRr (by omega)).mono ?_); rintro e w7 ⟨A7, n7, c7, rfl, hR7, hF7, hB7⟩))
   go_wp2
   go_ret2
   rw [HQE.out] at hRq
   rw [HUM.out, val_toL, HRE.out] at hR7
   refine ⟨_, mq, _, A7, n7, c7, rfl, hRq.below hB7 rfl, hR7, Fr.at_ ?_, hF7.mono ?_, HBEL.out.drew.trans (hB7.mono ?_)⟩
   ·exact Nat.le_trans HB2S.out (Nat.le_of_succ_le HSZ5.out)
   ·exact HBEL.out.size
   ·exact HBEL.out.size
  ·obtain ⟨j, rfl⟩ : ∃ j, k = j + 1 := ⟨k - 1, by omega⟩
   obtain rfl : i = (j : Int) := by omega
   clear hi
   have hqc := hOQ.cell (i := j) (by rw [HQL.out]; omega)
   have hqf := hOQ.frozen j
   clear hOQ
   have WIN := vv (window (n := m2) HOU.out.2 (by
    have := lt_words (b * 2 ^ s)
    rw [HN1.out] at this
    exact Nat.le_of_lt this) HLT.out)
   have HFG := vv (figure w2.heap.size j m2 (n + 1 - j) U A2 c2 (toL (b * 2 ^ s)) wr hm HRV.out HN2.out HOU.out (by rw [HUL.out]; omega) (by omega) (by rw [HUL.out]; omega) HNE.out (by rw [val_toL]; exact WIN.out.2))
   go_wp2_with fail
   rw [show j + m2 + 1 - j = m2 + 1 by omega]
   refine HFG.out.mono ?_
   rintro e w6 ⟨rfl, ⟨V, hOV, hVl, hVs, hVr⟩, hG⟩
   rw [val_toL] at hVr
   have hqlt : val ((U.drop j).take (m2 + 1)) / val (toL (b * 2 ^ s)) < 4294967296 := by
    rw [val_toL]
    exact Nat.div_lt_of_lt_mul (by rw [Nat.mul_comm]; exact WIN.out.2)
   have STP := vv (div_step HOU.out.2 hOV.2 hVl (by rw [HUL.out]; omega) (fun p hp => hVs p hp) WIN.out.1 hVr)
   have HOV := vv hOV
   have HVL := vv (hVl.trans HUL.out)
   have hqc6 : w6.cell? ⟨w5.heap.size, j, none⟩ = some (.int .u32 ((nth Q j : Nat) : Int)) := (only_cell hG (p := ⟨w5.heap.size, j, none⟩) HOQ.out.lt (fun e => HGQ.out e.symm)).trans hqc
   have HOQ6 : Hid (Own w6 w5.heap.size 34 Q) := vv ⟨HOQ.out.1.of_block (hG.block _ HOQ.out.lt (fun e => HGQ.out (by injection e with e; exact e.symm))), HOQ.out.2⟩
   have hqf6 := HOQ6.out.frozen j
   have HRV6 := vv (HRV.out.only hG HNE.out)
   have HBEL6 := vv (only_below HBEL.out hG HBEL.out.size HB2S.out)
   have HQLT := vv hqlt
   have INV := vv (div_inv (Q := Q) (by rw [HQL.out]; omega) HINV.out STP.out.1)
   have HVP : Hid (0 < b * 2 ^ s) := vv (Nat.mul_pos hb0 (Nat.two_pow_pos _))
   have HVT : Hid (val ((U.drop j).take (m2 + 1)) / val (toL (b * 2 ^ s)) = val ((U.drop j).take (m2 + 1)) / (b * 2 ^ s)) := vv (by rw [val_toL])
   clear hVr hqlt hOV hVl hVs hG hqc hqf HFG
   generalize val ((U.drop j).take (m2 + 1)) / val (toL (b * 2 ^ s)) = x at *
   go_wp2
   go_roundw
   case rel =>
    refine ⟨j, _, V, Q.set j x, rfl, by omega, by omega, HVL.out, by rw [List.length_set]; exact HQL.out, HOV.out.setOther HGQ.out _, HOQ6.out.set (by rw [HQL.out]; omega) HQLT.out rfl, ?_, ?_, ?_, HBEL6.out.setCell (show w.heap.size <= w5.heap.size from Nat.le_trans HBel2.out.size (Nat.le_of_succ_le HSZ5.out)) _⟩
    ·exact HRV6.out.only (g := w5.heap.size) (only_setCell (World.grownBy.refl _ _) (.inl rfl) _) HNQ.out
    ·rw [STP.out.2]; exact Nat.mod_lt _ HVP.out
    ·rw [HVT.out]; exact INV.out
   case measure => simp [intOf]
end Go.Proofs.YtddaldghlinokaaGreatDoor.A
