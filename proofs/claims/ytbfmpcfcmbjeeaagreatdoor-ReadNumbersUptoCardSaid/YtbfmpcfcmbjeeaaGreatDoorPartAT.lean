/- Lemmas for ReadNumbers. -/
import Derived.Test.YtbfmpcfcmbjeeaaGreatDoorPartAH
import Derived.Test.YtbfmpcfcmbjeeaaGreatDoorPartAS
import Derived.Test.YtbfmpcfcmbjeeaaGreatDoorPartAJ
import Derived.Test.YtbfmpcfcmbjeeaaGreatDoorPartAD
import Derived.Test.YtbfmpcfcmbjeeaaGreatDoorPartAL
import Derived.Test.YtbfmpcfcmbjeeaaGreatDoorPartAK
import Derived.Test.YtbfmpcfcmbjeeaaGreatDoorPartAP
import Derived.Test.YtbfmpcfcmbjeeaaGreatDoorPartAB
set_option linter.all false
namespace Go.Proofs.YtbfmpcfcmbjeeaaGreatDoor.A
open Go Go.RowKit
set_option maxRecDepth 100000 in
set_option maxHeartbeats 2000000 in
theorem SetBytes (g o : Nat) (v : Int) (A : Option Addr) (m c N : Nat) (w : World) (h : IntAt w g o v) (hb : Bd w A m c N) (hm : m <= 4294967296) :
  Calls Tryz.prog 172 #[.pointer (some ⟨g, o, none⟩), .slice A m c] w (SetPost g o (N : Int) w) := by
 obtain ⟨L, hL⟩ := yx ((m + 3) / 4)
 have hLb : L <= 1099511627776 := by omega
 have hLi : (L : Int) <= 1099511627776 := by omega
 have hLq : ((m : Int) + 3) / 4 = (L : Int) := by omega
 have hmi : (m : Int) <= 4294967296 := by omega
 have hmk := mk L hLb
 have HI := vv h
 have HBd := vv hb
 have HL := vv hL
 have H1 : Hid (Own (w.alloc (.cells (madeCells #[.int .u32 0] L) 34)) w.heap.size 34 (List.replicate L 0)) := vv (Own.made w L 34)
 have H3 : Hid (Below w.heap.size w (w.alloc (.cells (madeCells #[.int .u32 0] L) 34))) := vv ((Below.refl _ w).alloc (Nat.le_refl _) _)
 clear h hb hL
 go_enter Tryz.func172, Tryz.ntmps172
 go_wp2
 clear hLq
 go_loopw [16] (fun t wr => ∃ (i : Nat) (W : List Nat), t = .int .i64 i /\ i <= m /\ Own wr w.heap.size 34 W /\ W.length = L /\ val W = hi N (m - i) /\ Below w.heap.size w wr) (fun t _ => m - (intOf t).toNat)
 case atStart => exact ⟨0, List.replicate L 0, rfl, Nat.zero_le _, H1.out, List.length_replicate, by rw [val_replicate, Nat.sub_zero, hi_top HBd.out.lt], H3.out⟩
 case round =>
  obtain ⟨i, W, rfl, hil, hOwn, hlW, hvW, hB⟩ := hrel
  have HOwn := vv hOwn
  have HlW := vv hlW
  have HB := vv hB
  by_cases him : i < m
  ·obtain ⟨k, hk⟩ := yx (m - 1 - i)
   have hv1 : val W = hi N (k + 1) := by rw [hvW]; congr 1; omega
   have hki : (m : Int) - 1 - (i : Int) = (k : Int) := by omega
   obtain ⟨b, off, e, hbl, hcs⟩ := HBd.out.cell (by omega)
   subst e
   have hbc := (hB.cell (p := ⟨b, off + i, none⟩) hbl).trans (hcs i him)
   rw [<- hk] at hbc
   obtain ⟨q, hq⟩ := yx (k / 4)
   have hqL : q < L := by have := HL.out; omega
   have hqW : q < W.length := by omega
   have hq4 : (k : Int) / 4 = (q : Int) := by omega
   have hki2 : (k : Int) <= 4294967296 := by omega
   have hqLi : (q : Int) < (L : Int) := by omega
   obtain ⟨r, hr⟩ := yx (k % 4)
   have hr4 : (k : Int).tmod 4 = (r : Int) := by rw [Int.tmod_eq_emod_of_nonneg (by omega)]; omega
   have hwq : IntKind.i64.wrap (q : Int) = (q : Int) := by rw [IntKind.wrap_i64]; omega
   have hq0 : (0 : Int) <= (q : Int) := by omega
   obtain ⟨s1, s2, s3, s4⟩ := byte_step hOwn.2 hqW (show k = 4 * q + r by omega) (by omega) hv1
   have hwc := hOwn.cell hqW
   have hwf := hOwn.frozen q
   have hwl := hOwn.lt
   have HS := vv (hOwn.set (x := nth W q + bt N k * 256 ^ r) hqW s2 rfl)
   have hcl := bt_lt N k
   obtain ⟨C, hC⟩ := yx (bt N k)
   obtain ⟨x, hx⟩ := yx (nth W q)
   rw [<- hC, <- hx] at s1 s2 s4 HS
   rw [<- hC] at s3 hcl hbc
   rw [<- hx] at hwc
   have hwC : IntKind.u32.wrap (C : Int) = (C : Int) := by rw [IntKind.wrap_u32]; omega
   obtain ⟨D, hD⟩ := yx (C * 256 ^ r)
   rw [<- hD] at s1 s2 s3 s4 HS
   obtain ⟨s, hs⟩ := yx (8 * r)
   have hr8 : IntKind.i64.wrap (8 * (r : Int)) = (s : Int) := by rw [IntKind.wrap_i64]; omega
   have hs0 : (0 : Int) <= (s : Int) := by omega
   have hs32 : (s : Int) <= 32 := by omega
   have hsh : IntKind.u32.wrap ((C : Int) * 2 ^ s) = (D : Int) := by
    have e : (C : Int) * 2 ^ s = (D : Int) := by
     have e2 : (2 : Int) ^ s = ((256 ^ r : Nat) : Int) := by rw [hs, Int.natCast_pow, Int.pow_mul]; rfl
     rw [e2, hD, Int.natCast_mul]
    rw [e, IntKind.wrap_u32]; omega
   have HHi : Hid (hi N k = hi N (m - (i + 1))) := vv (by rw [hk]; congr 1; omega)
   have HS4 := vv s4
   clear hbl hcs hB hOwn hv1 hvW hlW hr hq hk hC hx hD hs s2 s3 s4
   go_wp2
   refine wp_region_sch (fun w' => w'.cell? ⟨w.heap.size, q, none⟩ = some (.int .u32 (x : Int))) 13
    (.still 0 (.still 1 (.still 2 (.still 3 (.still 4 (.still 5 (.still 6 (.still 7 (.still 8 (.still 9 (.still 10 (.still 11 (.still 12 .done))))))))))))) (by kernel_rfl) (by kernel_rfl) (fun _ _ d _ _ h => by cases d <;> exact h) hwc (fun hS0 => ?_)
   iterate 13
    refine sch_still (v := ?_) rfl (by rfl) ?_ ?_
    rotate_left
    ·intro w hSw; go_simp; with_reducible rfl
    simp only [Act.put, List.setIfInBounds_toArray, List.set_cons_zero, List.set_cons_succ]
   refine sch_done ?_
   go_wp2
   go_roundw
   case rel =>
    exact ⟨i + 1, W.set q (x + D), by go_num, by omega, HS.out, by rw [List.length_set]; exact HlW.out, HS4.out.trans HHi.out, (HB.out.drew).setCell (Nat.le_refl _) _⟩
   case measure => simp [intOf]; omega
  ·obtain rfl : i = m := by omega
   rw [Nat.sub_self, hi_zero] at hvW
   have HvW := vv hvW
   have HI2 := vv (HI.out.below (hB.mono (Nat.le_refl _)))
   have hil2 : (i : Int) <= (i : Int) := Int.le_refl _
   clear hOwn hvW hlW hB him hil hil2
   go_wp2_with fail
   refine (trim (some ⟨w.heap.size, 0, none⟩) L L W wr (HOwn.out.rd HlW.out.symm (Nat.le_refl _) hLb)).mono ?_
   rintro e w' ⟨m', rfl, rfl, hR⟩
   rw [HvW.out] at hR
   have HR := vv hR
   have HSw := vv (SetWords g o v _ _ _ (toL N) wr HI2.out HR.out)
   rw [val_toL] at HSw
   clear hR
   go_wp2_with fail
   refine HSw.out.mono ?_
   rintro e w3 ⟨rfl, hI, hF⟩
   have HI3 := vv hI
   have HF3 := vv (Fm.trans (Fm.of_below HB.out HI.out.lt) hF)
   clear hI hF
   go_wp2
   go_ret
   exact ⟨rfl, HI3.out, HF3.out⟩
theorem inf8 : (Tryz.prog.info? 5).map (fun i => (i.zero, i.size, i.bytes)) = some (some (.int .u8 0), 1, 1) := by kernel_rfl
theorem mk8 (n : Nat) (h : n <= 1099511627776) (w : World) : (Instr.makeSlice 94 (.int .i64 (n : Int)) (.int .i64 (n : Int))).run Tryz.prog w = .ok (.slice (some ⟨w.heap.size, 0, none⟩) n n) (w.alloc (.cells (madeCells #[.int .u8 0] n) 5)) :=
 run_make_row' (P := Tryz.prog) 94 5 (.int .u8 0) 1 Tryz.underlying94 inf8 rfl .i64 .i64 n (by omega) (by omega) w
theorem lt_bytes (N : Nat) : N < 256 ^ ((bl N + 7) / 8) := by
 have h : (256 : Nat) ^ ((bl N + 7) / 8) = 2 ^ (8 * ((bl N + 7) / 8)) := by rw [Nat.pow_mul]
 rw [h]
 exact Nat.lt_of_lt_of_le (lt_bl N) (Nat.pow_le_pow_right (by decide) (by omega))
theorem bl_words (N : Nat) : bl N <= 32 * words N := bl_le (by have h := lt_words N; rwa [show (4294967296 : Nat) ^ words N = 2 ^ (32 * words N) by rw [Nat.pow_mul]] at h)
set_option maxRecDepth 100000 in
set_option maxHeartbeats 2000000 in
theorem Bytes (g o : Nat) (u : Int) (w : World) (h : IntAt w g o u) (sN : bl u.natAbs <= 4294967296) :
  Calls Tryz.prog 200 #[.pointer (some ⟨g, o, none⟩)] w fun e w' => ∃ A m, e = .returned (.slice A m m) /\ m = (bl u.natAbs + 7) / 8 /\ Bd w' A m m u.natAbs /\ Below w.heap.size w w' := by
 have HBl := vv fun w' (h : IntAt w' g o u) => BitLen g o u w' h
 obtain ⟨N, hN⟩ := yx (u.natAbs)
 have hlx := h.lt
 obtain ⟨A, n, c, h0, h1, hr, hz⟩ := h.ex
 rw [<- hN] at HBl sN hr ⊢
 obtain ⟨m, hm⟩ := yx ((bl N + 7) / 8)
 have hwn : bl N <= 32 * n := by have := bl_words N; rwa [hr.words] at this
 have hlt := lt_bytes N
 rw [<- hm] at hlt ⊢
 have hmb : m <= 1099511627776 := by omega
 have hmk := mk8 m hmb
 have hmq : ((bl N : Int) + 7) / 8 = (m : Int) := by omega
 obtain ⟨b0, hb0⟩ := yx (bl N)
 rw [<- hb0] at HBl hmq sN
 have hbi : (b0 : Int) <= 4294967296 := by omega
 have hmi : (m : Int) <= 1000000000 := by omega
 have hm4 : m <= 4 * n := by omega
 have HI := vv h
 have HR := vv hr
 have HZ := vv hz
 have HLT := vv hlt
 have HM4 := vv hm4
 have HNw := vv hr.sm
 have H1 : Hid (Own8 (w.alloc (.cells (madeCells #[.int .u8 0] m) 5)) w.heap.size 5 (List.replicate m 0)) := vv (Own8.made w m 5)
 have H3 : Hid (Below w.heap.size w (w.alloc (.cells (madeCells #[.int .u8 0] m) 5))) := vv ((Below.refl _ w).alloc (Nat.le_refl _) _)
 clear h hr hz hm hwn hlt hm4 hN hb0
 go_enter Tryz.func200, Tryz.ntmps200
 go_wp2_with fail
 refine (HBl.out _ HI.out).mono ?_
 rintro e w' ⟨rfl, rfl⟩
 go_wp2
 clear hmq
 go_loopw [13] (fun t wr => ∃ (i : Nat) (U : List Nat), t = .int .i64 i /\ i <= m /\ Own8 wr w.heap.size 5 U /\ U.length = m /\ (∀ j, j < i -> nth U j = bt N (m - 1 - j)) /\ Below w.heap.size w wr) (fun t _ => m - (intOf t).toNat)
 case atStart => exact ⟨0, List.replicate m 0, rfl, Nat.zero_le _, H1.out, List.length_replicate, fun j hj => absurd hj (by omega), H3.out⟩
 case round =>
  obtain ⟨i, U, rfl, hil, hOwn, hlU, hvU, hB⟩ := hrel
  have HOwn := vv hOwn
  have HlU := vv hlU
  have HvU := vv hvU
  have HB := vv hB
  by_cases him : i < m
  ·obtain ⟨k, hk⟩ := yx (m - 1 - i)
   have hki : (m : Int) - 1 - (i : Int) = (k : Int) := by omega
   obtain ⟨q, hq⟩ := yx (k / 4)
   have hqn : q < n := by have := HM4.out; omega
   obtain ⟨b, off, e, hbl, hcs⟩ := HR.out.cell (by omega)
   subst e
   have hwc := (hB.cell (p := ⟨b, off + q, none⟩) hbl).trans (hcs q hqn)
   have j1 := (hB.cell (p := ⟨g, o + 1, none⟩) hlx).trans h1
   have hlx2 : g < wr.heap.size := Nat.lt_of_lt_of_le hlx hB.size
   have hq4 : (k : Int) / 4 = (q : Int) := by omega
   obtain ⟨r, hr⟩ := yx (k % 4)
   have hr4 : (k : Int) % 4 = (r : Int) := by omega
   have hr4' : (k : Int).tmod 4 = (r : Int) := by rw [Int.tmod_eq_emod_of_nonneg (by omega)]; exact hr4
   have hri : (r : Int) <= 3 := by omega
   have hqni : (q : Int) < (n : Int) := by omega
   have hxl : nth (toL N) q < 4294967296 := HR.out.nth_lt q
   have hwb := word_byte (Lim_toL N) q r (by omega)
   rw [val_toL, show 4 * q + r = k by omega] at hwb
   obtain ⟨x, hx⟩ := yx (nth (toL N) q)
   obtain ⟨C, hC⟩ := yx (bt N k)
   rw [<- hx] at hwc hxl hwb
   rw [<- hC] at hwb
   obtain ⟨s, hs⟩ := yx (8 * r)
   have hr8 : 8 * (r : Int) = (s : Int) := by omega
   have hs24 : (s : Int) <= 24 := by omega
   have hsh : (x : Int) / 2 ^ s % 256 = (C : Int) := by
    have e2 : (2 : Int) ^ s = ((256 ^ r : Nat) : Int) := by rw [hs, Int.natCast_pow, Int.pow_mul]; rfl
    rw [e2, <- hwb, Int.natCast_emod, Int.natCast_ediv]; rfl
   have hoc := hOwn.cell (i := i) (by omega)
   have hof := hOwn.frozen i
   have hol := hOwn.lt
   have HS := vv (hOwn.set (i := i) (x := C) (by omega) rfl)
   have HNx : Hid (∀ j, j < i + 1 -> nth (U.set i C) j = bt N (m - 1 - j)) := vv (fun j hj => by
    rw [nth_set U i C j (by omega)]
    split
    ·rename_i e; rw [e, hC, hk]
    ·exact HvU.out j (by omega))
   have hxi : (x : Int) <= 4294967295 := by omega
   have hki9 : (k : Int) <= 1000000000 := by omega
   have him2 : (i : Int) < (m : Int) := by omega
   clear hbl hcs hB hOwn hvU hlU hr hq hk hC hx hs hwb hxl hil him
   go_wp2
   go_roundw
   case rel => exact ⟨i + 1, U.set i C, by go_num, by omega, HS.out, by rw [List.length_set]; exact HlU.out, HNx.out, (HB.out).setCell (Nat.le_refl _) _⟩
   case measure => simp [intOf]; omega
  ·obtain rfl : i = m := by omega
   clear hOwn hlU hvU hB him hil
   go_wp2
   go_ret
   exact ⟨_, _, rfl, rfl, HOwn.out.bd HlU.out.symm (Nat.le_refl _) hmb HLT.out HvU.out, HB.out⟩
end Go.Proofs.YtbfmpcfcmbjeeaaGreatDoor.A
namespace Go.Proofs.YtbfmpcfcmbjeeaaGreatDoor.B
open Go Go.RowKit
theorem Mul (g o gx ox gy oy : Nat) (v u1 u2 : Int) (w : World) (h : IntAt w g o v) (hx : IntAt w gx ox u1) (hy : IntAt w gy oy u2) (hn : Sz u1.natAbs) (hm : Sz u2.natAbs) :
  Calls Tryz.prog 154 #[.pointer (some ⟨g, o, none⟩), .pointer (some ⟨gx, ox, none⟩), .pointer (some ⟨gy, oy, none⟩)] w (SetPost g o (u1 * u2) w) := by
 have HI := vv h
 have hlx := hx.lt
 have hly := hy.lt
 obtain ⟨A, n, c, h0, h1, hr, hz⟩ := hx.ex
 obtain ⟨B, m, d, k0, k1, hs, hy⟩ := hy.ex
 have HM := vv (mulWords A B n m c d _ _ _ hr.drew hs.drew (by have := hr.sz hn; have := hs.sz hm; omega))
 clear hr hz hs hy h hx hn hm
 go_enter Tryz.func154, Tryz.ntmps154
 go_wp2_with fail
 refine wp_region_sch (fun w' => w'.cell? ⟨gx, ox, none⟩ = some (.bool (decide (u1 < 0))) /\ w'.cell? ⟨gx, ox + 1, none⟩ = some (.slice A n c) /\ w'.cell? ⟨gy, oy, none⟩ = some (.bool (decide (u2 < 0))) /\ w'.cell? ⟨gy, oy + 1, none⟩ = some (.slice B m d)) 19
  (.still 0 (.still 1 (.still 2 (.still 3 (.still 4 (.still 5 (.still 6 (.still 7 (.still 8 (.still 9 (.still 10 (.still 11 (.still 12 (.still 13 (.still 14 (.still 15 (.still 16 (.still 17 (.one 18 .done))))))))))))))))))) (by kernel_rfl) (by kernel_rfl) (fun _ _ d _ _ h => by cases d <;> exact h) ⟨h0, h1, k0, k1⟩ (fun hS0 => ?_)
 iterate 18
  refine sch_still (v := ?_) rfl (by rfl) ?_ ?_
  rotate_left
  ·intro w hSw; go_simp; with_reducible rfl
  simp only [Act.put, List.setIfInBounds_toArray, List.set_cons_zero, List.set_cons_succ]
 refine sch_one rfl (by rfl) (fun K hK => ?_)
 go_simp
 refine HM.out.mono ?_
 rintro e w1 ⟨A', m', c', rfl, hR, hFr, hB⟩
 go_wp2_with fail
 refine hK.out _ _ ⟨(hB.cell (p := ⟨gx, ox, none⟩) hlx).trans h0, (hB.cell (p := ⟨gx, ox + 1, none⟩) hlx).trans h1, (hB.cell (p := ⟨gy, oy, none⟩) hly).trans k0, (hB.cell (p := ⟨gy, oy + 1, none⟩) hly).trans k1⟩ (fun hHeld => ?_)
 clear hK
 refine sch_done ?_
 go_wp2_with fail
 refine (set_of g o v (u1 * u2) _ A' m' c' (u1.natAbs * u2.natAbs) _ (HI.out.drew.below hB) (by rw [val_toL, val_toL] at hR; exact hR) (fun a e => (hFr a e).2) (Int.natAbs_mul u1 u2) ?_).mono ?_
 ·rw [sg_mul]; rfl
 rintro e w2 ⟨rfl, hI, hF⟩
 go_wp2
 go_ret
 exact ⟨rfl, hI, ((Fm.of_below hB HI.out.lt).trans hF).undrew⟩
theorem added_same (g o : Nat) (v u : Int) (b : Bool) (N M : Nat) (A B : Option Addr) (n m c d : Nat) (w : World) (h : IntAt w g o v) (ha : Rd w A n c (toL N)) (hb : Rd w B m d (toL M)) (hn : Sz N) (hm : Sz M) (hu : u = sg b (N + M)) :
  Calls Tryz.prog 196 #[.pointer (some ⟨g, o, none⟩), .slice A n c, .bool b, .slice B m d, .bool b] w (SetPost g o u w) := by
 have HI := vv h
 have HM := vv (addWords A B n m c d _ _ w ha hb (by have := ha.sz hn; omega) (by have := hb.sz hm; omega))
 have HU := vv hu
 clear ha hb hn hm h hu
 have hbb : (b == b) = true := by cases b <;> rfl
 go_enter Tryz.func196, Tryz.ntmps196
 go_wp2_with fail
 refine HM.out.mono ?_
 rintro e w1 ⟨A', m', c', rfl, hR, hFr, hB⟩
 rw [val_toL, val_toL] at hR
 have HR := vv hR
 clear hR
 go_wp2_with fail
 refine (set_of g o v u b A' m' c' (N + M) _ (HI.out.below hB) HR.out (fun a e => (hFr a e).2) (by rw [HU.out, sg_abs]) (by rw [HU.out, sg_neg'])).mono ?_
 rintro e w2 ⟨rfl, hI, hF⟩
 go_wp2
 go_ret
 exact ⟨rfl, hI, (Fm.of_below hB HI.out.lt).trans hF⟩
theorem added_ge (g o : Nat) (v u : Int) (b : Bool) (N M : Nat) (t : Int) (A B : Option Addr) (n m c d : Nat) (w : World) (h : IntAt w g o v) (ha : Rd w A n c (toL N)) (hb : Rd w B m d (toL M)) (ht : cmpI N M = t) (h0 : t = 0 \/ t = 1) (hle : M <= N) (hu : u = sg b (N - M)) :
  Calls Tryz.prog 196 #[.pointer (some ⟨g, o, none⟩), .slice A n c, .bool b, .slice B m d, .bool (!b)] w (SetPost g o u w) := by
 have HI := vv h
 have HC := vv (cmpWords A B n m c d _ _ w ha hb (by rw [val_toL]) (by rw [val_toL]))
 have HA := vv ha
 have HB := vv hb
 have HU := vv hu
 have HL := vv hle
 have HT := vv ht
 have hbb : (b == !b) = false := by cases b <;> rfl
 clear ha hb h hu hle ht
 rcases h0 with rfl | rfl
 all_goals
  go_enter Tryz.func196, Tryz.ntmps196
  go_wp2_with fail
  refine HC.out.mono ?_
  rintro e w1 ⟨rfl, hB⟩
  rw [val_toL, val_toL, HT.out]
  go_wp2_with fail
  refine (subWords A B n m c d _ _ _ (HA.out.below hB rfl) (HB.out.below hB rfl) (by rw [val_toL, val_toL]; exact HL.out) (HB.out.le_of HA.out HL.out)).mono ?_
  rintro e w2 ⟨A', m', c', rfl, hR, hFr, hB2⟩
  rw [val_toL, val_toL] at hR
  have HR := vv hR
  have HB2 := vv (hB.trans (hB2.mono hB.size))
  clear hR hB2
  go_wp2_with fail
  refine (set_of g o v u b A' m' c' (N - M) _ (HI.out.below HB2.out) HR.out (fun a e => (hFr a e).2) (by rw [HU.out, sg_abs]) (by rw [HU.out, sg_neg'])).mono ?_
  rintro e w3 ⟨rfl, hI, hF⟩
  go_wp2
  go_ret
  exact ⟨rfl, hI, (Fm.of_below HB2.out HI.out.lt).trans hF⟩
theorem added_lt (g o : Nat) (v u : Int) (b : Bool) (N M : Nat) (A B : Option Addr) (n m c d : Nat) (w : World) (h : IntAt w g o v) (ha : Rd w A n c (toL N)) (hb : Rd w B m d (toL M)) (ht : cmpI N M = -1) (hle : N <= M) (hu : u = sg (!b) (M - N)) :
  Calls Tryz.prog 196 #[.pointer (some ⟨g, o, none⟩), .slice A n c, .bool b, .slice B m d, .bool (!b)] w (SetPost g o u w) := by
 have HI := vv h
 have HC := vv (cmpWords A B n m c d _ _ w ha hb (by rw [val_toL]) (by rw [val_toL]))
 have HA := vv ha
 have HB := vv hb
 have HU := vv hu
 have HL := vv hle
 have HT := vv ht
 have hbb : (b == !b) = false := by cases b <;> rfl
 clear ha hb h hu hle ht
 go_enter Tryz.func196, Tryz.ntmps196
 go_wp2_with fail
 refine HC.out.mono ?_
 rintro e w1 ⟨rfl, hB⟩
 rw [val_toL, val_toL, HT.out]
 go_wp2_with fail
 refine (subWords B A m n d c _ _ _ (HB.out.below hB rfl) (HA.out.below hB rfl) (by rw [val_toL, val_toL]; exact HL.out) (HA.out.le_of HB.out HL.out)).mono ?_
 rintro e w2 ⟨A', m', c', rfl, hR, hFr, hB2⟩
 rw [val_toL, val_toL] at hR
 have HR := vv hR
 have HB2 := vv (hB.trans (hB2.mono hB.size))
 clear hR hB2
 go_wp2_with fail
 refine (set_of g o v u (!b) A' m' c' (M - N) _ (HI.out.below HB2.out) HR.out (fun a e => (hFr a e).2) (by rw [HU.out, sg_abs]) (by rw [HU.out, sg_neg'])).mono ?_
 rintro e w3 ⟨rfl, hI, hF⟩
 go_wp2
 go_ret
 exact ⟨rfl, hI, (Fm.of_below HB2.out HI.out.lt).trans hF⟩
theorem added (g o : Nat) (v : Int) (a b : Bool) (N M : Nat) (A B : Option Addr) (n m c d : Nat) (w : World) (h : IntAt w g o v) (ha : Rd w A n c (toL N)) (hb : Rd w B m d (toL M)) (hn : Sz N) (hm : Sz M) :
  Calls Tryz.prog 196 #[.pointer (some ⟨g, o, none⟩), .slice A n c, .bool a, .slice B m d, .bool b] w (SetPost g o (sg a N + sg b M) w) := by
 by_cases e : b = a
 ·subst e
  exact added_same g o v _ b N M A B n m c d w h ha hb hn hm (by cases b <;> simp [sg] <;> omega)
 ·obtain rfl : b = !a := by cases a <;> cases b <;> simp_all
  rcases Nat.lt_trichotomy N M with k | k | k
  ·exact added_lt g o v _ a N M A B n m c d w h ha hb (by unfold cmpI; simp [k]) (by omega) (by cases a <;> simp [sg] <;> omega)
  ·exact added_ge g o v _ a N M 0 A B n m c d w h ha hb (by unfold cmpI; simp [k]) (.inl rfl) (by omega) (by cases a <;> simp [sg] <;> omega)
  ·exact added_ge g o v _ a N M 1 A B n m c d w h ha hb (by unfold cmpI; simp [k]; omega) (.inr rfl) (by omega) (by cases a <;> simp [sg] <;> omega)
theorem Add (g o gx ox gy oy : Nat) (v u1 u2 : Int) (w : World) (h : IntAt w g o v) (hx : IntAt w gx ox u1) (hy : IntAt w gy oy u2) (hn : Sz u1.natAbs) (hm : Sz u2.natAbs) :
  Calls Tryz.prog 171 #[.pointer (some ⟨g, o, none⟩), .pointer (some ⟨gx, ox, none⟩), .pointer (some ⟨gy, oy, none⟩)] w (SetPost g o (u1 + u2) w) := by
 obtain ⟨A, n, c, h0, h1, hr, hz⟩ := hx.ex
 obtain ⟨B, m, d, k0, k1, hs, hy⟩ := hy.ex
 have HM := vv (added g o v (decide (u1 < 0)) (decide (u2 < 0)) _ _ A B n m c d w.drew h.drew hr.drew hs.drew hn hm)
 clear hr hz hs hy h hx hn hm
 go_enter Tryz.func171, Tryz.ntmps171
 go_wp2_with fail
 refine wp_region_sch (fun w' => w'.cell? ⟨gx, ox, none⟩ = some (.bool (decide (u1 < 0))) /\ w'.cell? ⟨gx, ox + 1, none⟩ = some (.slice A n c) /\ w'.cell? ⟨gy, oy, none⟩ = some (.bool (decide (u2 < 0))) /\ w'.cell? ⟨gy, oy + 1, none⟩ = some (.slice B m d)) 17
  (.still 0 (.still 1 (.still 2 (.still 3 (.still 4 (.still 5 (.still 6 (.still 7 (.still 8 (.still 9 (.still 10 (.still 11 (.still 12 (.still 13 (.still 14 (.still 15 (.still 16 .done))))))))))))))))) (by kernel_rfl) (by kernel_rfl) (fun _ _ d _ _ h => by cases d <;> exact h) ⟨h0, h1, k0, k1⟩ (fun hS0 => ?_)
 iterate 17
  refine sch_still (v := ?_) rfl (by rfl) ?_ ?_
  rotate_left
  ·intro w hSw; go_simp; with_reducible rfl
  simp only [Act.put, List.setIfInBounds_toArray, List.set_cons_zero, List.set_cons_succ]
 refine sch_done ?_
 go_wp2_with fail
 refine HM.out.mono ?_
 rintro e w1 ⟨rfl, hI, hF⟩
 rw [sg_of, sg_of] at hI
 go_wp2
 go_ret
 exact ⟨rfl, hI, hF.undrew⟩
theorem Sub (g o gx ox gy oy : Nat) (v u1 u2 : Int) (w : World) (h : IntAt w g o v) (hx : IntAt w gx ox u1) (hy : IntAt w gy oy u2) (hn : Sz u1.natAbs) (hm : Sz u2.natAbs) :
  Calls Tryz.prog 205 #[.pointer (some ⟨g, o, none⟩), .pointer (some ⟨gx, ox, none⟩), .pointer (some ⟨gy, oy, none⟩)] w (SetPost g o (u1 - u2) w) := by
 obtain ⟨A, n, c, h0, h1, hr, hz⟩ := hx.ex
 obtain ⟨B, m, d, k0, k1, hs, hy⟩ := hy.ex
 have HM := vv (added g o v (decide (u1 < 0)) (!decide (u2 < 0)) _ _ A B n m c d w.drew h.drew hr.drew hs.drew hn hm)
 clear hr hz hs hy h hx hn hm
 go_enter Tryz.func205, Tryz.ntmps205
 go_wp2_with fail
 refine wp_region_sch (fun w' => w'.cell? ⟨gx, ox, none⟩ = some (.bool (decide (u1 < 0))) /\ w'.cell? ⟨gx, ox + 1, none⟩ = some (.slice A n c) /\ w'.cell? ⟨gy, oy, none⟩ = some (.bool (decide (u2 < 0))) /\ w'.cell? ⟨gy, oy + 1, none⟩ = some (.slice B m d)) 18
  (.still 0 (.still 1 (.still 2 (.still 3 (.still 4 (.still 5 (.still 6 (.still 7 (.still 8 (.still 9 (.still 10 (.still 11 (.still 12 (.still 13 (.still 14 (.still 15 (.still 16 (.still 17 .done)))))))))))))))))) (by kernel_rfl) (by kernel_rfl) (fun _ _ d _ _ h => by cases d <;> exact h) ⟨h0, h1, k0, k1⟩ (fun hS0 => ?_)
 iterate 18
  refine sch_still (v := ?_) rfl (by rfl) ?_ ?_
  rotate_left
  ·intro w hSw; go_simp; with_reducible rfl
  simp only [Act.put, List.setIfInBounds_toArray, List.set_cons_zero, List.set_cons_succ]
 refine sch_done ?_
 go_wp2_with fail
 refine HM.out.mono ?_
 rintro e w1 ⟨rfl, hI, hF⟩
 rw [sg_of, sg_not, <- Int.sub_eq_add_neg] at hI
 go_wp2
 go_ret
 exact ⟨rfl, hI, hF.undrew⟩
theorem Lsh (g o gx ox k : Nat) (v u : Int) (w : World) (h : IntAt w g o v) (hx : IntAt w gx ox u) (hn : Sz u.natAbs) (hk : k < 1000000000000) :
  Calls Tryz.prog 82 #[.pointer (some ⟨g, o, none⟩), .pointer (some ⟨gx, ox, none⟩), .int .u64 (k : Int)] w (SetPost g o (u * 2 ^ k) w) := by
 have HI := vv h
 have hlx := hx.lt
 obtain ⟨A, n, c, h0, h1, hr, hz⟩ := hx.ex
 have HM := vv (up A n c _ k _ rfl _ hr.drew (by have := hr.sz hn; omega))
 have hk2 : IntKind.i64.wrap (k : Int) = (k : Int) := by rw [IntKind.wrap_i64]; omega
 clear hr hz h hx hn
 go_enter Tryz.func82, Tryz.ntmps82
 go_wp2_with fail
 refine wp_region_sch (fun w' => w'.cell? ⟨gx, ox, none⟩ = some (.bool (decide (u < 0))) /\ w'.cell? ⟨gx, ox + 1, none⟩ = some (.slice A n c)) 12
  (.still 0 (.still 1 (.still 2 (.still 3 (.still 4 (.still 5 (.still 6 (.still 7 (.still 8 (.still 9 (.still 10 (.one 11 .done)))))))))))) (by kernel_rfl) (by kernel_rfl) (fun _ _ d _ _ h => by cases d <;> exact h) ⟨h0, h1⟩ (fun hS0 => ?_)
 iterate 11
  refine sch_still (v := ?_) rfl (by rfl) ?_ ?_
  rotate_left
  ·intro w hSw; go_simp; with_reducible rfl
  simp only [Act.put, List.setIfInBounds_toArray, List.set_cons_zero, List.set_cons_succ]
 refine sch_one rfl (by rfl) (fun K hK => ?_)
 go_simp
 refine HM.out.mono ?_
 rintro e w1 ⟨A', m', c', rfl, hR, hFr, hB⟩
 go_wp2_with fail
 refine hK.out _ _ ⟨(hB.cell (p := ⟨gx, ox, none⟩) hlx).trans h0, (hB.cell (p := ⟨gx, ox + 1, none⟩) hlx).trans h1⟩ (fun hHeld => ?_)
 clear hK
 refine sch_done ?_
 go_wp2_with fail
 refine (set_of g o v (u * 2 ^ k) _ A' m' c' (u.natAbs * 2 ^ k) _ (HI.out.drew.below hB) (by rw [val_toL] at hR; exact hR) (fun a e => (hFr a e).2) (by rw [Int.natAbs_mul, Int.natAbs_pow]; rfl) ?_).mono ?_
 ·exact sg_shift u k
 rintro e w2 ⟨rfl, hI, hF⟩
 go_wp2
 go_ret
 exact ⟨rfl, hI, ((Fm.of_below hB HI.out.lt).trans hF).undrew⟩
theorem GCD (g o gx ox gy oy : Nat) (v u1 u2 : Int) (X Y : Value) (w : World) (h : IntAt w g o v) (hx : IntAt w gx ox u1) (hy : IntAt w gy oy u2) (hn : Sz u1.natAbs) (hm : Sz u2.natAbs) (hst : Std w) :
  Calls Tryz.prog 116 #[.pointer (some ⟨g, o, none⟩), X, Y, .pointer (some ⟨gx, ox, none⟩), .pointer (some ⟨gy, oy, none⟩)] w (SetPost g o (Nat.gcd u1.natAbs u2.natAbs : Nat) w) := by
 have HI := vv h
 have hlx := hx.lt
 have hly := hy.lt
 obtain ⟨A, n, c, h0, h1, hr, hz⟩ := hx.ex
 obtain ⟨B, m, d, k0, k1, hs, hy⟩ := hy.ex
 have HM := vv (common A B n m c d _ _ _ hr.drew hs.drew hst.drew (by have := hr.sz hn; omega) (by have := hs.sz hm; omega))
 clear hr hz hs hy h hx hn hm hst
 go_enter Tryz.func116, Tryz.ntmps116
 go_wp2_with fail
 refine wp_region_sch (fun w' => w'.cell? ⟨gx, ox + 1, none⟩ = some (.slice A n c) /\ w'.cell? ⟨gy, oy + 1, none⟩ = some (.slice B m d)) 10
  (.still 0 (.still 1 (.still 2 (.still 3 (.still 4 (.still 5 (.still 6 (.still 7 (.still 8 (.one 9 .done)))))))))) (by kernel_rfl) (by kernel_rfl) (fun _ _ d _ _ h => by cases d <;> exact h) ⟨h1, k1⟩ (fun hS0 => ?_)
 iterate 9
  refine sch_still (v := ?_) rfl (by rfl) ?_ ?_
  rotate_left
  ·intro w hSw; go_simp; with_reducible rfl
  simp only [Act.put, List.setIfInBounds_toArray, List.set_cons_zero, List.set_cons_succ]
 refine sch_one rfl (by rfl) (fun K hK => ?_)
 go_simp
 refine HM.out.mono ?_
 rintro e w1 ⟨A', m', c', rfl, hR, hFr, hB⟩
 go_wp2_with fail
 refine hK.out _ _ ⟨(hB.cell (p := ⟨gx, ox + 1, none⟩) hlx).trans h1, (hB.cell (p := ⟨gy, oy + 1, none⟩) hly).trans k1⟩ (fun hHeld => ?_)
 clear hK
 refine sch_done ?_
 go_wp2_with fail
 refine (set_of g o v (Nat.gcd u1.natAbs u2.natAbs : Nat) _ A' m' c' (Nat.gcd u1.natAbs u2.natAbs) _ (HI.out.drew.below hB) hR (fun a e => (hFr a e).2) rfl (sg_pos (by omega))).mono ?_
 rintro e w2 ⟨rfl, hI, hF⟩
 go_wp2
 go_ret
 exact ⟨rfl, hI, ((Fm.of_below hB HI.out.lt).trans hF).undrew⟩
theorem Uint64 (g o : Nat) (u : Int) (w : World) (h : IntAt w g o u) (hu : u.natAbs < 18446744073709551616) :
  Calls Tryz.prog 134 #[.pointer (some ⟨g, o, none⟩)] w fun e w' => e = .returned (.int .u64 ((u.natAbs : Nat) : Int)) /\ w = w' := by
 obtain ⟨A, n, c, h0, h1, hr, hz⟩ := h.ex
 have HM := vv (toUint A n c _ w hr)
 have HV := vv (two_words hu)
 clear hr hz h
 go_enter Tryz.func134, Tryz.ntmps134
 go_wp2_with fail
 refine HM.out.mono ?_
 rintro e w1 ⟨rfl, rfl⟩
 rw [HV.out]
 go_wp2
 go_ret
 exact ⟨rfl, rfl⟩
theorem NewInt (x : Int) (w : World) (h1 : -9223372036854775808 <= x) (h2 : x <= 9223372036854775807) :
  Calls Tryz.prog 83 #[.int .i64 x] w (NewPost x w) := by
 go_enter Tryz.func83, Tryz.ntmps83
 go_wp2_with fail
 refine (SetInt64 _ _ 0 x _ (IntAt.zero w 78) h1 h2).mono ?_
 rintro e w1 ⟨rfl, hI, hF⟩
 go_wp2
 go_ret
 exact ⟨_, rfl, Nat.le_refl _, hI, hF.below ((Below.refl _ w).alloc (Nat.le_refl _) _) (by simp) (Nat.le_refl _)⟩
theorem Cmp_ff (g o gx ox N M n c m d : Nat) (A B : Option Addr) (w : World) (h0 : w.cell? ⟨g, o, none⟩ = some (.bool false)) (h1 : w.cell? ⟨g, o + 1, none⟩ = some (.slice A n c)) (k0 : w.cell? ⟨gx, ox, none⟩ = some (.bool false)) (k1 : w.cell? ⟨gx, ox + 1, none⟩ = some (.slice B m d))
  (ha : Rd w A n c (toL N)) (hb : Rd w B m d (toL M)) :
  Calls Tryz.prog 115 #[.pointer (some ⟨g, o, none⟩), .pointer (some ⟨gx, ox, none⟩)] w fun e w' => e = .returned (.int .i64 (cmpI N M)) /\ Below w.heap.size w w' := by
 have HC := vv (cmpWords A B n m c d _ _ w.drew.drew (ha.like rfl) (hb.like rfl) (by rw [val_toL]) (by rw [val_toL]))
 clear ha hb
 go_enter Tryz.func115, Tryz.ntmps115
 go_wp2_with fail
 refine wp_region_sch (fun w' => w'.cell? ⟨g, o, none⟩ = some (.bool false) /\ w'.cell? ⟨gx, ox, none⟩ = some (.bool false)) 9
  (.still 0 (.still 1 (.still 2 (.still 3 (.still 4 (.still 5 (.still 6 (.still 7 (.still 8 .done))))))))) (by kernel_rfl) (by kernel_rfl) (fun _ _ d _ _ h => by cases d <;> exact h) ⟨h0, k0⟩ (fun hS0 => ?_)
 iterate 9
  refine sch_still (v := ?_) rfl (by rfl) ?_ ?_
  rotate_left
  ·intro w hSw; go_simp; with_reducible rfl
  simp only [Act.put, List.setIfInBounds_toArray, List.set_cons_zero, List.set_cons_succ]
 refine sch_end rfl ?_
 go_wp2_with fail
 refine wp_region_sch (fun w' => w'.cell? ⟨g, o + 1, none⟩ = some (.slice A n c) /\ w'.cell? ⟨gx, ox + 1, none⟩ = some (.slice B m d)) 8
  (.still 0 (.still 1 (.still 2 (.still 3 (.still 4 (.still 5 (.still 6 (.still 7 .done)))))))) (by kernel_rfl) (by kernel_rfl) (fun _ _ d _ _ h => by cases d <;> exact h) ⟨h1, k1⟩ (fun hS0 => ?_)
 iterate 8
  refine sch_still (v := ?_) rfl (by rfl) ?_ ?_
  rotate_left
  ·intro w hSw; go_simp; with_reducible rfl
  simp only [Act.put, List.setIfInBounds_toArray, List.set_cons_zero, List.set_cons_succ]
 refine sch_done ?_
 go_wp2_with fail
 refine HC.out.mono ?_
 rintro e w1 ⟨rfl, hB⟩
 rw [val_toL, val_toL]
 go_wp2
 go_ret
 exact ⟨rfl, ⟨hB.os, hB.tape, hB.output, hB.size, hB.block⟩⟩
theorem Cmp_tt (g o gx ox N M n c m d : Nat) (A B : Option Addr) (w : World) (h0 : w.cell? ⟨g, o, none⟩ = some (.bool true)) (h1 : w.cell? ⟨g, o + 1, none⟩ = some (.slice A n c)) (k0 : w.cell? ⟨gx, ox, none⟩ = some (.bool true)) (k1 : w.cell? ⟨gx, ox + 1, none⟩ = some (.slice B m d))
  (ha : Rd w A n c (toL N)) (hb : Rd w B m d (toL M)) :
  Calls Tryz.prog 115 #[.pointer (some ⟨g, o, none⟩), .pointer (some ⟨gx, ox, none⟩)] w fun e w' => e = .returned (.int .i64 (-cmpI N M)) /\ Below w.heap.size w w' := by
 have HC := vv (cmpWords A B n m c d _ _ w.drew.drew (ha.like rfl) (hb.like rfl) (by rw [val_toL]) (by rw [val_toL]))
 have HW : IntKind.i64.wrap (-cmpI N M) = -cmpI N M := by have := cmpI_bd N M; rw [IntKind.wrap_i64]; omega
 clear ha hb
 go_enter Tryz.func115, Tryz.ntmps115
 go_wp2_with fail
 refine wp_region_sch (fun w' => w'.cell? ⟨g, o, none⟩ = some (.bool true) /\ w'.cell? ⟨gx, ox, none⟩ = some (.bool true)) 9
  (.still 0 (.still 1 (.still 2 (.still 3 (.still 4 (.still 5 (.still 6 (.still 7 (.still 8 .done))))))))) (by kernel_rfl) (by kernel_rfl) (fun _ _ d _ _ h => by cases d <;> exact h) ⟨h0, k0⟩ (fun hS0 => ?_)
 iterate 9
  refine sch_still (v := ?_) rfl (by rfl) ?_ ?_
  rotate_left
  ·intro w hSw; go_simp; with_reducible rfl
  simp only [Act.put, List.setIfInBounds_toArray, List.set_cons_zero, List.set_cons_succ]
 refine sch_end rfl ?_
 go_wp2_with fail
 refine wp_region_sch (fun w' => w'.cell? ⟨g, o + 1, none⟩ = some (.slice A n c) /\ w'.cell? ⟨gx, ox + 1, none⟩ = some (.slice B m d)) 8
  (.still 0 (.still 1 (.still 2 (.still 3 (.still 4 (.still 5 (.still 6 (.still 7 .done)))))))) (by kernel_rfl) (by kernel_rfl) (fun _ _ d _ _ h => by cases d <;> exact h) ⟨h1, k1⟩ (fun hS0 => ?_)
 iterate 8
  refine sch_still (v := ?_) rfl (by rfl) ?_ ?_
  rotate_left
  ·intro w hSw; go_simp; with_reducible rfl
  simp only [Act.put, List.setIfInBounds_toArray, List.set_cons_zero, List.set_cons_succ]
 refine sch_done ?_
 go_wp2_with fail
 refine HC.out.mono ?_
 rintro e w1 ⟨rfl, hB⟩
 rw [val_toL, val_toL]
 go_wp2
 go_ret
 exact ⟨rfl, ⟨hB.os, hB.tape, hB.output, hB.size, hB.block⟩⟩
theorem Cmp_ne (g o gx ox : Nat) (a : Bool) (w : World) (h0 : w.cell? ⟨g, o, none⟩ = some (.bool a)) (k0 : w.cell? ⟨gx, ox, none⟩ = some (.bool !a)) :
  Calls Tryz.prog 115 #[.pointer (some ⟨g, o, none⟩), .pointer (some ⟨gx, ox, none⟩)] w fun e w' => e = .returned (.int .i64 (if a then -1 else 1)) /\ Below w.heap.size w w' := by
 cases a
 all_goals
  go_enter Tryz.func115, Tryz.ntmps115
  go_wp2_with fail
 ·refine wp_region_sch (fun w' => w'.cell? ⟨g, o, none⟩ = some (.bool false) /\ w'.cell? ⟨gx, ox, none⟩ = some (.bool true)) 9
   (.still 0 (.still 1 (.still 2 (.still 3 (.still 4 (.still 5 (.still 6 (.still 7 (.still 8 .done))))))))) (by kernel_rfl) (by kernel_rfl) (fun _ _ d _ _ h => by cases d <;> exact h) ⟨h0, k0⟩ (fun hS0 => ?_)
  iterate 9
   refine sch_still (v := ?_) rfl (by rfl) ?_ ?_
   rotate_left
   ·intro w hSw; go_simp; with_reducible rfl
   simp only [Act.put, List.setIfInBounds_toArray, List.set_cons_zero, List.set_cons_succ]
  refine sch_end rfl ?_
  go_wp2
  go_ret
  exact ⟨rfl, below_drew (Below.refl _ _)⟩
 ·refine wp_region_sch (fun w' => w'.cell? ⟨g, o, none⟩ = some (.bool true) /\ w'.cell? ⟨gx, ox, none⟩ = some (.bool false)) 9
   (.still 0 (.still 1 (.still 2 (.still 3 (.still 4 (.still 5 (.still 6 (.still 7 (.still 8 .done))))))))) (by kernel_rfl) (by kernel_rfl) (fun _ _ d _ _ h => by cases d <;> exact h) ⟨h0, k0⟩ (fun hS0 => ?_)
  iterate 9
   refine sch_still (v := ?_) rfl (by rfl) ?_ ?_
   rotate_left
   ·intro w hSw; go_simp; with_reducible rfl
   simp only [Act.put, List.setIfInBounds_toArray, List.set_cons_zero, List.set_cons_succ]
  refine sch_end rfl ?_
  go_wp2
  go_ret
  exact ⟨rfl, below_drew (Below.refl _ _)⟩
theorem Cmp (g o gx ox : Nat) (u1 u2 : Int) (w : World) (h : IntAt w g o u1) (hx : IntAt w gx ox u2) :
  Calls Tryz.prog 115 #[.pointer (some ⟨g, o, none⟩), .pointer (some ⟨gx, ox, none⟩)] w fun e w' => e = .returned (.int .i64 (cmpZ u1 u2)) /\ Below w.heap.size w w' := by
 obtain ⟨A, n, c, h0, h1, hr, hz⟩ := h.ex
 obtain ⟨B, m, d, k0, k1, hs, hy⟩ := hx.ex
 by_cases e1 : u1 < 0 <;> by_cases e2 : u2 < 0
 ·rw [decide_eq_true e1] at h0
  rw [decide_eq_true e2] at k0
  rw [cmpZ_tt e1 e2]
  exact Cmp_tt g o gx ox _ _ n c m d A B w h0 h1 k0 k1 hr hs
 ·rw [decide_eq_true e1] at h0
  rw [decide_eq_false e2] at k0
  rw [cmpZ_lt (by omega)]
  exact Cmp_ne g o gx ox true w h0 k0
 ·rw [decide_eq_false e1] at h0
  rw [decide_eq_true e2] at k0
  rw [cmpZ_gt (by omega)]
  exact Cmp_ne g o gx ox false w h0 k0
 ·rw [decide_eq_false e1] at h0
  rw [decide_eq_false e2] at k0
  rw [cmpZ_ff e1 e2]
  exact Cmp_ff g o gx ox _ _ n c m d A B w h0 h1 k0 k1 hr hs
theorem Bit0 (g o : Nat) (u : Int) (w : World) (h : IntAt w g o u) :
  Calls Tryz.prog 170 #[.pointer (some ⟨g, o, none⟩), .int .i64 0] w fun e w' => e = .returned (.int .u64 ((u.natAbs % 2 : Nat) : Int)) /\ w = w' := by
 obtain ⟨A, n, c, h0, h1, hr, hz⟩ := h.ex
 have hsm := hr.sm
 have hw := hr.words
 clear hz h h0
 rcases Nat.eq_zero_or_pos n with rfl | hn
 ·have hu := words_eq_zero.1 hw
  rw [hu]
  clear hw hr
  go_enter Tryz.func170, Tryz.ntmps170
  go_wp2
  go_ret
  exact ⟨rfl, rfl⟩
 ·obtain ⟨b, off, rfl, hb, hc⟩ := hr.cell hn
  have hc0 := hc 0 hn
  rw [Nat.add_zero] at hc0
  have hl := hr.nth_lt 0
  have HB := vv (and_one (nth (toL u.natAbs) 0) hl)
  have HE := vv (nth_zero_mod u.natAbs)
  clear hc hw hr
  go_enter Tryz.func170, Tryz.ntmps170
  go_wp2
  go_ret
  refine ⟨retI ?_, rfl⟩
  rw [HB.out, HE.out, IntKind.wrap_u64]
  omega
def QrPost (g o gr or : Nat) (q r : Int) (w : World) (e : Ending) (w' : World) : Prop :=
 e = .returned (.tuple #[.pointer (some ⟨g, o, none⟩), .pointer (some ⟨gr, or, none⟩)]) /\ IntAt w' g o q /\ IntAt w' gr or r /\ Fs [(gr, or, 2), (g, o, 2)] w w'
theorem QuoRem (g o gx ox gy oy gr or : Nat) (v u1 u2 ur : Int) (w : World) (h : IntAt w g o v) (hx : IntAt w gx ox u1) (hy : IntAt w gy oy u2) (hr : IntAt w gr or ur) (hne : g ≠ gr) (h0 : u2 ≠ 0) (hn : Sz u1.natAbs) :
  Calls Tryz.prog 204 #[.pointer (some ⟨g, o, none⟩), .pointer (some ⟨gx, ox, none⟩), .pointer (some ⟨gy, oy, none⟩), .pointer (some ⟨gr, or, none⟩)] w
   (QrPost g o gr or (sg (decide (u1 < 0) != decide (u2 < 0)) (u1.natAbs / u2.natAbs)) (sg (decide (u1 < 0)) (u1.natAbs % u2.natAbs)) w) := by
 have HI := vv h
 have HR := vv hr
 have hlx := hx.lt
 have hly := hy.lt
 obtain ⟨A, n, c, h0, h1, ha, hz⟩ := hx.ex
 obtain ⟨B, m, d, k0, k1, hb, hy⟩ := hy.ex
 have HM := vv (divWords A B n m c d _ _ w.drew.drew (ha.like rfl) (hb.like rfl) (by omega) (by have := ha.sz hn; omega))
 clear ha hz hb hy h hx hn hr
 go_enter Tryz.func204, Tryz.ntmps204
 go_wp2_with fail
 refine wp_region_sch (fun w' => w'.cell? ⟨gx, ox, none⟩ = some (.bool (decide (u1 < 0))) /\ w'.cell? ⟨gy, oy, none⟩ = some (.bool (decide (u2 < 0)))) 9
  (.still 0 (.still 1 (.still 2 (.still 3 (.still 4 (.still 5 (.still 6 (.still 7 (.still 8 .done))))))))) (by kernel_rfl) (by kernel_rfl) (fun _ _ d _ _ h => by cases d <;> exact h) ⟨h0, k0⟩ (fun hS0 => ?_)
 iterate 9
  refine sch_still (v := ?_) rfl (by rfl) ?_ ?_
  rotate_left
  ·intro w hSw; go_simp; with_reducible rfl
  simp only [Act.put, List.setIfInBounds_toArray, List.set_cons_zero, List.set_cons_succ]
 refine sch_done ?_
 go_wp2_with fail
 refine wp_region_sch (fun w' => w'.cell? ⟨gx, ox + 1, none⟩ = some (.slice A n c) /\ w'.cell? ⟨gy, oy + 1, none⟩ = some (.slice B m d)) 14
  (.still 0 (.still 1 (.still 2 (.still 3 (.still 4 (.still 5 (.still 6 (.still 7 (.one 8 (.still 9 (.still 10 (.still 11 (.still 12 (.still 13 .done)))))))))))))) (by kernel_rfl) (by kernel_rfl) (fun _ _ d _ _ h => by cases d <;> exact h) ⟨h1, k1⟩ (fun hS0 => ?_)
 iterate 8
  refine sch_still (v := ?_) rfl (by rfl) ?_ ?_
  rotate_left
  ·intro w hSw; go_simp; with_reducible rfl
  simp only [Act.put, List.setIfInBounds_toArray, List.set_cons_zero, List.set_cons_succ]
 refine sch_one rfl (by rfl) (fun K hK => ?_)
 go_simp
 refine HM.out.mono ?_
 rintro e w1 ⟨A1, m1, c1, A2, m2, c2, rfl, hR1, hR2, hF1, hF2, hB⟩
 have HB : Hid (Below w.heap.size w w1) := vv ⟨hB.os, hB.tape, hB.output, hB.size, hB.block⟩
 have HR1 := vv hR1
 have HR2 := vv hR2
 clear hR1 hR2 hB
 go_wp2_with fail
 refine hK.out _ _ ⟨(HB.out.cell (p := ⟨gx, ox + 1, none⟩) hlx).trans h1, (HB.out.cell (p := ⟨gy, oy + 1, none⟩) hly).trans k1⟩ (fun hHeld => ?_)
 clear hK
 iterate 5
  refine sch_still (v := ?_) rfl (by rfl) ?_ ?_
  rotate_left
  ·intro w hSw; go_simp; with_reducible rfl
  simp only [Act.put, List.setIfInBounds_toArray, List.set_cons_zero, List.set_cons_succ]
 refine sch_end rfl ?_
 go_wp2_with fail
 refine (set_of gr or ur (sg (decide (u1 < 0)) (u1.natAbs % u2.natAbs)) _ A2 m2 c2 _ _ (HR.out.below HB.out) HR2.out (fun a e => (hF2 a e).2) (sg_abs _ _) (sg_neg' _ _)).mono ?_
 rintro e w2 hP
 have HF := vv (hP.fs (HR.out.below HB.out))
 obtain ⟨rfl, hI2, hF⟩ := hP
 have HI2 := vv hI2
 clear hI2
 go_wp2_with fail
 refine (set_of g o v (sg (decide (u1 < 0) != decide (u2 < 0)) (u1.natAbs / u2.natAbs)) _ A1 m1 c1 _ _ ((HI.out.below HB.out).fs1 HF.out (Ne.symm hne)) (HR1.out.fs (fun a e => (hF1 a e).2) HF.out) (fun a e => (hF1 a e).2) (sg_abs _ _) (sg_neg' _ _)).mono ?_
 rintro e w3 hP
 have HF3 := vv (hP.fs ((HI.out.below HB.out).fs1 HF.out (Ne.symm hne)))
 obtain ⟨rfl, hI3, hF3⟩ := hP
 have HI3 := vv hI3
 clear hI3
 go_wp2
 go_ret2
 exact ⟨rfl, HI3.out, HI2.out.fs1 HF3.out hne, ((Fs.of_below [] HB.out (fun _ hp => by cases hp)).trans HF.out).trans HF3.out⟩
theorem DivMod_up (g o gx ox gy oy gr or : Nat) (v u1 u2 ur : Int) (w : World) (h : IntAt w g o v) (hx : IntAt w gx ox u1) (hy : IntAt w gy oy u2) (hr : IntAt w gr or ur) (hne : g ≠ gr) (h0 : u2 ≠ 0) (hn : Sz u1.natAbs)
  (hlow : ¬ sg (decide (u1 < 0)) (u1.natAbs % u2.natAbs) < 0) :
  Calls Tryz.prog 188 #[.pointer (some ⟨g, o, none⟩), .pointer (some ⟨gx, ox, none⟩), .pointer (some ⟨gy, oy, none⟩), .pointer (some ⟨gr, or, none⟩)] w (QrPost g o gr or (u1 / u2) (u1 % u2) w) := by
 obtain ⟨E1, E2⟩ := div_up h0 hlow
 have HD : Hid (decide (u1 % u2 < 0) = false) := vv (decide_eq_false (by rw [<- E2]; exact hlow))
 have HI := vv h
 have HR := vv hr
 have HX := vv hx
 have HY := vv hy
 obtain ⟨B, m, d, k0, k1, hb, hyz⟩ := hy.ex
 have HC := vv (copied B m d _ w hb)
 have HQ := vv fun w' (hw : Below w.heap.size w w') => QuoRem g o gx ox gy oy gr or v u1 u2 ur w' (h.below hw) (hx.below hw) (hy.below hw) (hr.below hw) hne h0 hn
 rw [E1, E2] at HQ
 clear hb hyz h hx hy hr hlow hn E1 E2
 go_enter Tryz.func188, Tryz.ntmps188
 go_wp2_with fail
 refine HC.out.mono ?_
 rintro e w1 ⟨rfl, hO, hB⟩
 have HB := vv hB
 clear hB hO
 go_wp2_with fail
 refine (HQ.out _ HB.out).mono ?_
 rintro e w2 ⟨rfl, hq, hm, hF⟩
 have HF := vv hF
 have HQ2 := vv hq
 have HM2 := vv hm
 obtain ⟨A, n, c, m0, m1, _, _⟩ := hm.ex
 rw [HD.out] at m0
 clear hF hq hm
 go_wp2
 go_ret2
 exact ⟨rfl, HQ2.out, HM2.out, (Fs.of_below [] HB.out (fun _ hp => by cases hp)).trans HF.out⟩
theorem DivMod_low (g o gx ox gy oy gr or : Nat) (v u1 u2 ur : Int) (w : World) (h : IntAt w g o v) (hx : IntAt w gx ox u1) (hy : IntAt w gy oy u2) (hr : IntAt w gr or ur) (hne : g ≠ gr) (h0 : u2 ≠ 0) (hn : Sz u1.natAbs)
  (hlow : sg (decide (u1 < 0)) (u1.natAbs % u2.natAbs) < 0) :
  Calls Tryz.prog 188 #[.pointer (some ⟨g, o, none⟩), .pointer (some ⟨gx, ox, none⟩), .pointer (some ⟨gy, oy, none⟩), .pointer (some ⟨gr, or, none⟩)] w (QrPost g o gr or (u1 / u2) (u1 % u2) w) := by
 obtain ⟨E1, E2⟩ := div_low h0 hlow
 have hq1 : Sz (sg (decide (u1 < 0) != decide (u2 < 0)) (u1.natAbs / u2.natAbs)).natAbs := by rw [sg_abs]; exact hn.mono (Nat.div_le_self _ _)
 have hm1 : (sg (decide (u1 < 0)) (u1.natAbs % u2.natAbs)).natAbs = u1.natAbs % u2.natAbs := sg_abs _ _
 have hmle : u1.natAbs % u2.natAbs <= u2.natAbs := Nat.le_of_lt (Nat.mod_lt _ (by omega))
 obtain ⟨Q, hQ⟩ := yx (sg (decide (u1 < 0) != decide (u2 < 0)) (u1.natAbs / u2.natAbs))
 obtain ⟨R, hR⟩ := yx (sg (decide (u1 < 0)) (u1.natAbs % u2.natAbs))
 have HI := vv h
 have HR := vv hr
 have HX := vv hx
 have HY := vv hy
 obtain ⟨B, m, d, k0, k1, hb, hyz⟩ := hy.ex
 have hmd := hb.len
 have hmsm := hb.sm
 have HC := vv (copied B m d _ w hb)
 have HQ := vv fun w' (hw : Below w.heap.size w w') => QuoRem g o gx ox gy oy gr or v u1 u2 ur w' (h.below hw) (hx.below hw) (hy.below hw) (hr.below hw) hne h0 hn
 rw [<- hQ] at E1 hq1 HQ
 rw [<- hR] at hlow hm1 HQ
 rw [<- hm1] at E2 hmle
 have HD : Hid (decide (R < 0) = true) := vv (decide_eq_true hlow)
 have HE1 := vv E1
 have HE2 := vv E2
 have HL := vv hmle
 have HLEN := vv hmd
 have HSM := vv hmsm
 have HSZ := vv hq1
 clear hb hyz h hx hy hr hlow hn hq1 hm1 hQ hR hmd hmsm E1 E2 hmle
 by_cases hu : u2 < 0
 ·rw [decide_eq_true hu] at k0
  rw [if_pos hu] at HE1
  go_enter Tryz.func188, Tryz.ntmps188
  go_wp2_with fail
  refine HC.out.mono ?_
  rintro e w1 ⟨rfl, hO, hB⟩
  have HO := vv (hO.rd HLEN.out.symm (Nat.le_refl _) HSM.out)
  have HB := vv hB
  clear hB hO
  go_wp2_with fail
  refine (HQ.out _ HB.out).mono ?_
  rintro e w2 ⟨rfl, hq, hm, hF⟩
  have HF := vv hF
  have HO2 := vv (HO.out.fs (fun a e => by cases e; rfl) hF)
  have HQ2 := vv hq
  have HM2 := vv hm
  obtain ⟨A, n, c, m0, m1, hra, hrz⟩ := hm.ex
  rw [HD.out] at m0
  have hglt := hq.lt
  have hmlt := hm.lt
  clear hF hq hm hra hrz
  go_wp2_with fail
  refine (NewInt 1 _ (by omega) (by omega)).mono ?_
  rintro e w3 ⟨g1, rfl, hg1, hI1, hB3⟩
  have HI1 := vv hI1
  have HB3 := vv hB3
  clear hI1 hB3
  go_wp2_with fail
  refine (Add g o g o g1 0 _ _ _ _ (HQ2.out.below HB3.out) (HQ2.out.below HB3.out) HI1.out HSZ.out (Sz.small (by decide))).mono ?_
  rintro e w4 hP
  have HF4 := vv (hP.fs (HQ2.out.below HB3.out))
  obtain ⟨rfl, hQ4, _⟩ := hP
  have HQ4 := vv hQ4
  have HM4 := vv ((HM2.out.below HB3.out).fs1 HF4.out hne)
  have HO4 := vv ((HO2.out.below HB3.out rfl).fs (fun a e => by cases e; rfl) HF4.out)
  obtain ⟨A4, n4, c4, p0, p1, hra, hrz⟩ := HM4.out.ex
  have HRA := vv hra
  clear hQ4 hra hrz
  go_wp2_with fail
  refine (subWords _ A4 m n4 m c4 _ _ _ HO4.out HRA.out (by rw [val_toL, val_toL]; exact HL.out) (HRA.out.le_of HO4.out HL.out)).mono ?_
  rintro e w5 ⟨A5, m5, c5, rfl, hR5, hFr5, hB5⟩
  rw [val_toL, val_toL] at hR5
  have HR5 := vv hR5
  have HB5 := vv hB5
  clear hR5 hB5
  go_wp2_with fail
  refine (set_of gr or R (u1 % u2) _ A5 m5 c5 _ _ (HM4.out.below HB5.out) HR5.out (fun a e => (hFr5 a e).2) (by rw [<- HE2.out]; rfl) (sg_pos (by rw [<- HE2.out]; omega))).mono ?_
  rintro e w6 hP
  have HF6 := vv (hP.fs (HM4.out.below HB5.out))
  obtain ⟨rfl, hI6, _⟩ := hP
  have HI6 := vv hI6
  clear hI6
  go_wp2
  go_ret2
  refine ⟨rfl, ?_, HI6.out, ?_⟩
  ·rw [<- HE1.out]
   exact (HQ4.out.below HB5.out).fs1 HF6.out (Ne.symm hne)
  ·exact fs_swap ((Fs.of_nil HB.out).trans (HF.out.trans ((Fs.of_nil HB3.out).trans (HF4.out.trans ((Fs.of_nil HB5.out).trans HF6.out)))))
 ·rw [decide_eq_false hu] at k0
  rw [if_neg hu] at HE1
  go_enter Tryz.func188, Tryz.ntmps188
  go_wp2_with fail
  refine HC.out.mono ?_
  rintro e w1 ⟨rfl, hO, hB⟩
  have HO := vv (hO.rd HLEN.out.symm (Nat.le_refl _) HSM.out)
  have HB := vv hB
  clear hB hO
  go_wp2_with fail
  refine (HQ.out _ HB.out).mono ?_
  rintro e w2 ⟨rfl, hq, hm, hF⟩
  have HF := vv hF
  have HO2 := vv (HO.out.fs (fun a e => by cases e; rfl) hF)
  have HQ2 := vv hq
  have HM2 := vv hm
  obtain ⟨A, n, c, m0, m1, hra, hrz⟩ := hm.ex
  rw [HD.out] at m0
  have hglt := hq.lt
  have hmlt := hm.lt
  clear hF hq hm hra hrz
  go_wp2_with fail
  refine (NewInt 1 _ (by omega) (by omega)).mono ?_
  rintro e w3 ⟨g1, rfl, hg1, hI1, hB3⟩
  have HI1 := vv hI1
  have HB3 := vv hB3
  clear hI1 hB3
  go_wp2_with fail
  refine (Sub g o g o g1 0 _ _ _ _ (HQ2.out.below HB3.out) (HQ2.out.below HB3.out) HI1.out HSZ.out (Sz.small (by decide))).mono ?_
  rintro e w4 hP
  have HF4 := vv (hP.fs (HQ2.out.below HB3.out))
  obtain ⟨rfl, hQ4, _⟩ := hP
  have HQ4 := vv hQ4
  have HM4 := vv ((HM2.out.below HB3.out).fs1 HF4.out hne)
  have HO4 := vv ((HO2.out.below HB3.out rfl).fs (fun a e => by cases e; rfl) HF4.out)
  obtain ⟨A4, n4, c4, p0, p1, hra, hrz⟩ := HM4.out.ex
  have HRA := vv hra
  clear hQ4 hra hrz
  go_wp2_with fail
  refine (subWords _ A4 m n4 m c4 _ _ _ HO4.out HRA.out (by rw [val_toL, val_toL]; exact HL.out) (HRA.out.le_of HO4.out HL.out)).mono ?_
  rintro e w5 ⟨A5, m5, c5, rfl, hR5, hFr5, hB5⟩
  rw [val_toL, val_toL] at hR5
  have HR5 := vv hR5
  have HB5 := vv hB5
  clear hR5 hB5
  go_wp2_with fail
  refine (set_of gr or R (u1 % u2) _ A5 m5 c5 _ _ (HM4.out.below HB5.out) HR5.out (fun a e => (hFr5 a e).2) (by rw [<- HE2.out]; rfl) (sg_pos (by rw [<- HE2.out]; omega))).mono ?_
  rintro e w6 hP
  have HF6 := vv (hP.fs (HM4.out.below HB5.out))
  obtain ⟨rfl, hI6, _⟩ := hP
  have HI6 := vv hI6
  clear hI6
  go_wp2
  go_ret2
  refine ⟨rfl, ?_, HI6.out, ?_⟩
  ·rw [<- HE1.out, <- Int.sub_eq_add_neg]
   exact (HQ4.out.below HB5.out).fs1 HF6.out (Ne.symm hne)
  ·exact fs_swap ((Fs.of_nil HB.out).trans (HF.out.trans ((Fs.of_nil HB3.out).trans (HF4.out.trans ((Fs.of_nil HB5.out).trans HF6.out)))))
theorem DivMod (g o gx ox gy oy gr or : Nat) (v u1 u2 ur : Int) (w : World) (h : IntAt w g o v) (hx : IntAt w gx ox u1) (hy : IntAt w gy oy u2) (hr : IntAt w gr or ur) (hne : g ≠ gr) (h0 : u2 ≠ 0) (hn : Sz u1.natAbs) :
  Calls Tryz.prog 188 #[.pointer (some ⟨g, o, none⟩), .pointer (some ⟨gx, ox, none⟩), .pointer (some ⟨gy, oy, none⟩), .pointer (some ⟨gr, or, none⟩)] w (QrPost g o gr or (u1 / u2) (u1 % u2) w) := by
 by_cases hlow : sg (decide (u1 < 0)) (u1.natAbs % u2.natAbs) < 0
 ·exact DivMod_low g o gx ox gy oy gr or v u1 u2 ur w h hx hy hr hne h0 hn hlow
 ·exact DivMod_up g o gx ox gy oy gr or v u1 u2 ur w h hx hy hr hne h0 hn hlow
theorem Div (g o gx ox gy oy : Nat) (v u1 u2 : Int) (w : World) (h : IntAt w g o v) (hx : IntAt w gx ox u1) (hy : IntAt w gy oy u2) (h0 : u2 ≠ 0) (hn : Sz u1.natAbs) :
  Calls Tryz.prog 167 #[.pointer (some ⟨g, o, none⟩), .pointer (some ⟨gx, ox, none⟩), .pointer (some ⟨gy, oy, none⟩)] w fun e w' => e = .returned (.pointer (some ⟨g, o, none⟩)) /\ IntAt w' g o (u1 / u2) /\ Fs [(g, o, 2)] w w' := by
 have hlt := h.lt
 have HI := vv h
 have HX := vv hx
 have HY := vv hy
 have HO := vv h.head
 clear h hx hy
 go_enter Tryz.func167, Tryz.ntmps167
 go_wp2_with fail
 have HB : Hid (∀ t, Below w.heap.size w (w.alloc (.cells #[.bool false, .slice none 0 0] t))) := vv fun t => (Below.refl _ w).alloc (Nat.le_refl _) _
 refine (DivMod g o gx ox gy oy _ 0 _ _ _ _ _ (HI.out.below (HB.out _)) (HX.out.below (HB.out _)) (HY.out.below (HB.out _)) (IntAt.zero w 78) (by omega) h0 hn).mono ?_
 rintro e w1 ⟨rfl, hq, hm, hF⟩
 have HQ := vv hq
 have HF := vv hF
 clear hq hm hF
 go_wp2
 go_ret
 exact ⟨rfl, HQ.out, ((Fs.of_nil (HB.out _)).trans HF.out).weak (fun p hp hlt' => by
  simp only [List.nil_append, List.mem_cons, List.not_mem_nil, or_false] at hp ⊢
  rcases hp with rfl | rfl
  ·exact absurd hlt' (Nat.lt_irrefl _)
  ·rfl) (fun p hp _ => by rw [List.mem_singleton.1 hp]; exact HO.out)⟩
set_option maxHeartbeats 400000 in
theorem Exp (g o gx ox gy oy : Nat) (v : Int) (x y : Nat) (w : World) (h : IntAt w g o v) (hx : IntAt w gx ox (x : Int)) (hy : IntAt w gy oy (y : Int)) (hx0 : 0 < x) (hy0 : 0 < y) (hs : Sz (x ^ y)) (hsy : Sz y) :
  Calls Tryz.prog 119 #[.pointer (some ⟨g, o, none⟩), .pointer (some ⟨gx, ox, none⟩), .pointer (some ⟨gy, oy, none⟩), .pointer none] w (SetF g o ((x ^ y : Nat) : Int) w) := by
 have HI := vv h
 have HX := vv hx
 have HY := vv hy
 have hlty := hy.lt
 have HP : Hid (∀ q, q <= y -> Sz (x ^ q)) := vv fun q hq => hs.mono (Nat.pow_le_pow_right hx0 hq)
 have HSg : Hid ((y : Int).sign = 1) := vv (Int.sign_eq_one_of_pos (by omega))
 have HSY := vv hsy
 have HX0 := vv hx0
 have HY0 := vv hy0
 have HB : Hid (∀ (w : World) t, Below w.heap.size w (w.alloc (.cells #[.bool false, .slice none 0 0] t))) := vv fun w t => (Below.refl _ w).alloc (Nat.le_refl _) _
 have HZ := vv (IntAt.zero w 78)
 clear h hx hy hs hsy hx0 hy0
 go_enter Tryz.func119, Tryz.ntmps119
 go_wp2_with fail
 refine (NewInt 1 _ (by omega) (by omega)).mono ?_
 rintro e w1 ⟨g1, rfl, hg1, hI1, hB1⟩
 have HI1 := vv hI1
 have HB1 := vv ((HB.out w 78).trans (hB1.mono (Below.size (HB.out w 78))))
 have HZ1 := vv (HZ.out.below hB1)
 have hlt1 := hI1.lt
 have hg1' : w.heap.size < g1 := by simp at hg1; omega
 have hsz1 := HB1.out.size
 clear hI1 hB1 hg1
 go_wp2_with fail
 have HB2 := vv (HB1.out.trans ((HB.out w1 78).mono HB1.out.size))
 have HZB := vv (IntAt.zero w1 78)
 refine (Set _ 0 gx ox 0 _ _ HZB.out (HX.out.below HB2.out)).mono ?_
 rintro e w2 hP
 have hP := hP.f HZB.out
 have HB3 := vv (hP.below HB2.out (HB2.out.size) hsz1)
 have HI2 := vv ((HI1.out.below (HB.out w1 78)).fs1 hP.2.2 (by omega))
 have HZ2 := vv ((HZ1.out.below (HB.out w1 78)).fs1 hP.2.2 (by omega))
 have HX2 := vv hP.2.1
 obtain ⟨rfl, -, -⟩ := hP
 have HY2 := vv (HY.out.below HB3.out)
 go_wp2_with fail
 refine (Sign gy oy _ _ HY2.out).mono ?_
 rintro e w3 ⟨rfl, rfl⟩
 rw [HSg.out]
 obtain ⟨B, m, d, k0, k1, hr, hz⟩ := HY2.out.ex
 have HR := vv hr
 have hm := hr.words
 have HM := vv hm
 have hmb := hr.sz HSY.out
 have hlty2 := HY2.out.lt
 clear hr hz k0 hm
 go_wp2_with fail
 refine (copied _ _ _ _ _ HR.out).mono ?_
 rintro e w3 ⟨rfl, hO, hB⟩
 have HE0 : Hid (ExpInv w w.heap.size g1 w1.heap.size (some ⟨w2.heap.size, 0, none⟩) m x y 0 w3) := vv
  ⟨HZ2.out.below hB, by simpa using HI2.out.below hB, HX2.out.below hB, hO.rd HR.out.len.symm (Nat.le_refl _) HR.out.sm, fun a e => by cases e; rfl, HB3.out.trans (hB.mono HB3.out.size)⟩
 clear hO hB
 go_wp2
 go_loopw [13] (fun i wr => ∃ (z : Int) (j : Nat), i = .int .i64 z /\ z + 1 = j /\ j <= 32 * m /\ ExpInv w w.heap.size g1 w1.heap.size (some ⟨w2.heap.size, 0, none⟩) m x y (y / 2 ^ j) wr) (fun i _ => (intOf i + 1).toNat)
 case atStart =>
  refine ⟨_, 32 * m, rfl, by omega, Nat.le_refl _, ?_⟩
  have hlt := lt_words y
  have hme : words y = m := HM.out
  rw [hme, pow32] at hlt
  rw [Nat.div_eq_of_lt hlt]
  exact HE0.out
 case round =>
  obtain ⟨z, j, rfl, hz, hj, hE⟩ := hrel
  have HE := vv hE
  clear hE
  rcases Nat.eq_zero_or_pos j with rfl | hpos
  ·obtain rfl : z = -1 := by omega
   clear hz
   go_wp2_with fail
   have hE0 := HE.out.out
   rw [Nat.pow_zero, Nat.div_one] at hE0
   refine (Set g o g1 0 _ _ _ (HI.out.below HE.out.bel) hE0).mono ?_
   rintro e w5 hP
   have hF := vv ((hP.f (HI.out.below HE.out.bel)).after HE.out.bel)
   obtain ⟨rfl, hI5, -⟩ := hP
   go_wp2
   go_ret
   exact ⟨rfl, hI5, hF.out⟩
  ·obtain ⟨i, rfl⟩ : ∃ i, j = i + 1 := ⟨j - 1, by omega⟩
   obtain rfl : z = (i : Int) := by omega
   clear hz
   have i1 : (0 : Int) <= (i : Int) := by omega
   have i2 : (i : Int) < 32 * (m : Int) := by omega
   go_wp2_with fail
   refine (Mul g1 0 g1 0 g1 0 _ _ _ _ HE.out.out HE.out.out HE.out.out (by simpa using HP.out _ (Nat.div_le_self _ _)) (by simpa using HP.out _ (Nat.div_le_self _ _))).mono ?_
   rintro e w4 hP
   have HE4 := vv (HE.out.step hP (q' := 2 * (y / 2 ^ (i + 1))) (by rw [<- Int.natCast_mul, <- Nat.pow_add]; congr 2; omega) (by omega) (by omega) (by omega))
   obtain ⟨rfl, -, -⟩ := hP
   obtain ⟨b, off, hbo, hbl, hc⟩ := HE4.out.words.cell (by omega)
   cases hbo
   have hci := hc (i / 32) (by omega)
   rw [Nat.zero_add] at hci
   clear hc
   have hbit := and_one_eq (nth (toL y) (i / 32)) (i % 32) (HE4.out.words.nth_lt _)
   rw [nth_bit] at hbit
   have HQ := vv (div_pow_succ y i)
   by_cases hb : y / 2 ^ i % 2 = 1
   ·rw [decide_eq_true hb] at hbit
    have HQ1 : Hid (y / 2 ^ i = 2 * (y / 2 ^ (i + 1)) + 1) := vv (by have := HQ.out; omega)
    clear hb
    go_wp2_with fail
    refine (Mul g1 0 g1 0 w1.heap.size 0 _ _ _ _ HE4.out.out HE4.out.out HE4.out.base (by simpa using HP.out _ (by have := Nat.div_le_self y (2 ^ i); have := HQ1.out; omega)) (by simpa using HP.out 1 HY0.out)).mono ?_
    rintro e w5 hP
    have HE5 := vv (HE4.out.step hP (q' := y / 2 ^ i) (by rw [HQ1.out, Nat.pow_add x _ 1, Nat.pow_one, Int.natCast_mul]) (by omega) (by omega) (by omega))
    obtain ⟨rfl, -, -⟩ := hP
    obtain ⟨A5, c5, hn5⟩ := HE5.out.by_.nil
    have hlt5 := HE5.out.by_.lt
    clear hci hbit
    go_wp2
    go_roundw
    case rel => exact ⟨_, i, rfl, by omega, by omega, HE5.out⟩
    case measure => simp [intOf]
   ·rw [decide_eq_false hb] at hbit
    have HQ1 : Hid (y / 2 ^ i = 2 * (y / 2 ^ (i + 1))) := vv (by have := HQ.out; omega)
    clear hb
    have hE5 := HE4.out
    rw [<- HQ1.out] at hE5
    have HE5 := vv hE5
    obtain ⟨A5, c5, hn5⟩ := HE5.out.by_.nil
    have hlt5 := HE5.out.by_.lt
    clear hE5
    go_wp2
    go_roundw
    case rel => exact ⟨_, i, rfl, by omega, by omega, HE5.out⟩
    case measure => simp [intOf]
def BelowPost (d : Nat) (w : World) (e : Ending) (w' : World) : Prop := ∃ A n c, e = .returned (.slice A n c) /\ Rd w' A n c (toL d) /\ (∀ a, A = some a -> a.off = 0) /\ Below w.heap.size w w'
theorem below (g : Nat) (p : Int) (d : Nat) (w : World) (h : RatAt w g p d) :
  Calls Tryz.prog 80 #[.pointer (some ⟨g, 0, none⟩)] w (BelowPost (ld p d) w) := by
 have hlt := h.lt
 have hp := ld_pos (p := p) h.pos
 obtain ⟨A, n, c, e, ⟨hd, hz⟩⟩ := h.den
 clear h
 rcases hd with ⟨rfl, hd⟩ | ⟨hn, hr⟩
 ·rw [hd]
  clear hd hp
  go_enter Tryz.func80, Tryz.ntmps80
  go_wp2
  go_ret
  have hO : Own (w.alloc (.cells #[.int .u32 1] 34)) w.heap.size 34 [1] := Own.lit _ (Lim_cons.2 ⟨by omega, Lim_nil⟩) (by simp [u32s])
  exact ⟨_, 1, 1, rfl, hO.rd rfl (Nat.le_refl _) (by omega), fun a e => by cases e; rfl, (Below.refl _ _).alloc (Nat.le_refl _) _⟩
 ·have hsm := hr.sm
  have h0 : ((n : Int) == 0) = false := by simp; omega
  have HR := vv hr
  clear hr hp
  go_enter Tryz.func80, Tryz.ntmps80
  go_wp2
  go_ret
  exact ⟨_, n, c, rfl, HR.out, hz, Below.refl _ _⟩
theorem SetInt (g gx : Nat) (u : Int) (w : World) (h : RatSh w g) (hx : IntAt w gx 0 u) :
  Calls Tryz.prog 44 #[.pointer (some ⟨g, 0, none⟩), .pointer (some ⟨gx, 0, none⟩)] w (RatF g u 1 w) := by
 have HH := vv h
 obtain ⟨v, hv⟩ := h.int
 have HV := vv hv
 have hlt := hv.lt
 have HS := vv (Set g 0 gx 0 v u w hv hx)
 clear hv h hx
 go_enter Tryz.func44, Tryz.ntmps44
 go_wp2_with fail
 refine HS.out.mono ?_
 rintro e w1 hP
 have hP := hP.f HV.out
 have hN := HH.out.num hP
 obtain ⟨hi, x, hx⟩ := hN
 have hlt1 := hi.lt
 have hfz := hi.fz 2
 have HF := vv hP.2.2
 have HI := vv hi
 obtain ⟨rfl, -, -⟩ := hP
 have HXc := vv hx
 clear hi
 go_wp2
 go_ret
 refine ⟨rfl, RatAt.made HI.out ⟨x, HXc.out⟩ (DenAt.nil _) (by omega) (by omega) (Nat.gcd_one_right _) rfl, fs3 ?_⟩
 exact HF.out.trans (Fs.set2 HI.out _)
theorem Num (g : Nat) (p : Int) (d : Nat) (w : World) (h : RatAt w g p d) :
  Calls Tryz.prog 117 #[.pointer (some ⟨g, 0, none⟩)] w (NewPost (lp p d) w) := by
 have hlt := h.lt
 have HB : Hid (∀ t, Below w.heap.size w (w.alloc (.cells #[.bool false, .slice none 0 0] t))) := vv fun t => (Below.refl _ w).alloc (Nat.le_refl _) _
 have HN := vv h.num
 clear h
 go_enter Tryz.func117, Tryz.ntmps117
 go_wp2_with fail
 refine (Set _ 0 g 0 0 _ _ (IntAt.zero w 78) (HN.out.below (HB.out _))).mono ?_
 rintro e w1 ⟨rfl, hI, hF⟩
 go_wp2
 go_ret
 exact ⟨_, rfl, Nat.le_refl _, hI, hF.below (HB.out _) (by simp) (Nat.le_refl _)⟩
theorem Denom (g : Nat) (p : Int) (d : Nat) (w : World) (h : RatAt w g p d) :
  Calls Tryz.prog 118 #[.pointer (some ⟨g, 0, none⟩)] w (NewPost (ld p d : Nat) w) := by
 have hlt := h.lt
 have HB : Hid (∀ t, Below w.heap.size w (w.alloc (.cells #[.bool false, .slice none 0 0] t))) := vv fun t => (Below.refl _ w).alloc (Nat.le_refl _) _
 have HN := vv h
 clear h
 go_enter Tryz.func118, Tryz.ntmps118
 go_wp2_with fail
 refine (below g p d _ (HN.out.below (HB.out _))).mono ?_
 rintro e w1 ⟨A, n, c, rfl, hR, hz, hB1⟩
 have HZ := vv ((IntAt.zero w 78).below hB1)
 have HR := vv hR
 have HB1 := vv ((HB.out 78).trans (hB1.mono (HB.out _).size))
 clear hR hB1
 go_wp2_with fail
 refine (copied _ _ _ _ _ HR.out).mono ?_
 rintro e w2 ⟨rfl, hO, hB2⟩
 have HO := vv hO
 have HZ2 := vv (HZ.out.below hB2)
 have HB2 := vn HB1 hB2
 clear hO hB2
 go_wp2_with fail
 refine (set_of _ 0 0 (ld p d : Nat) _ _ n n (ld p d) _ HZ2.out (HO.out.rd HR.out.len.symm (Nat.le_refl _) HR.out.sm) (fun a e => by cases e; rfl) rfl (sg_pos (by omega))).mono ?_
 rintro e w3 ⟨rfl, hI, hF⟩
 go_wp2
 go_ret
 exact ⟨_, rfl, Nat.le_refl _, hI, hF.below HB2.out HB2.out.size (Nat.le_refl _)⟩
theorem RSign (g : Nat) (p : Int) (d : Nat) (w : World) (h : RatAt w g p d) :
  Calls Tryz.prog 87 #[.pointer (some ⟨g, 0, none⟩)] w fun e w' => e = .returned (.int .i64 p.sign) /\ w = w' := by
 have hlt := h.lt
 have HN := vv (Sign g 0 _ w h.num)
 have HS := vv (lp_sign (p := p) h.pos)
 clear h
 go_enter Tryz.func87, Tryz.ntmps87
 go_wp2_with fail
 refine HN.out.mono ?_
 rintro e w1 ⟨rfl, rfl⟩
 rw [HS.out]
 go_wp2
 go_ret
 exact ⟨rfl, rfl⟩
theorem Rset_zero (g : Nat) (b : Bool) (A B : Option Addr) (n c m d : Nat) (xs ys : List Nat) (w : World) (h : RatSh w g) (ha : Rd w A n c xs) (hb : Rd w B m d ys) (hD : 0 < val ys) (h0 : val xs = 0) :
  Calls Tryz.prog 125 #[.pointer (some ⟨g, 0, none⟩), .bool b, .slice A n c, .slice B m d] w (RatF g (sg b (val xs)) (val ys) w) := by
 have HH := vv h
 obtain ⟨v, hv⟩ := h.int
 have HV := vv hv
 have hlt := hv.lt
 have HA := vv (trim A n c xs w ha)
 have HB := vv (trim B m d ys w hb)
 have HD := vv hD
 have H0 := vv h0
 clear hv h ha hb hD h0
 go_enter Tryz.func125, Tryz.ntmps125
 go_wp2_with fail
 refine HA.out.mono ?_
 rintro e w' ⟨n1, rfl, rfl, hR⟩
 obtain rfl : n1 = 0 := by rw [<- hR.words]; exact words_eq_zero.2 H0.out
 clear hR
 go_wp2_with fail
 refine HB.out.mono ?_
 rintro e w' ⟨m1, rfl, rfl, hR⟩
 clear hR
 go_wp2_with fail
 refine (set_of g 0 v 0 _ none 0 0 0 _ HV.out (Rd.nil _) (fun a e => by cases e) rfl rfl).mono ?_
 rintro e w1 hP
 have hP := hP.f HV.out
 obtain ⟨hi, x, hx⟩ := HH.out.num hP
 have hlt1 := hi.lt
 have hfz := hi.fz 2
 have HF := vv hP.2.2
 have HI := vv hi
 obtain ⟨rfl, -, -⟩ := hP
 have HXc := vv hx
 clear hi
 go_wp2
 go_ret
 refine ⟨rfl, RatAt.made HI.out ⟨x, HXc.out⟩ (DenAt.nil _) HD.out (by omega) (Nat.gcd_one_right _) ?_, fs3 ?_⟩
 ·rw [H0.out]; cases b <;> simp [sg]
 ·exact HF.out.trans (Fs.set2 HI.out _)
theorem Rset_pos (g : Nat) (b : Bool) (A B : Option Addr) (n c m d : Nat) (xs ys : List Nat) (w : World) (h : RatSh w g) (ha : Rd w A n c xs) (hb : Rd w B m d ys) (hD : 0 < val ys) (h0 : 0 < val xs) (hza : ∀ a, A = some a -> a.off = 0) (hzb : ∀ a, B = some a -> a.off = 0)
  (hst : Std w) (hn : n < 17179869184) (hm : m < 17179869184) :
  Calls Tryz.prog 125 #[.pointer (some ⟨g, 0, none⟩), .bool b, .slice A n c, .slice B m d] w (RatF g (sg b (val xs)) (val ys) w) := by
 have HH := vv h
 obtain ⟨v, hv⟩ := h.int
 have HV := vv hv
 have hlt := hv.lt
 have HA := vv (trim A n c xs w ha)
 have HB := vv (trim B m d ys w hb)
 have HD := vv hD
 have H0 := vv h0
 have HST := vv hst
 have HLA := vv ha.lim
 have HLB := vv hb.lim
 have HLa := vv ha.len
 have HLb := vv hb.len
 have HG := vv (gcd_pos_of (n := val xs) hD)
 have HLow := vv (sg_low (b := b) (N := val xs) hD)
 have HDp : Hid (0 < val ys / Nat.gcd (val xs) (val ys)) := vv (Nat.div_pos (Nat.le_of_dvd hD (Nat.gcd_dvd_right _ _)) HG.out)
 clear hv h ha hb hD h0 hst
 go_enter Tryz.func125, Tryz.ntmps125
 go_wp2_with fail
 refine HA.out.mono ?_
 rintro e w' ⟨n1, rfl, rfl, hR⟩
 have hn1 : n1 <= n := hR.trim_le HLA.out (by rw [HLa.out]; exact Nat.le_refl _)
 have hp1 : 0 < n1 := by
  rcases Nat.eq_zero_or_pos n1 with e | e
  ·have := hR.words; rw [e] at this; have := words_eq_zero.1 this; have := H0.out; omega
  ·exact e
 have hsm := hR.sm
 have HR := vv hR
 clear hR
 go_wp2_with fail
 refine HB.out.mono ?_
 rintro e w' ⟨m1, rfl, rfl, hR⟩
 have hm1 : m1 <= m := hR.trim_le HLB.out (by rw [HLb.out]; exact Nat.le_refl _)
 have HR2 := vv hR
 clear hR
 have ht0 : ((n1 : Int) == 0) = false := by simp; omega
 go_wp2_with fail
 refine (common A B n1 m1 c d _ _ _ HR.out HR2.out HST.out (by omega) (by omega)).mono ?_
 rintro e w1 ⟨A1, k1, c1, rfl, hG, hFr, hB1⟩
 have HG1 := vv hG
 have HB1 := vv hB1
 have HR' := vv (HR.out.below hB1 rfl)
 have HR2' := vv (HR2.out.below hB1 rfl)
 clear hG
 go_wp2_with fail
 refine wp_region_sch (fun _ => True) 7
  (.still 0 (.still 1 (.still 2 (.still 3 (.still 4 (.still 5 (.one 6 .done))))))) (by kernel_rfl) (by kernel_rfl) (fun _ _ d _ _ h => by cases d <;> exact h) trivial (fun hS0 => ?_)
 clear hS0
 iterate 6
  refine sch_still (v := ?_) rfl (by rfl) ?_ ?_
  rotate_left
  ·intro w hSw; go_simp; with_reducible rfl
  simp only [Act.put, List.setIfInBounds_toArray, List.set_cons_zero, List.set_cons_succ]
 refine sch_one rfl (by rfl) (fun K hK => ?_)
 go_simp
 refine (by_ A A1 n1 k1 c c1 _ _ _ HR'.out.drew HG1.out.drew HG.out (by omega)).mono ?_
 rintro e w2 ⟨A2, k2, c2, rfl, hQ, hFr2, hB2⟩
 have HB2 : Hid (Below w.heap.size w w2) := vv ((below_drew HB1.out).trans (hB2.mono (by simpa using HB1.out.size)))
 have hz2 : ∀ a, A2 = some a -> a.off = 0 := fun a e => by
  rcases hFr2 with hf | hf
  ·exact (hf a e).2
  ·exact hza a (hf ▸ e)
 have HQ := vv hQ
 have HZ2 := vv hz2
 have HG2 := vv (HG1.out.drew.below hB2 rfl)
 have HR2'' := vv (HR2'.out.drew.below hB2 rfl)
 clear hQ hz2 hFr2 hB2
 go_wp2_with fail
 refine hK.out _ _ trivial (fun hHeld => ?_)
 clear hK
 refine sch_done ?_
 go_wp2_with fail
 refine (set_of g 0 v (sg b (val xs / Nat.gcd (val xs) (val ys))) _ A2 k2 c2 _ _ (HV.out.below HB2.out) HQ.out HZ2.out (sg_abs _ _) (sg_neg' _ _)).mono ?_
 rintro e w3 hP
 have hP := hP.f (HV.out.below HB2.out)
 have HF3 := vv hP.2.2
 have HN3 := vv ((HH.out.below HB2.out).num hP)
 have HG3 := vv (HG2.out.fs (fun a e => (hFr a e).2) hP.2.2)
 have HR3 := vv (HR2''.out.fs hzb hP.2.2)
 obtain ⟨rfl, -, -⟩ := hP
 go_wp2_with fail
 refine (by_ B A1 m1 k1 d c1 _ _ _ HR3.out HG3.out HG.out (by omega)).mono ?_
 rintro e w4 ⟨A4, k4, c4, rfl, hQ, hFr4, hB4⟩
 have hz4 : ∀ a, A4 = some a -> a.off = 0 := fun a e => by
  rcases hFr4 with hf | hf
  ·exact (hf a e).2
  ·exact hzb a (hf ▸ e)
 have HQ4 := vv hQ
 have HZ4 := vv hz4
 obtain ⟨hi, x, hx⟩ := HN3.out
 have hi4 := hi.below hB4
 have hx4 := (hB4.cell (p := ⟨g, 2, none⟩) hi.lt).trans hx
 have hlt4 := hi4.lt
 have hfz := hi4.fz 2
 have HI4 := vv hi4
 have HX4 := vv hx4
 have HF4 : Hid (Fs [(g, 0, 2)] w w4) := vv (((HF3.out.after HB2.out).trans (Fs.of_nil hB4)).drop (fun p hp _ => by simpa using hp) (fun p hp => by simpa using hp))
 clear hQ hz4 hFr4 hB4 hi hi4 hx
 go_wp2
 go_ret
 refine ⟨rfl, RatAt.made HI4.out ⟨x, HX4.out⟩ (HQ4.out.den HDp.out HZ4.out) HD.out HDp.out HLow.out.1 HLow.out.2, fs3 ?_⟩
 exact HF4.out.trans (Fs.set2 HI4.out _)
theorem Rset (g : Nat) (b : Bool) (A B : Option Addr) (n c m d : Nat) (xs ys : List Nat) (w : World) (h : RatSh w g) (ha : Rd w A n c xs) (hb : Rd w B m d ys) (hD : 0 < val ys) (hza : ∀ a, A = some a -> a.off = 0) (hzb : ∀ a, B = some a -> a.off = 0)
  (hst : Std w) (hn : n < 17179869184) (hm : m < 17179869184) :
  Calls Tryz.prog 125 #[.pointer (some ⟨g, 0, none⟩), .bool b, .slice A n c, .slice B m d] w (RatF g (sg b (val xs)) (val ys) w) := by
 rcases Nat.eq_zero_or_pos (val xs) with h0 | h0
 ·exact Rset_zero g b A B n c m d xs ys w h ha hb hD h0
 ·exact Rset_pos g b A B n c m d xs ys w h ha hb hD h0 hza hzb hst hn hm
set_option maxRecDepth 100000 in
theorem SetFrac (g gx gy : Nat) (u : Int) (D : Nat) (w : World) (h : RatSh w g) (hx : IntAt w gx 0 u) (hy : IntAt w gy 0 (D : Int)) (hD : 0 < D) (hst : Std w) (hn : Sz u.natAbs) (hm : Sz D) :
  Calls Tryz.prog 122 #[.pointer (some ⟨g, 0, none⟩), .pointer (some ⟨gx, 0, none⟩), .pointer (some ⟨gy, 0, none⟩)] w (RatF g u D w) := by
 have hlx := hx.lt
 have hly := hy.lt
 obtain ⟨A, n, c, h0, h1, hr, hz⟩ := hx.ex
 obtain ⟨B, m, d, k0, k1, hs, hy⟩ := hy.ex
 rw [decide_eq_false (by omega)] at k0
 have hs' : Rd w B m d (toL D) := hs
 have HA := vv hr
 have HB := vv hs'
 have HH := vv h
 have HST := vv hst
 have HD := vv hD
 have HN := vv (hr.sz hn)
 have HM := vv (hs'.sz hm)
 clear hr hz hs hs' hy h hx hn hm hst hD
 have fin : ∀ w1 w2 A' B', Below w.heap.size w w1 -> Below w1.heap.size w1 w2 -> Rd w2 A' n n (toL u.natAbs) -> Rd w2 B' m m (toL D) -> (∀ a, A' = some a -> a.off = 0) -> (∀ a, B' = some a -> a.off = 0) ->
   Calls Tryz.prog 125 #[.pointer (some ⟨g, 0, none⟩), .bool (decide (u < 0)), .slice A' n n, .slice B' m m] w2 (RatF g u D w) := by
  intro w1 w2 A' B' hb1 hb2 ha hb hza hzb
  have hbb := hb1.trans (hb2.mono hb1.size)
  refine (Rset g _ A' B' n n m m _ _ w2 (HH.out.below hbb) ha hb (by rw [val_toL]; exact HD.out) hza hzb (HST.out.fs (Fs.of_nil hbb)) (by have := HN.out; omega) (by have := HM.out; omega)).mono ?_
  rintro e w' ⟨he, hR, hF⟩
  rw [val_toL, val_toL, sg_of] at hR
  exact ⟨he, hR, hF.after hbb⟩
 have Fin := vv fin
 clear fin
 go_enter Tryz.func122, Tryz.ntmps122
 go_wp2_with fail
 refine wp_region_sch (fun w' => w'.cell? ⟨gx, 0, none⟩ = some (.bool (decide (u < 0))) /\ w'.cell? ⟨gx, 1, none⟩ = some (.slice A n c) /\ w'.cell? ⟨gy, 0, none⟩ = some (.bool false) /\ w'.cell? ⟨gy, 1, none⟩ = some (.slice B m d)) 20
  (.still 0 (.still 1 (.still 2 (.still 3 (.still 4 (.still 5 (.still 6 (.still 7 (.still 8 (.still 9 (.still 10 (.still 11 (.still 12 (.still 13 (.still 15 (.still 16 (.still 17 (.still 18 (.one 14 (.one 19 .done)))))))))))))))))))) (by kernel_rfl) (by kernel_rfl) (fun _ _ d _ _ h => by cases d <;> exact h) ⟨h0, h1, k0, k1⟩ (fun hS0 => ?_)
 iterate 18
  refine sch_still (v := ?_) rfl (by rfl) ?_ ?_
  rotate_left
  ·intro w hSw; go_simp; with_reducible rfl
  simp only [Act.put, List.setIfInBounds_toArray, List.set_cons_zero, List.set_cons_succ]
 refine sch_one rfl (by rfl) (fun K hK => ?_)
 go_simp
 refine (copied _ _ _ _ _ HA.out.drew).mono ?_
 rintro e w1 ⟨rfl, hO, hB1⟩
 have HO := vv (hO.rd HA.out.len.symm (Nat.le_refl _) HA.out.sm)
 have HB1 : Hid (Below w.heap.size w w1) := vv ⟨hB1.os, hB1.tape, hB1.output, hB1.size, hB1.block⟩
 clear hO hB1
 go_wp2_with fail
 refine hK.out _ _ ⟨(HB1.out.cell (p := ⟨gx, 0, none⟩) hlx).trans h0, (HB1.out.cell (p := ⟨gx, 1, none⟩) hlx).trans h1, (HB1.out.cell (p := ⟨gy, 0, none⟩) hly).trans k0, (HB1.out.cell (p := ⟨gy, 1, none⟩) hly).trans k1⟩ (fun hHeld => ?_)
 clear hK
 refine sch_one rfl (by rfl) (fun K hK => ?_)
 go_simp
 refine (copied _ _ _ _ _ (HB.out.below HB1.out rfl)).mono ?_
 rintro e w2 ⟨rfl, hO2, hB2⟩
 have HO2 := vv (hO2.rd HB.out.len.symm (Nat.le_refl _) HB.out.sm)
 have HO1 := vv (HO.out.below hB2 rfl)
 have HB2 := vv hB2
 have HBB := vn HB1 hB2
 clear hO2 hB2
 go_wp2_with fail
 refine hK.out _ _ ⟨(HBB.out.cell (p := ⟨gx, 0, none⟩) hlx).trans h0, (HBB.out.cell (p := ⟨gx, 1, none⟩) hlx).trans h1, (HBB.out.cell (p := ⟨gy, 0, none⟩) hly).trans k0, (HBB.out.cell (p := ⟨gy, 1, none⟩) hly).trans k1⟩ (fun hHeld => ?_)
 clear hK
 refine sch_done ?_
 go_wp2_with fail
 refine (Fin.out w1 w2 _ _ HB1.out HB2.out HO1.out HO2.out (fun a e => by cases e; rfl) (fun a e => by cases e; rfl)).mono ?_
 rintro e w3 ⟨rfl, hR, hF⟩
 have HR := vv hR
 go_wp2
 go_ret
 exact ⟨rfl, HR.out, hF⟩
theorem SetInt64R (g : Nat) (x : Int) (w : World) (h : RatSh w g) (h1 : -9223372036854775808 <= x) (h2 : x <= 9223372036854775807) :
  Calls Tryz.prog 133 #[.pointer (some ⟨g, 0, none⟩), .int .i64 x] w (RatF g x 1 w) := by
 have HH := vv h
 have HN := vv fun w => NewInt x w h1 h2
 clear h h1 h2
 go_enter Tryz.func133, Tryz.ntmps133
 go_wp2_with fail
 refine (HN.out _).mono ?_
 rintro e w1 ⟨g1, rfl, hg1, hI1, hB1⟩
 have HI := vv hI1
 have HB := vv hB1
 clear hI1 hB1
 go_wp2_with fail
 refine (SetInt g g1 x _ (HH.out.below HB.out) HI.out).mono ?_
 rintro e w2 ⟨rfl, hR, hF⟩
 have HR := vv hR
 go_wp2
 go_ret
 exact ⟨rfl, HR.out, hF.after HB.out⟩
theorem SetFrac64 (g : Nat) (x : Int) (D : Nat) (w : World) (h : RatSh w g) (h1 : -9223372036854775808 <= x) (h2 : x <= 9223372036854775807) (hD : 0 < D) (hD2 : D <= 9223372036854775807) (hst : Std w) :
  Calls Tryz.prog 195 #[.pointer (some ⟨g, 0, none⟩), .int .i64 x, .int .i64 (D : Int)] w (RatF g x D w) := by
 have HH := vv h
 have HST := vv hst
 have HN := vv fun w => NewInt x w h1 h2
 have HN2 := vv fun w => NewInt D w (by omega) (by omega)
 have HZ1 : Hid (Sz x.natAbs) := vv (Sz.small (by omega))
 have HZ2 : Hid (Sz D) := vv (Sz.small (by omega))
 clear h hst h1 h2 hD2
 go_enter Tryz.func195, Tryz.ntmps195
 go_wp2_with fail
 refine (HN.out _).mono ?_
 rintro e w1 ⟨g1, rfl, hg1, hI1, hB1⟩
 have HI := vv hI1
 have HB := vv hB1
 clear hI1 hB1
 go_wp2_with fail
 refine (HN2.out _).mono ?_
 rintro e w2 ⟨g2, rfl, hg2, hI2, hB2⟩
 have HI1 := vv (HI.out.below hB2)
 have HI2 := vv hI2
 have HB2 := vn HB hB2
 clear hI2 hB2
 go_wp2_with fail
 refine (SetFrac g g1 g2 x D _ (HH.out.below HB2.out) HI1.out HI2.out hD (HST.out.fs (Fs.of_nil HB2.out)) HZ1.out HZ2.out).mono ?_
 rintro e w3 ⟨rfl, hR, hF⟩
 have HR := vv hR
 go_wp2
 go_ret
 exact ⟨rfl, HR.out, hF.after HB2.out⟩
theorem NewRat (x : Int) (D : Nat) (w : World) (h1 : -9223372036854775808 <= x) (h2 : x <= 9223372036854775807) (hD : 0 < D) (hD2 : D <= 9223372036854775807) (hst : Std w) :
  Calls Tryz.prog 169 #[.int .i64 x, .int .i64 (D : Int)] w (NewRat' x D w) := by
 have HST := vv hst
 clear hst
 go_enter Tryz.func169, Tryz.ntmps169
 go_wp2_with fail
 have HB : Hid (∀ t, Below w.heap.size w (w.alloc (.cells #[.bool false, .slice none 0 0, .slice none 0 0] t))) := vv fun t => (Below.refl _ w).alloc (Nat.le_refl _) _
 refine (SetFrac64 _ x D _ (RatAt.zero w 80).sh h1 h2 hD hD2 (HST.out.fs (Fs.of_nil (HB.out _)))).mono ?_
 rintro e w1 hP
 have hbel := hP.below (HB.out _) (by simp) (Nat.le_refl _)
 obtain ⟨rfl, hR, hF⟩ := hP
 have HR := vv hR
 go_wp2
 go_ret
 exact ⟨_, rfl, Nat.le_refl _, HR.out, hbel⟩
theorem SetR (g gx : Nat) (p : Int) (d : Nat) (w : World) (h : RatSh w g) (hx : RatAt w gx p d) :
  Calls Tryz.prog 86 #[.pointer (some ⟨g, 0, none⟩), .pointer (some ⟨gx, 0, none⟩)] w (RatF g p d w) := by
 have HH := vv h
 have HX := vv hx.num
 have HP := vv hx.pos
 have hlx := hx.lt
 obtain ⟨v, hv⟩ := h.int
 have hlt := hv.lt
 have HV := vv hv
 obtain ⟨A, n, c, e2, hd⟩ := hx.den
 obtain ⟨xs, hr, hcase⟩ := hd.rd
 have HC := vv hcase
 have HR := vv hr
 clear h hx hv hd hr hcase
 go_enter Tryz.func86, Tryz.ntmps86
 go_wp2_with fail
 refine (copied _ _ _ _ _ HR.out).mono ?_
 rintro e w1 ⟨rfl, hO, hB1⟩
 have HO := vv (DenAt.of_copy (hO.rd HR.out.len.symm (Nat.le_refl _) HR.out.sm) HC.out (fun a e => by cases e; rfl))
 have HB1 := vv hB1
 clear hO hB1
 go_wp2_with fail
 refine wp_region_sch (fun _ => True) 6
  (.still 0 (.still 1 (.still 2 (.still 3 (.still 4 (.still 5 .done)))))) (by kernel_rfl) (by kernel_rfl) (fun _ _ d _ _ h => by cases d <;> exact h) trivial (fun hS0 => ?_)
 clear hS0
 iterate 6
  refine sch_still (v := ?_) rfl (by rfl) ?_ ?_
  rotate_left
  ·intro w hSw; go_simp; with_reducible rfl
  simp only [Act.put, List.setIfInBounds_toArray, List.set_cons_zero, List.set_cons_succ]
 refine sch_done ?_
 go_wp2_with fail
 refine (Set g 0 gx 0 v _ _ (HV.out.below HB1.out).drew (HX.out.below HB1.out).drew).mono ?_
 rintro e w2 hP
 have hP := hP.f (HV.out.below HB1.out).drew
 have hS : RatSh w1.drew g := (HH.out.below HB1.out).like rfl
 have HN := vv (hS.num hP)
 have HF := vv (hP.2.2.undrew.after HB1.out)
 have HO2 := vv (HO.out.fs hP.2.2.undrew)
 obtain ⟨rfl, -, -⟩ := hP
 obtain ⟨hi, x, hx⟩ := HN.out
 have hlt1 := hi.lt
 have hfz := hi.fz 2
 have HI := vv hi
 have HXc := vv hx
 clear hi
 go_wp2
 go_ret
 exact ⟨rfl, RatAt.made HI.out ⟨x, HXc.out⟩ HO2.out HP.out (ld_pos HP.out) (lp_cop HP.out) (lp_cross p d), fs3 (HF.out.trans (Fs.set2 HI.out _))⟩
theorem AbsR (g gx : Nat) (p : Int) (d : Nat) (w : World) (h : RatSh w g) (hx : RatAt w gx p d) :
  Calls Tryz.prog 89 #[.pointer (some ⟨g, 0, none⟩), .pointer (some ⟨gx, 0, none⟩)] w (RatF g (p.natAbs : Int) d w) := by
 have HS := vv (SetR g gx p d w h hx)
 clear h hx
 go_enter Tryz.func89, Tryz.ntmps89
 go_wp2_with fail
 refine HS.out.mono ?_
 rintro e w1 ⟨rfl, hR, hF⟩
 obtain ⟨A, n, c, c0, -, -, -⟩ := hR.num.ex
 have hlt := hR.lt
 have hfz := hR.num.fz 0
 have HR := vv (hR.resign (p.natAbs : Int) (Int.natAbs_natCast _))
 have HF := vv hF
 rw [decide_eq_false (p := (p.natAbs : Int) < 0) (by omega)] at HR
 clear hR hF
 go_wp2
 go_ret
 exact ⟨rfl, HR.out.1, (HF.out.trans HR.out.2).drop (fun p hp _ => by simpa using hp) (fun p hp => by simpa using hp)⟩
theorem NegR (g gx : Nat) (p : Int) (d : Nat) (w : World) (h : RatSh w g) (hx : RatAt w gx p d) :
  Calls Tryz.prog 48 #[.pointer (some ⟨g, 0, none⟩), .pointer (some ⟨gx, 0, none⟩)] w (RatF g (-p) d w) := by
 have HS := vv (SetR g gx p d w h hx)
 have HP := vv hx.pos
 clear h hx
 go_enter Tryz.func48, Tryz.ntmps48
 go_wp2_with fail
 refine HS.out.mono ?_
 rintro e w1 ⟨rfl, hR, hF⟩
 obtain ⟨A, n, c, c0, c1, hr, hz⟩ := hR.num.ex
 have hlt := hR.lt
 have hfz := hR.num.fz 0
 have hn := hr.words
 have hsm := hr.sm
 have HR := vv (hR.resign (-p) (Int.natAbs_neg _))
 have HF := vv hF
 have h1 := lp_neg (p := p) HP.out
 have h2 := lp_eq_zero (p := p) (d := d)
 clear hR hF hr hz
 by_cases hp : p < 0
 ·rw [decide_eq_true (h1.2 hp)] at c0
  rw [decide_eq_false (p := -p < 0) (by omega)] at HR
  clear h1 h2 hp hn
  go_wp2
  go_ret
  exact ⟨rfl, HR.out.1, (HF.out.trans HR.out.2).drop (fun p hp _ => by simpa using hp) (fun p hp => by simpa using hp)⟩
 ·rw [decide_eq_false (fun k => hp (h1.1 k))] at c0
  by_cases hz : p = 0
  ·obtain rfl : n = 0 := by rw [<- hn, words_eq_zero, h2.2 hz]; rfl
   rw [decide_eq_false (p := -p < 0) (by omega)] at HR
   clear h1 h2 hp hn hz
   go_wp2
   go_ret
   exact ⟨rfl, HR.out.1, (HF.out.trans HR.out.2).drop (fun p hp _ => by simpa using hp) (fun p hp => by simpa using hp)⟩
  ·have hn0 : decide (0 < n) = true := by
    rw [decide_eq_true_iff]
    rcases Nat.eq_zero_or_pos n with e | e
    ·rw [e] at hn; have := words_eq_zero.1 hn; omega
    ·exact e
   rw [decide_eq_true (p := -p < 0) (by omega)] at HR
   clear h1 h2 hp hn hz
   go_wp2
   go_ret
   exact ⟨rfl, HR.out.1, (HF.out.trans HR.out.2).drop (fun p hp _ => by simpa using hp) (fun p hp => by simpa using hp)⟩
theorem Inv (g gx : Nat) (N d : Nat) (w : World) (h : RatSh w g) (hx : RatAt w gx (N : Int) d) (hN : 0 < N) :
  Calls Tryz.prog 84 #[.pointer (some ⟨g, 0, none⟩), .pointer (some ⟨gx, 0, none⟩)] w (RatF g (d : Int) N w) := by
 have HH := vv h
 have HX := vv hx
 have HL := vv (inv_low hN hx.pos)
 have HP := vv (ld_pos (p := (N : Int)) hx.pos)
 have HN := vv hN
 have hneg := lp_neg (p := (N : Int)) hx.pos
 have hlx := hx.lt
 obtain ⟨v, hv⟩ := h.int
 have hlt := hv.lt
 have HV := vv hv
 obtain ⟨A, n, c, c0, c1, hr, hz⟩ := hx.num.ex
 rw [decide_eq_false (by omega)] at c0
 have HA := vv hr
 have HBel := vv (below gx _ _ w hx)
 clear h hx hv hr hneg hN
 go_enter Tryz.func84, Tryz.ntmps84
 go_wp2_with fail
 refine HBel.out.mono ?_
 rintro e w1 ⟨B, m, d1, rfl, hR, hz1, hB1⟩
 have HR := vv hR
 have HB1 := vv hB1
 clear hR hB1
 go_wp2_with fail
 refine (copied _ _ _ _ _ HR.out).mono ?_
 rintro e w2 ⟨rfl, hO, hB2⟩
 have HO := vv (hO.rd HR.out.len.symm (Nat.le_refl _) HR.out.sm)
 have HB2 := vn HB1 hB2
 have c1' := (HB2.out.cell (p := ⟨gx, 1, none⟩) hlx).trans c1
 have hlx2 : gx < w2.heap.size := Nat.lt_of_lt_of_le hlx HB2.out.size
 clear hO hB2
 go_wp2_with fail
 refine (copied _ _ _ _ _ (HA.out.below HB2.out rfl)).mono ?_
 rintro e w3 ⟨rfl, hO3, hB3⟩
 have HO3 := vv ((hO3.rd HA.out.len.symm (Nat.le_refl _) HA.out.sm).den HL.out.2.2 (fun a e => by cases e; rfl))
 have HO2 := vv (HO.out.below hB3 rfl)
 have HB3 := vn HB2 hB3
 clear hO3 hB3
 go_wp2_with fail
 refine (set_of g 0 v (ld N d : Nat) _ _ m m (ld N d) _ (HV.out.below HB3.out) HO2.out (fun a e => by cases e; rfl) rfl (sg_pos (by omega))).mono ?_
 rintro e w4 hP
 have hP := hP.f (HV.out.below HB3.out)
 have HN4 := vv ((HH.out.below HB3.out).num hP)
 have HF := vv (hP.2.2.after HB3.out)
 have HO4 := vv (HO3.out.fs hP.2.2)
 obtain ⟨rfl, -, -⟩ := hP
 obtain ⟨hi, x, hx⟩ := HN4.out
 have hlt1 := hi.lt
 have hfz := hi.fz 2
 have HI := vv hi
 have HXc := vv hx
 clear hi
 go_wp2
 go_ret
 exact ⟨rfl, RatAt.made HI.out ⟨x, HXc.out⟩ HO4.out HN.out HL.out.2.2 HL.out.1 HL.out.2.1, fs3 (HF.out.trans (Fs.set2 HI.out _))⟩
theorem times_zero (g : Nat) (s : Bool) (A D B C : Option Addr) (na ca nd cd nb cb nc cc a d b c : Nat) (w : World) (h : RatSh w g) (ha : Rd w A na ca (toL a)) (hb : Rd w B nb cb (toL b)) (hd0 : 0 < d) (hc0 : 0 < c)
  (h0 : a = 0 \/ 0 < a /\ b = 0) (hst : Std w) :
  Calls Tryz.prog 79 #[.pointer (some ⟨g, 0, none⟩), .bool s, .slice A na ca, .slice D nd cd, .slice B nb cb, .slice C nc cc] w (RatF g (sg s (a * b)) (d * c) w) := by
 have hna := ha.words
 have hnb := hb.words
 have hsa := ha.sm
 have hsb := hb.sm
 have HE : Hid (sg s (a * b) = 0) := vv (by have : a * b = 0 := (by rcases h0 with h | h <;> simp [h]); rw [this]; cases s <;> rfl)
 have HM := vv (Nat.mul_pos hd0 hc0)
 have HS : Hid (Calls Tryz.prog 125 #[.pointer (some ⟨g, 0, none⟩), .bool false, .slice none 0 0, .slice (some ⟨w.heap.size, 0, none⟩) 1 1] (w.alloc (.cells #[.int .u32 1] 34)) (RatF g (sg s (a * b)) (d * c) w)) := by
  have hB : Below w.heap.size w (w.alloc (.cells #[.int .u32 1] 34)) := (Below.refl _ _).alloc (Nat.le_refl _) _
  have hO : Own (w.alloc (.cells #[.int .u32 1] 34)) w.heap.size 34 [1] := Own.lit _ (Lim_cons.2 ⟨by omega, Lim_nil⟩) (by simp [u32s])
  refine vv ((Rset g false none (some ⟨w.heap.size, 0, none⟩) 0 0 1 1 [] [1] _ (h.below hB) (Rd.nil _) (hO.rd rfl (Nat.le_refl _) (by omega)) (by decide) (fun a e => by cases e) (fun a e => by cases e; rfl) (hst.fs (Fs.of_nil hB)) (by omega) (by omega)).mono ?_)
  rintro e w' ⟨he, hR, hF⟩
  refine ⟨he, ?_, hF.after hB⟩
  rw [HE.out]
  exact hR.cross HM.out (by simp [sg, val])
 clear ha hb hd0 hc0 hst h
 rcases h0 with rfl | ⟨ha, rfl⟩
 ·obtain rfl : na = 0 := hna.symm
  clear hna hnb
  go_enter Tryz.func79, Tryz.ntmps79
  go_wp2_with fail
  refine HS.out.mono ?_
  rintro e w1 ⟨rfl, hR, hF⟩
  have HR := vv hR
  go_wp2
  go_ret
  exact ⟨rfl, HR.out, hF⟩
 ·obtain rfl : nb = 0 := hnb.symm
  have t0 : ((na : Int) == 0) = false := by
   have := words_eq_zero (n := a); simp; omega
  clear hna hnb ha
  go_enter Tryz.func79, Tryz.ntmps79
  go_wp2_with fail
  refine HS.out.mono ?_
  rintro e w1 ⟨rfl, hR, hF⟩
  have HR := vv hR
  go_wp2
  go_ret
  exact ⟨rfl, HR.out, hF⟩
set_option maxHeartbeats 400000 in
theorem times_pos (g : Nat) (s : Bool) (A D B C : Option Addr) (na ca nd cd nb cb nc cc a d b c : Nat) (w : World) (h : RatSh w g) (ha : Rd w A na ca (toL a)) (hd : Rd w D nd cd (toL d)) (hb : Rd w B nb cb (toL b)) (hc : Rd w C nc cc (toL c)) (hd0 : 0 < d) (hc0 : 0 < c)
  (had : Nat.gcd a d = 1) (hbc : Nat.gcd b c = 1) (ha0 : 0 < a) (hb0 : 0 < b) (hst : Std w) (sa : Sz a) (sd : Sz d) (sb : Sz b) (sc : Sz c) :
  Calls Tryz.prog 79 #[.pointer (some ⟨g, 0, none⟩), .bool s, .slice A na ca, .slice D nd cd, .slice B nb cb, .slice C nc cc] w (RatF g (sg s (a * b)) (d * c) w) := by
 have hna := ha.words
 have hnb := hb.words
 have hsa := ha.sz sa
 have hsb := hb.sz sb
 have hsc := hc.sz sc
 have hsd := hd.sz sd
 have t0 : ((na : Int) == 0) = false := by
  have := words_eq_zero (n := a); simp; omega
 have t1 : ((nb : Int) == 0) = false := by
  have := words_eq_zero (n := b); simp; omega
 have HML := vv (mul_low hd0 hc0 had hbc ha0 hb0)
 have HG := vv (gcd_pos_of (n := a) hc0)
 have HG2 := vv (gcd_pos_of (n := b) hd0)
 have HM := vv (Nat.mul_pos hd0 hc0)
 have HD0 : Hid (0 < d / Nat.gcd b d * (c / Nat.gcd a c)) := vv (Nat.mul_pos (Nat.div_pos (Nat.le_of_dvd hd0 (Nat.gcd_dvd_right _ _)) HG2.out) (Nat.div_pos (Nat.le_of_dvd hc0 (Nat.gcd_dvd_right _ _)) HG.out))
 have HST := vv hst
 have HH := vv h
 obtain ⟨v, hv⟩ := h.int
 have HV := vv hv
 have HA := vv ha
 have HB := vv hb
 have HC := vv hc
 have HD := vv hd
 clear h ha hb hc hd hd0 hc0 had hbc ha0 hb0 hst hv hna hnb sa sb sc sd
 go_enter Tryz.func79, Tryz.ntmps79
 go_wp2_with fail
 refine (common A C na nc ca cc a c w HA.out HC.out HST.out (by omega) (by omega)).mono ?_
 rintro e w1 ⟨G1, g1, k1, rfl, hG1, hF1, hB1⟩
 have HB1 := vv hB1
 have HG1 := vv hG1
 clear hG1 hB1
 go_wp2_with fail
 refine (common B D nb nd cb cd b d _ (HB.out.below HB1.out rfl) (HD.out.below HB1.out rfl) (HST.out.fs (Fs.of_nil HB1.out)) (by omega) (by omega)).mono ?_
 rintro e w2 ⟨G2, g2, k2, rfl, hG2, hF2, hB2⟩
 have HB2 := vn HB1 hB2
 have HG1 := vv (HG1.out.below hB2 rfl)
 have HG2' := vv hG2
 clear hG2 hB2
 go_wp2_with fail
 refine (by_ A G1 na g1 ca k1 a _ _ (HA.out.below HB2.out rfl) HG1.out HG.out (by omega)).mono ?_
 rintro e w3 ⟨A3, n3, c3, rfl, hQ3, -, hB3⟩
 have HB3 := vn HB2 hB3
 have HG1 := vv (HG1.out.below hB3 rfl)
 have HG2' := vv (HG2'.out.below hB3 rfl)
 have hs3 := hQ3.le_of HA.out (Nat.div_le_self _ _)
 have HQ3 := vv hQ3
 clear hQ3 hB3
 go_wp2_with fail
 refine (by_ B G2 nb g2 cb k2 b _ _ (HB.out.below HB3.out rfl) HG2'.out HG2.out (by omega)).mono ?_
 rintro e w4 ⟨A4, n4, c4, rfl, hQ4, -, hB4⟩
 have HB4 := vn HB3 hB4
 have HG1 := vv (HG1.out.below hB4 rfl)
 have HG2' := vv (HG2'.out.below hB4 rfl)
 have HQ3 := vv (HQ3.out.below hB4 rfl)
 have hs4 := hQ4.le_of HB.out (Nat.div_le_self _ _)
 have HQ4 := vv hQ4
 clear hQ4 hB4
 go_wp2_with fail
 refine (mulWords A3 A4 n3 n4 c3 c4 _ _ _ HQ3.out HQ4.out (by omega)).mono ?_
 rintro e w5 hP
 obtain ⟨A5, n5, c5, rfl, hQ5, hF5, hB5⟩ := hP.val2
 have HB5 := vn HB4 hB5
 have HG1 := vv (HG1.out.below hB5 rfl)
 have HG2' := vv (HG2'.out.below hB5 rfl)
 have HQ5 := vv hQ5
 clear hQ5 hB5 hP HQ3 HQ4
 go_wp2_with fail
 refine (by_ D G2 nd g2 cd k2 d _ _ (HD.out.below HB5.out rfl) HG2'.out HG2.out (by omega)).mono ?_
 rintro e w6 ⟨A6, n6, c6, rfl, hQ6, -, hB6⟩
 have HB6 := vn HB5 hB6
 have HG1 := vv (HG1.out.below hB6 rfl)
 have HQ5 := vv (HQ5.out.below hB6 rfl)
 have hs6 := hQ6.le_of HD.out (Nat.div_le_self _ _)
 have HQ6 := vv hQ6
 clear hQ6 hB6
 go_wp2_with fail
 refine (by_ C G1 nc g1 cc k1 c _ _ (HC.out.below HB6.out rfl) HG1.out HG.out (by omega)).mono ?_
 rintro e w7 ⟨A7, n7, c7, rfl, hQ7, -, hB7⟩
 have HB7 := vn HB6 hB7
 have HQ5 := vv (HQ5.out.below hB7 rfl)
 have HQ6 := vv (HQ6.out.below hB7 rfl)
 have hs7 := hQ7.le_of HC.out (Nat.div_le_self _ _)
 have HQ7 := vv hQ7
 clear hQ7 hB7
 go_wp2_with fail
 refine (mulWords A6 A7 n6 n7 c6 c7 _ _ _ HQ6.out HQ7.out (by omega)).mono ?_
 rintro e w8 hP
 obtain ⟨A8, n8, c8, rfl, hQ8, hF8, hB8⟩ := hP.val2
 have HB8 := vn HB7 hB8
 have HQ5 := vv (HQ5.out.below hB8 rfl)
 have HQ8 := vv (hQ8.den HD0.out (fun a e => (hF8 a e).2))
 clear hQ8 hB8 hP HQ6 HQ7
 go_wp2_with fail
 refine (set_of g 0 v (sg s (a / Nat.gcd a c * (b / Nat.gcd b d))) _ A5 n5 c5 _ _ (HV.out.below HB8.out) HQ5.out (fun a e => (hF5 a e).2) (sg_abs _ _) (sg_neg' _ _)).mono ?_
 rintro e w9 hP
 have hP := hP.f (HV.out.below HB8.out)
 have HN := vv ((HH.out.below HB8.out).num hP)
 have HF := vv (hP.2.2.after HB8.out)
 have HQ8 := vv (HQ8.out.fs hP.2.2)
 obtain ⟨rfl, -, -⟩ := hP
 obtain ⟨hi, x, hx⟩ := HN.out
 have hlt1 := hi.lt
 have hfz := hi.fz 2
 have HI := vv hi
 have HXc := vv hx
 clear hi
 go_wp2
 go_ret
 refine ⟨rfl, RatAt.made HI.out ⟨x, HXc.out⟩ HQ8.out HM.out HD0.out (by rw [sg_abs]; exact HML.out.1) ?_, fs3 (HF.out.trans (Fs.set2 HI.out _))⟩
 have := congrArg (Nat.cast : Nat -> Int) HML.out.2
 rw [Int.natCast_mul, Int.natCast_mul (a * b)] at this
 cases s
 ·exact this
 ·show -((a / Nat.gcd a c * (b / Nat.gcd b d) : Nat) : Int) * _ = -((a * b : Nat) : Int) * _
  rw [Int.neg_mul, Int.neg_mul, this]
theorem times (g : Nat) (s : Bool) (A D B C : Option Addr) (na ca nd cd nb cb nc cc a d b c : Nat) (w : World) (h : RatSh w g) (ha : Rd w A na ca (toL a)) (hd : Rd w D nd cd (toL d)) (hb : Rd w B nb cb (toL b)) (hc : Rd w C nc cc (toL c)) (hd0 : 0 < d) (hc0 : 0 < c)
  (had : Nat.gcd a d = 1) (hbc : Nat.gcd b c = 1) (hst : Std w) (sa : Sz a) (sd : Sz d) (sb : Sz b) (sc : Sz c) :
  Calls Tryz.prog 79 #[.pointer (some ⟨g, 0, none⟩), .bool s, .slice A na ca, .slice D nd cd, .slice B nb cb, .slice C nc cc] w (RatF g (sg s (a * b)) (d * c) w) := by
 rcases Nat.eq_zero_or_pos a with h0 | h0
 ·exact times_zero g s A D B C na ca nd cd nb cb nc cc a d b c w h ha hb hd0 hc0 (.inl h0) hst
 rcases Nat.eq_zero_or_pos b with h1 | h1
 ·exact times_zero g s A D B C na ca nd cd nb cb nc cc a d b c w h ha hb hd0 hc0 (.inr ⟨h0, h1⟩) hst
 exact times_pos g s A D B C na ca nd cd nb cb nc cc a d b c w h ha hd hb hc hd0 hc0 had hbc h0 h1 hst sa sd sb sc
set_option maxRecDepth 100000 in
theorem MulR (g gx gy : Nat) (p q : Int) (d e' : Nat) (w : World) (h : RatSh w g) (hx : RatAt w gx p d) (hy : RatAt w gy q e') (hst : Std w) (sp : Sz p.natAbs) (sd : Sz d) (sq : Sz q.natAbs) (se : Sz e') :
  Calls Tryz.prog 43 #[.pointer (some ⟨g, 0, none⟩), .pointer (some ⟨gx, 0, none⟩), .pointer (some ⟨gy, 0, none⟩)] w (RatF g (p * q) (d * e') w) := by
 have hlx := hx.lt
 have hly := hy.lt
 have HX := vv hx
 have HY := vv hy
 have HH := vv h
 have HST := vv hst
 have HP := vv sp
 have HQ := vv sq
 have HD := vv sd
 have HE := vv se
 obtain ⟨A, n, c, h0, h1, hr, hz⟩ := hx.num.ex
 obtain ⟨B, m, c', k0, k1, hs, hz'⟩ := hy.num.ex
 have HA := vv hr
 have HB := vv hs
 clear h hx hy hst sp sd sq se hr hs hz hz'
 have fin : ∀ (s : Bool) w2 A' n' c2 B' m' c3, (decide (lp p d < 0) != decide (lp q e' < 0)) = s -> Below w.heap.size w w2 -> Rd w2 A' n' c2 (toL (ld p d)) -> Rd w2 B' m' c3 (toL (ld q e')) ->
   Calls Tryz.prog 79 #[.pointer (some ⟨g, 0, none⟩), .bool s, .slice A n c, .slice A' n' c2, .slice B m c', .slice B' m' c3] w2 (RatF g (p * q) (d * e') w) := by
  intro s w2 A' n' c2 B' m' c3 hs hbb ha hb
  refine (times g s A A' B B' n c n' c2 m c' m' c3 _ _ _ _ w2 (HH.out.below hbb) (HA.out.below hbb rfl) ha (HB.out.below hbb rfl) hb (ld_pos HX.out.pos) (ld_pos HY.out.pos) (lp_cop HX.out.pos) (lp_cop HY.out.pos) (HST.out.fs (Fs.of_nil hbb)) (HP.out.mono (lp_le _ _)) (HD.out.mono (ld_le _ _)) (HQ.out.mono (lp_le _ _)) (HE.out.mono (ld_le _ _))).mono ?_
  rintro e w' ⟨he, hR, hF⟩
  refine ⟨he, hR.cross (Nat.mul_pos HX.out.pos HY.out.pos) ?_, hF.after hbb⟩
  have e0 : sg s ((lp p d).natAbs * (lp q e').natAbs) = lp p d * lp q e' := by
   have e1 := sg_of (lp p d * lp q e')
   rw [sg_mul, hs, Int.natAbs_mul] at e1
   conv => rhs; rw [<- e1]
   by_cases hz : 0 < (lp p d).natAbs * (lp q e').natAbs
   ·rw [decide_eq_true hz, Bool.and_true]
   ·have : (lp p d).natAbs * (lp q e').natAbs = 0 := by omega
    rw [this]; cases s <;> rfl
  rw [e0]
  have c1 := lp_cross p d
  have c2 := lp_cross q e'
  simp only [Int.natCast_mul]
  calc lp p d * lp q e' * (↑d * ↑e') = (lp p d * d) * (lp q e' * e') := by grind
   _ = (p * ld p d) * (q * ld q e') := by rw [c1, c2]
   _ = _ := by grind
 have Fin := vv fin
 clear fin
 go_enter Tryz.func43, Tryz.ntmps43
 go_wp2_with fail
 refine wp_region_sch (fun w' => w'.cell? ⟨gx, 0, none⟩ = some (.bool (decide (lp p d < 0))) /\ w'.cell? ⟨gx, 1, none⟩ = some (.slice A n c) /\ w'.cell? ⟨gy, 0, none⟩ = some (.bool (decide (lp q e' < 0))) /\ w'.cell? ⟨gy, 1, none⟩ = some (.slice B m c')) 26
  (.still 0 (.still 1 (.still 2 (.still 3 (.still 4 (.still 5 (.still 6 (.still 7 (.still 8 (.still 9 (.still 10 (.still 11 (.still 12 (.still 13 (.still 14 (.still 15 (.still 16 (.still 17 (.still 19 (.still 20 (.still 21 (.still 22 (.still 23 (.still 24 (.one 18 (.one 25 .done)))))))))))))))))))))))))) (by kernel_rfl) (by kernel_rfl) (fun _ _ d _ _ h => by cases d <;> exact h) ⟨h0, h1, k0, k1⟩ (fun hS0 => ?_)
 iterate 24
  refine sch_still (v := ?_) rfl (by rfl) ?_ ?_
  rotate_left
  ·intro w hSw; go_simp; with_reducible rfl
  simp only [Act.put, List.setIfInBounds_toArray, List.set_cons_zero, List.set_cons_succ]
 refine sch_one rfl (by rfl) (fun K hK => ?_)
 go_simp
 refine (below gx _ _ _ HX.out.drew).mono ?_
 rintro e w1 ⟨A1, n1, c1, rfl, hR1, hz1, hB1⟩
 have HR1 := vv hR1
 have HB1 : Hid (Below w.heap.size w w1) := vv ⟨hB1.os, hB1.tape, hB1.output, hB1.size, hB1.block⟩
 clear hR1 hB1
 go_wp2_with fail
 refine hK.out _ _ ⟨(HB1.out.cell (p := ⟨gx, 0, none⟩) hlx).trans h0, (HB1.out.cell (p := ⟨gx, 1, none⟩) hlx).trans h1, (HB1.out.cell (p := ⟨gy, 0, none⟩) hly).trans k0, (HB1.out.cell (p := ⟨gy, 1, none⟩) hly).trans k1⟩ (fun hHeld => ?_)
 clear hK
 refine sch_one rfl (by rfl) (fun K hK => ?_)
 go_simp
 refine (below gy _ _ _ (HY.out.below HB1.out)).mono ?_
 rintro e w2 ⟨A2, n2, c2, rfl, hR2, hz2, hB2⟩
 have HR2 := vv hR2
 have HR1 := vv (HR1.out.below hB2 rfl)
 have HBB := vn HB1 hB2
 clear hR2 hB2
 go_wp2_with fail
 refine hK.out _ _ ⟨(HBB.out.cell (p := ⟨gx, 0, none⟩) hlx).trans h0, (HBB.out.cell (p := ⟨gx, 1, none⟩) hlx).trans h1, (HBB.out.cell (p := ⟨gy, 0, none⟩) hly).trans k0, (HBB.out.cell (p := ⟨gy, 1, none⟩) hly).trans k1⟩ (fun hHeld => ?_)
 clear hK
 refine sch_done ?_
 go_wp2_with fail
 refine (Fin.out _ w2 A1 n1 c1 A2 n2 c2 rfl HBB.out HR1.out HR2.out).mono ?_
 rintro e w3 ⟨rfl, hR, hF⟩
 have HR := vv hR
 go_wp2
 go_ret
 exact ⟨rfl, HR.out, hF⟩
set_option maxRecDepth 100000 in
theorem QuoR (g gx gy : Nat) (p : Int) (N d e' : Nat) (w : World) (h : RatSh w g) (hx : RatAt w gx p d) (hy : RatAt w gy (N : Int) e') (hN : 0 < N) (hst : Std w) (sp : Sz p.natAbs) (sd : Sz d) (sq : Sz N) (se : Sz e') :
  Calls Tryz.prog 120 #[.pointer (some ⟨g, 0, none⟩), .pointer (some ⟨gx, 0, none⟩), .pointer (some ⟨gy, 0, none⟩)] w (RatF g (p * e') (d * N) w) := by
 have hlx := hx.lt
 have hly := hy.lt
 have HX := vv hx
 have HY := vv hy
 have HH := vv h
 have HST := vv hst
 have HP := vv sp
 have HQ := vv sq
 have HD := vv sd
 have HE := vv se
 have HN := vv hN
 have HI := vv (inv_low hN hy.pos)
 obtain ⟨A, n, c, h0, h1, hr, hz⟩ := hx.num.ex
 obtain ⟨B, m, c', k0, k1, hs, hz'⟩ := hy.num.ex
 have hneg := lp_neg (p := (N : Int)) hy.pos
 rw [decide_eq_false (by omega)] at k0
 have HA := vv hr
 have HB := vv hs
 clear h hx hy hst sp sd sq se hr hs hz hz' hneg hN
 have fin : ∀ w2 A' n' c2 B' m' c3, Below w.heap.size w w2 -> Rd w2 A' n' c2 (toL (ld p d)) -> Rd w2 B' m' c3 (toL (ld N e')) ->
   Calls Tryz.prog 79 #[.pointer (some ⟨g, 0, none⟩), .bool (decide (lp p d < 0)), .slice A n c, .slice A' n' c2, .slice B' m' c3, .slice B m c'] w2 (RatF g (p * e') (d * N) w) := by
  intro w2 A' n' c2 B' m' c3 hbb ha hb
  refine (times g _ A A' B' B n c n' c2 m' c3 m c' _ _ _ _ w2 (HH.out.below hbb) (HA.out.below hbb rfl) ha hb (HB.out.below hbb rfl) (ld_pos HX.out.pos) HI.out.2.2 (lp_cop HX.out.pos) HI.out.1 (HST.out.fs (Fs.of_nil hbb)) (HP.out.mono (lp_le _ _)) (HD.out.mono (ld_le _ _)) (HE.out.mono (ld_le _ _)) (HQ.out.mono (lp_le _ _))).mono ?_
  rintro e w' ⟨he, hR, hF⟩
  refine ⟨he, hR.cross (Nat.mul_pos HX.out.pos HN.out) ?_, hF.after hbb⟩
  have e0 : sg (decide (lp p d < 0)) ((lp p d).natAbs * ld N e') = lp p d * (ld N e' : Nat) := by
   have e1 := sg_of (lp p d)
   conv => rhs; rw [<- e1]
   cases decide (lp p d < 0)
   ·show (((lp p d).natAbs * ld N e' : Nat) : Int) = ((lp p d).natAbs : Int) * _
    rw [Int.natCast_mul]
   ·show -(((lp p d).natAbs * ld N e' : Nat) : Int) = -((lp p d).natAbs : Int) * _
    rw [Int.natCast_mul, Int.neg_mul]
  rw [e0]
  have c1 := lp_cross p d
  have c2 := HI.out.2.1
  simp only [Int.natCast_mul]
  calc lp p d * ↑(ld (↑N) e') * (↑d * ↑N) = (lp p d * d) * (↑(ld (↑N) e') * ↑N) := by grind
   _ = (p * ld p d) * (↑e' * ↑(lp (↑N) e').natAbs) := by rw [c1, c2]
   _ = _ := by grind
 have Fin := vv fin
 clear fin
 go_enter Tryz.func120, Tryz.ntmps120
 go_wp2_with fail
 refine wp_region_sch (fun w' => w'.cell? ⟨gx, 0, none⟩ = some (.bool (decide (lp p d < 0))) /\ w'.cell? ⟨gx, 1, none⟩ = some (.slice A n c) /\ w'.cell? ⟨gy, 0, none⟩ = some (.bool false) /\ w'.cell? ⟨gy, 1, none⟩ = some (.slice B m c')) 26
  (.still 0 (.still 1 (.still 2 (.still 3 (.still 4 (.still 5 (.still 6 (.still 7 (.still 8 (.still 9 (.still 10 (.still 11 (.still 12 (.still 13 (.still 14 (.still 15 (.still 16 (.still 17 (.still 19 (.still 21 (.still 22 (.still 23 (.still 24 (.still 25 (.one 18 (.one 20 .done)))))))))))))))))))))))))) (by kernel_rfl) (by kernel_rfl) (fun _ _ d _ _ h => by cases d <;> exact h) ⟨h0, h1, k0, k1⟩ (fun hS0 => ?_)
 iterate 24
  refine sch_still (v := ?_) rfl (by rfl) ?_ ?_
  rotate_left
  ·intro w hSw; go_simp; with_reducible rfl
  simp only [Act.put, List.setIfInBounds_toArray, List.set_cons_zero, List.set_cons_succ]
 refine sch_one rfl (by rfl) (fun K hK => ?_)
 go_simp
 refine (below gx _ _ _ HX.out.drew).mono ?_
 rintro e w1 ⟨A1, n1, c1, rfl, hR1, hz1, hB1⟩
 have HR1 := vv hR1
 have HB1 : Hid (Below w.heap.size w w1) := vv ⟨hB1.os, hB1.tape, hB1.output, hB1.size, hB1.block⟩
 clear hR1 hB1
 go_wp2_with fail
 refine hK.out _ _ ⟨(HB1.out.cell (p := ⟨gx, 0, none⟩) hlx).trans h0, (HB1.out.cell (p := ⟨gx, 1, none⟩) hlx).trans h1, (HB1.out.cell (p := ⟨gy, 0, none⟩) hly).trans k0, (HB1.out.cell (p := ⟨gy, 1, none⟩) hly).trans k1⟩ (fun hHeld => ?_)
 clear hK
 refine sch_one rfl (by rfl) (fun K hK => ?_)
 go_simp
 refine (below gy _ _ _ (HY.out.below HB1.out)).mono ?_
 rintro e w2 ⟨A2, n2, c2, rfl, hR2, hz2, hB2⟩
 have HR2 := vv hR2
 have HR1 := vv (HR1.out.below hB2 rfl)
 have HBB := vn HB1 hB2
 clear hR2 hB2
 go_wp2_with fail
 refine hK.out _ _ ⟨(HBB.out.cell (p := ⟨gx, 0, none⟩) hlx).trans h0, (HBB.out.cell (p := ⟨gx, 1, none⟩) hlx).trans h1, (HBB.out.cell (p := ⟨gy, 0, none⟩) hly).trans k0, (HBB.out.cell (p := ⟨gy, 1, none⟩) hly).trans k1⟩ (fun hHeld => ?_)
 clear hK
 refine sch_done ?_
 go_wp2_with fail
 refine (Fin.out w2 A1 n1 c1 A2 n2 c2 HBB.out HR1.out HR2.out).mono ?_
 rintro e w3 ⟨rfl, hR, hF⟩
 have HR := vv hR
 go_wp2
 go_ret
 exact ⟨rfl, HR.out, hF⟩
set_option maxRecDepth 100000 in
set_option maxHeartbeats 1000000 in
theorem sub_ (g gx gy : Nat) (m n : Int) (P Q : Nat) (w : World) (h : RatSh w g) (hx : RatAt w gx m P) (hy : RatAt w gy n Q) (hm : Nat.gcd m.natAbs P = 1) (hn : Nat.gcd n.natAbs Q = 1) (hst : Std w) (sp : Sm m.natAbs) (sd : Sm P) (sq : Sm n.natAbs) (se : Sm Q) :
  Calls Tryz.prog 194 #[.pointer (some ⟨g, 0, none⟩), .pointer (some ⟨gx, 0, none⟩), .pointer (some ⟨gy, 0, none⟩), .bool true] w (RatF g (m * Q - n * P) (P * Q) w) := by
 have hlx := hx.lt
 have hly := hy.lt
 have HX := vv hx
 have HY := vv hy
 have HH := vv h
 have HST := vv hst
 have HM := vv hm
 have HN := vv hn
 obtain ⟨lx1, lx2⟩ := low_self hx.pos hm
 obtain ⟨ly1, ly2⟩ := low_self hy.pos hn
 have HP0 := vv hx.pos
 have HQ0 := vv hy.pos
 have HG0 := vv (gcd_pos_of (n := P) hy.pos)
 have HL := vv fun s hs => add_low' (m := m) (n := -n) (s := s) hx.pos hy.pos hm (by rw [Int.natAbs_neg]; exact hn) hs
 have hxn := hx.num
 have hyn := hy.num
 rw [lx1] at hxn
 rw [ly1] at hyn
 obtain ⟨A, na, ca, h0, h1, hr, hz⟩ := hxn.ex
 obtain ⟨B, nb, cb, k0, k1, hs, hz'⟩ := hyn.ex
 have HA := vv hr
 have HB := vv hs
 have hna := hr.sz sp.sz
 have hnb := hs.sz sq.sz
 have HBx := vv (below gx m P w hx)
 have HBy := vv fun w' (hb : Below w.heap.size w w') => below gy n Q w' (hy.below hb)
 rw [lx2] at HBx
 rw [ly2] at HBy
 have HSP := vv sd.sz
 have HSQ := vv se.sz
 have HSs : Hid (Sz (m * (Q / Nat.gcd P Q : Nat)).natAbs /\ Sz (-n * (P / Nat.gcd P Q : Nat)).natAbs /\ Sz (m * (Q / Nat.gcd P Q : Nat) + -n * (P / Nat.gcd P Q : Nat)).natAbs) := by
  have a1 : (m * (Q / Nat.gcd P Q : Nat)).natAbs <= m.natAbs * Q := by rw [Int.natAbs_mul, Int.natAbs_natCast]; exact Nat.mul_le_mul_left _ (Nat.div_le_self _ _)
  have a2 : (-n * (P / Nat.gcd P Q : Nat)).natAbs <= n.natAbs * P := by rw [Int.natAbs_mul, Int.natAbs_natCast, Int.natAbs_neg]; exact Nat.mul_le_mul_left _ (Nat.div_le_self _ _)
  refine vv ⟨(sp.mul se).mono a1, (sq.mul sd).mono a2, ?_⟩
  have a3 := Int.natAbs_add_le (m * (Q / Nat.gcd P Q : Nat)) (-n * (P / Nat.gcd P Q : Nat))
  refine Sz.mono (b := m.natAbs * Q + n.natAbs * P) ?_ (by omega)
  have b1 := bl_mul_le m.natAbs Q
  have b2 := bl_mul_le n.natAbs P
  have b3 := bl_add_le (m.natAbs * Q) (n.natAbs * P)
  unfold Sm at sp sd sq se
  unfold Sz
  omega
 obtain ⟨v, hv⟩ := h.int
 have HV := vv hv
 clear h hx hy hst sp sd sq se hr hs hz hz' hm hn lx1 lx2 ly1 ly2 hxn hyn hv
 go_enter Tryz.func194, Tryz.ntmps194
 go_wp2_with fail
 refine HBx.out.mono ?_
 rintro e w1 ⟨A1, n1, c1, rfl, hR1, hz1, hB1⟩
 have hn1 := hR1.sz HSP.out
 have HR1 := vv hR1
 have HB1 := vv hB1
 have HZ1 := vv hz1
 clear hR1 hB1 hz1
 go_wp2_with fail
 refine (HBy.out _ HB1.out).mono ?_
 rintro e w2 ⟨A2, n2, c2, rfl, hR2, hz2, hB2⟩
 have hn2 := hR2.sz HSQ.out
 have HR2 := vv hR2
 have HR1 := vv (HR1.out.below hB2 rfl)
 have HB2 := vn HB1 hB2
 have HZ2 := vv hz2
 clear hR2 hB2 hz2
 go_wp2_with fail
 refine (common A1 A2 n1 n2 c1 c2 P Q w2 HR1.out HR2.out (HST.out.fs (Fs.of_nil HB2.out)) (by omega) (by omega)).mono ?_
 rintro e w3 ⟨G, n3, c3, rfl, hG, hFG, hB3⟩
 have hn3 := hG.le_of HR1.out (Nat.gcd_le_left _ HP0.out)
 have HFG : Hid (∀ a, G = some a -> a.off = 0) := vv fun a e => (hFG a e).2
 have HG := vv hG
 have HR1 := vv (HR1.out.below hB3 rfl)
 have HR2 := vv (HR2.out.below hB3 rfl)
 have HB3 := vn HB2 hB3
 have hs3 := HB3.out.size
 clear hG hB3 hFG
 obtain ⟨o, ho⟩ : ∃ o : Obj, o = .cells #[.bool false, .slice none 0 0] 78 := ⟨_, rfl⟩
 have hBa : Below w3.heap.size w3 (w3.alloc o) := (Below.refl _ w3).alloc (Nat.le_refl _) _
 have hBb : Below (w3.alloc o).heap.size (w3.alloc o) ((w3.alloc o).alloc o) := (Below.refl _ (w3.alloc o)).alloc (Nat.le_refl _) _
 have hsz : (w3.alloc o).heap.size = w3.heap.size + 1 := by simp
 have hZa : IntAt (w3.alloc o) w3.heap.size 0 0 := by rw [ho]; exact IntAt.zero w3 _
 have hZb : IntAt ((w3.alloc o).alloc o) (w3.heap.size + 1) 0 0 := by rw [<- hsz, ho]; exact IntAt.zero _ _
 obtain ⟨wx, hwx⟩ := yx ((w3.alloc o).alloc o)
 have hBab : Below w3.heap.size w3 wx := by rw [hwx]; exact hBa.trans (hBb.mono hBa.size)
 have HZa := vv (hZa.below hBb)
 have HZb := vv hZb
 rw [<- hwx] at HZa HZb
 have HR1 := vv (HR1.out.below hBab rfl)
 have HR2 := vv (HR2.out.below hBab rfl)
 have HG := vv (HG.out.below hBab rfl)
 have HBx := vn HB3 hBab
 have hsx : wx.heap.size = w3.heap.size + 1 + 1 := by rw [hwx]; simp
 have HWX := vv hwx
 have HO := vv ho
 have HSX := vv hsx
 have a0 := (HBx.out.cell (p := ⟨gx, 0, none⟩) hlx).trans h0
 have a1 := (HBx.out.cell (p := ⟨gx, 1, none⟩) hlx).trans h1
 have b0 := (HBx.out.cell (p := ⟨gy, 0, none⟩) hly).trans k0
 have b1 := (HBx.out.cell (p := ⟨gy, 1, none⟩) hly).trans k1
 have hlx' : gx < wx.heap.size := Nat.lt_of_lt_of_le hlx HBx.out.size
 have hly' : gy < wx.heap.size := Nat.lt_of_lt_of_le hly HBx.out.size
 clear hBa hBb hsz hZa hZb hBab hwx ho hsx
 go_wp2_with fail
 rw [<- HO.out, <- HWX.out]
 refine wp_region_sch (fun w' => w'.cell? ⟨gx, 0, none⟩ = some (.bool (decide (m < 0))) /\ w'.cell? ⟨gx, 1, none⟩ = some (.slice A na ca)) 15
  (.still 0 (.still 1 (.still 2 (.still 3 (.still 4 (.still 5 (.still 6 (.still 7 (.still 8 (.still 9 (.still 10 (.still 11 (.still 12 (.one 13 (.one 14 .done))))))))))))))) (by kernel_rfl) (by kernel_rfl) (fun _ _ d _ _ h => by cases d <;> exact h) ⟨a0, a1⟩ (fun hS0 => ?_)
 iterate 13
  refine sch_still (v := ?_) rfl (by rfl) ?_ ?_
  rotate_left
  ·intro w hSw; go_simp; with_reducible rfl
  simp only [Act.put, List.setIfInBounds_toArray, List.set_cons_zero, List.set_cons_succ]
 refine sch_one rfl (by rfl) (fun K hK => ?_)
 go_simp
 refine (by_ A2 G n2 n3 c2 c3 Q _ _ HR2.out.drew HG.out.drew HG0.out (by omega)).mono ?_
 rintro e w4 ⟨A4, n4, c4, rfl, hQ4, -, hB4⟩
 have hB4 : Below wx.heap.size wx w4 := ⟨hB4.os, hB4.tape, hB4.output, hB4.size, hB4.block⟩
 have hs4 := hQ4.le_of HR2.out (Nat.div_le_self _ _)
 have HQ4 := vv hQ4
 have HR1 := vv (HR1.out.below hB4 rfl)
 have HR2 := vv (HR2.out.below hB4 rfl)
 have HG := vv (HG.out.below hB4 rfl)
 have HZa := vv (HZa.out.below hB4)
 have HZb := vv (HZb.out.below hB4)
 have HB4 := vn HBx hB4
 have a0 := (HB4.out.cell (p := ⟨gx, 0, none⟩) hlx).trans h0
 have a1 := (HB4.out.cell (p := ⟨gx, 1, none⟩) hlx).trans h1
 clear hQ4 hB4
 go_wp2_with fail
 refine hK.out _ _ ⟨a0, a1⟩ (fun hHeld => ?_)
 clear hK
 refine sch_one rfl (by rfl) (fun K hK => ?_)
 go_simp
 refine (mulWords A A4 na n4 ca c4 _ _ _ (HA.out.below HB4.out rfl) HQ4.out (by omega)).mono ?_
 rintro e w5 hP
 obtain ⟨A5, n5, c5, rfl, hQ5, hF5, hB5⟩ := hP.val2
 have HQ5 := vv hQ5
 have HR1 := vv (HR1.out.below hB5 rfl)
 have HR2 := vv (HR2.out.below hB5 rfl)
 have HG := vv (HG.out.below hB5 rfl)
 have HZa := vv (HZa.out.below hB5)
 have HZb := vv (HZb.out.below hB5)
 have HB5 := vn HB4 hB5
 have a0 := (HB5.out.cell (p := ⟨gx, 0, none⟩) hlx).trans h0
 have a1 := (HB5.out.cell (p := ⟨gx, 1, none⟩) hlx).trans h1
 clear hQ5 hB5 hP
 go_wp2_with fail
 refine hK.out _ _ ⟨a0, a1⟩ (fun hHeld => ?_)
 clear hK
 refine sch_done ?_
 go_wp2_with fail
 refine (set_of _ 0 0 (m * (Q / Nat.gcd P Q : Nat)) _ A5 n5 c5 _ _ HZa.out HQ5.out (fun a e => (hF5 a e).2) (by rw [Int.natAbs_mul, Int.natAbs_natCast]) (by rw [sg_mul, Int.natAbs_natCast, decide_eq_false (p := ((Q / Nat.gcd P Q : Nat) : Int) < 0) (Int.not_lt.2 (Int.natCast_nonneg _))]; cases decide (m < 0) <;> rfl)).mono ?_
 rintro e w6 hP
 have hP := hP.f HZa.out
 have HZa := vv hP.2.1
 have HZb := vv (HZb.out.fs1 hP.2.2 (by omega))
 have HR1 := vv (HR1.out.fs HZ1.out hP.2.2)
 have HR2 := vv (HR2.out.fs HZ2.out hP.2.2)
 have HG := vv (HG.out.fs HFG.out hP.2.2)
 have HB6 := vv (hP.below HB5.out HB5.out.size hs3)
 obtain ⟨rfl, -, -⟩ := hP
 have b0 := (HB6.out.cell (p := ⟨gy, 0, none⟩) hly).trans k0
 have b1 := (HB6.out.cell (p := ⟨gy, 1, none⟩) hly).trans k1
 have hly' : gy < w6.heap.size := Nat.lt_of_lt_of_le hly HB6.out.size
 go_wp2_with fail
 refine wp_region_sch (fun w' => w'.cell? ⟨gy, 0, none⟩ = some (.bool (decide (n < 0))) /\ w'.cell? ⟨gy, 1, none⟩ = some (.slice B nb cb)) 17
  (.still 0 (.still 1 (.still 2 (.still 3 (.still 4 (.still 5 (.still 6 (.still 7 (.still 8 (.still 9 (.still 10 (.still 11 (.still 12 (.still 13 (.still 14 (.one 15 (.one 16 .done))))))))))))))))) (by kernel_rfl) (by kernel_rfl) (fun _ _ d _ _ h => by cases d <;> exact h) ⟨b0, b1⟩ (fun hS0 => ?_)
 iterate 15
  refine sch_still (v := ?_) rfl (by rfl) ?_ ?_
  rotate_left
  ·intro w hSw; go_simp; with_reducible rfl
  simp only [Act.put, List.setIfInBounds_toArray, List.set_cons_zero, List.set_cons_succ]
 refine sch_one rfl (by rfl) (fun K hK => ?_)
 go_simp
 refine (by_ A1 G n1 n3 c1 c3 P _ _ HR1.out.drew HG.out.drew HG0.out (by omega)).mono ?_
 rintro e w7 ⟨A7, n7, c7, rfl, hQ7, -, hB7⟩
 have hB7 : Below w6.heap.size w6 w7 := ⟨hB7.os, hB7.tape, hB7.output, hB7.size, hB7.block⟩
 have hs7 := hQ7.le_of HR1.out (Nat.div_le_self _ _)
 have HQ7 := vv hQ7
 have HR1 := vv (HR1.out.below hB7 rfl)
 have HR2 := vv (HR2.out.below hB7 rfl)
 have HG := vv (HG.out.below hB7 rfl)
 have HZa := vv (HZa.out.below hB7)
 have HZb := vv (HZb.out.below hB7)
 have HB7 := vn HB6 hB7
 have b0 := (HB7.out.cell (p := ⟨gy, 0, none⟩) hly).trans k0
 have b1 := (HB7.out.cell (p := ⟨gy, 1, none⟩) hly).trans k1
 clear hQ7 hB7
 go_wp2_with fail
 refine hK.out _ _ ⟨b0, b1⟩ (fun hHeld => ?_)
 clear hK
 refine sch_one rfl (by rfl) (fun K hK => ?_)
 go_simp
 refine (mulWords B A7 nb n7 cb c7 _ _ _ (HB.out.below HB7.out rfl) HQ7.out (by omega)).mono ?_
 rintro e w8 hP
 obtain ⟨A8, n8, c8, rfl, hQ8, hF8, hB8⟩ := hP.val2
 have HQ8 := vv hQ8
 have HR1 := vv (HR1.out.below hB8 rfl)
 have HR2 := vv (HR2.out.below hB8 rfl)
 have HG := vv (HG.out.below hB8 rfl)
 have HZa := vv (HZa.out.below hB8)
 have HZb := vv (HZb.out.below hB8)
 have HB8 := vn HB7 hB8
 have b0 := (HB8.out.cell (p := ⟨gy, 0, none⟩) hly).trans k0
 have b1 := (HB8.out.cell (p := ⟨gy, 1, none⟩) hly).trans k1
 clear hQ8 hB8 hP
 go_wp2_with fail
 refine hK.out _ _ ⟨b0, b1⟩ (fun hHeld => ?_)
 clear hK
 refine sch_done ?_
 go_wp2_with fail
 refine (set_of _ 0 0 (-n * (P / Nat.gcd P Q : Nat)) _ A8 n8 c8 _ _ HZb.out HQ8.out (fun a e => (hF8 a e).2) (by rw [Int.natAbs_mul, Int.natAbs_natCast, Int.natAbs_neg]) ?_).mono ?_
 ·rw [Int.neg_mul, sg_neg, sg_mul, Int.natAbs_mul, Int.natAbs_natCast, decide_eq_false (p := ((P / Nat.gcd P Q : Nat) : Int) < 0) (Int.not_lt.2 (Int.natCast_nonneg _))]
  cases decide (n < 0) <;> cases decide (0 < n.natAbs * (P / Nat.gcd P Q)) <;> rfl
 rintro e w9 hP
 have hP := hP.f HZb.out
 have HZb := vv hP.2.1
 have HZa := vv (HZa.out.fs1 hP.2.2 (by omega))
 have HR1 := vv (HR1.out.fs HZ1.out hP.2.2)
 have HR2 := vv (HR2.out.fs HZ2.out hP.2.2)
 have HG := vv (HG.out.fs HFG.out hP.2.2)
 have HB9 := vv (hP.below HB8.out HB8.out.size (by omega))
 obtain ⟨rfl, -, -⟩ := hP
 clear a0 a1 b0 b1
 go_wp2_with fail
 refine (Add _ 0 _ 0 _ 0 _ _ _ _ HZa.out HZa.out HZb.out HSs.out.1 HSs.out.2.1).mono ?_
 rintro e w10 hP
 have hP := hP.f HZa.out
 have HZa := vv hP.2.1
 have HR1 := vv (HR1.out.fs HZ1.out hP.2.2)
 have HR2 := vv (HR2.out.fs HZ2.out hP.2.2)
 have HG := vv (HG.out.fs HFG.out hP.2.2)
 have HB10 := vv (hP.below HB9.out HB9.out.size (by omega))
 obtain ⟨rfl, -, -⟩ := hP
 obtain ⟨s, hs⟩ := yx (m * (Q / Nat.gcd P Q : Nat) + -n * (P / Nat.gcd P Q : Nat))
 have HSs := vv HSs.out.2.2
 have HL := vv (HL.out s hs)
 rw [<- hs] at HZa HSs
 have HS := vv hs
 have hlta := HZa.out.lt
 have hzas := HZa.out
 obtain ⟨AS, ns, cs, s0, s1, hrs, hzs⟩ := hzas.ex
 have hnw := hrs.words
 have hns := hrs.sz HSs.out
 have HRS := vv hrs
 have HZS := vv hzs
 clear hs hrs hzs hzas
 rcases Nat.eq_zero_or_pos ns with hz | hpos
 ·subst hz
  have hs0 : s = 0 := by have := words_eq_zero.1 hnw; omega
  have HF : Hid (m * Q - n * P = 0) := by
   refine vv ?_
   have e1 := HL.out.2
   rw [hs0] at e1
   have hp : (0 : Int) < (P / Nat.gcd P Q * (Q / Nat.gcd (Int.natAbs 0) (Nat.gcd P Q)) : Nat) := by
    have : 0 < P / Nat.gcd P Q * (Q / Nat.gcd (Int.natAbs 0) (Nat.gcd P Q)) := Nat.mul_pos (Nat.div_pos (Nat.le_of_dvd HP0.out (Nat.gcd_dvd_left _ _)) HG0.out) (by rw [Int.natAbs_zero, Nat.gcd_zero_left]; exact Nat.div_pos (Nat.le_of_dvd HQ0.out (Nat.gcd_dvd_right _ _)) HG0.out)
    omega
   simp [sg] at e1
   have := Int.mul_eq_zero.1 e1.symm
   rcases this with h | h
   ·rw [Int.sub_eq_add_neg, <- Int.neg_mul]; exact h
   ·have h' : ((P / Nat.gcd P Q * (Q / Nat.gcd (Int.natAbs 0) (Nat.gcd P Q)) : Nat) : Int) = 0 := by
     rw [Int.natAbs_zero, Nat.gcd_zero_left]
     exact_mod_cast h
    omega
  clear hs0 hnw
  have hB : Below w10.heap.size w10 (w10.alloc (.cells #[.int .u32 1] 34)) := (Below.refl _ _).alloc (Nat.le_refl _) _
  have hO : Own (w10.alloc (.cells #[.int .u32 1] 34)) w10.heap.size 34 [1] := Own.lit _ (Lim_cons.2 ⟨by omega, Lim_nil⟩) (by simp [u32s])
  have HBB := vn HB10 hB
  have HO := vv hO
  clear hB hO
  go_wp2_with fail
  refine (Rset g false none (some ⟨w10.heap.size, 0, none⟩) 0 0 1 1 [] [1] _ (HH.out.below HBB.out) (Rd.nil _) (HO.out.rd rfl (Nat.le_refl _) (by omega)) (by decide) (fun a e => by cases e) (fun a e => by cases e; rfl) (HST.out.fs (Fs.of_nil HBB.out)) (by omega) (by omega)).mono ?_
  rintro e w11 ⟨rfl, hR, hF⟩
  have HR := vv hR
  go_wp2
  go_ret
  refine ⟨rfl, ?_, hF.after HBB.out⟩
  rw [HF.out]
  exact HR.out.cross (Nat.mul_pos HP0.out HQ0.out) (by simp [sg, val])
 ·have ht0 : ((ns : Int) == 0) = false := by simp; omega
  clear hnw
  go_wp2_with fail
  refine (common AS G ns n3 cs c3 _ _ _ HRS.out HG.out (HST.out.fs (Fs.of_nil HB10.out)) (by omega) (by omega)).mono ?_
  rintro e w11 ⟨H, n11, c11, rfl, hHh, hFH, hB11⟩
  have hn11 := hHh.le_of HG.out (Nat.gcd_le_right _ HG0.out)
  have HHg := vv hHh
  have HFH : Hid (∀ a, H = some a -> a.off = 0) := vv fun a e => (hFH a e).2
  have HH0 := vv (gcd_pos_of (n := s.natAbs) HG0.out)
  have HRS := vv (HRS.out.below hB11 rfl)
  have HR1 := vv (HR1.out.below hB11 rfl)
  have HR2 := vv (HR2.out.below hB11 rfl)
  have HG := vv (HG.out.below hB11 rfl)
  have s0 := (hB11.cell (p := ⟨w3.heap.size, 0, none⟩) hlta).trans s0
  have s1 := (hB11.cell (p := ⟨w3.heap.size, 1, none⟩) hlta).trans s1
  have hlta : w3.heap.size < w11.heap.size := Nat.lt_of_lt_of_le hlta hB11.size
  have HB11 := vn HB10 hB11
  clear hHh hFH hB11
  go_wp2_with fail
  refine wp_region_sch (fun w' => w'.cell? ⟨w3.heap.size, 0, none⟩ = some (.bool (decide (s < 0))) /\ w'.cell? ⟨w3.heap.size, 1, none⟩ = some (.slice AS ns cs)) 14
   (.still 0 (.still 1 (.still 2 (.still 3 (.still 4 (.still 5 (.still 6 (.still 7 (.still 8 (.still 9 (.still 10 (.still 11 (.one 12 (.one 13 .done)))))))))))))) (by kernel_rfl) (by kernel_rfl) (fun _ _ d _ _ h => by cases d <;> exact h) ⟨s0, s1⟩ (fun hS0 => ?_)
  iterate 12
   refine sch_still (v := ?_) rfl (by rfl) ?_ ?_
   rotate_left
   ·intro w hSw; go_simp; with_reducible rfl
   simp only [Act.put, List.setIfInBounds_toArray, List.set_cons_zero, List.set_cons_succ]
  refine sch_one rfl (by rfl) (fun K hK => ?_)
  go_simp
  refine (by_ AS H ns n11 cs c11 _ _ _ HRS.out.drew HHg.out.drew HH0.out (by omega)).mono ?_
  rintro e w12 ⟨A12, n12, c12, rfl, hQ12, -, hB12⟩
  have hB12 : Below w11.heap.size w11 w12 := ⟨hB12.os, hB12.tape, hB12.output, hB12.size, hB12.block⟩
  have HQ12 := vv hQ12
  have HR1 := vv (HR1.out.below hB12 rfl)
  have HR2 := vv (HR2.out.below hB12 rfl)
  have HG := vv (HG.out.below hB12 rfl)
  have HHg := vv (HHg.out.below hB12 rfl)
  have s0 := (hB12.cell (p := ⟨w3.heap.size, 0, none⟩) hlta).trans s0
  have s1 := (hB12.cell (p := ⟨w3.heap.size, 1, none⟩) hlta).trans s1
  have hlta : w3.heap.size < w12.heap.size := Nat.lt_of_lt_of_le hlta hB12.size
  have HB12 := vn HB11 hB12
  clear hQ12 hB12
  go_wp2_with fail
  refine hK.out _ _ ⟨s0, s1⟩ (fun hHeld => ?_)
  clear hK
  refine sch_one rfl (by rfl) (fun K hK => ?_)
  go_simp
  refine (copied _ _ _ _ _ HQ12.out).mono ?_
  rintro e w13 ⟨rfl, hO, hB13⟩
  have HO13 := vv (hO.rd HQ12.out.len.symm (Nat.le_refl _) HQ12.out.sm)
  have HR1 := vv (HR1.out.below hB13 rfl)
  have HR2 := vv (HR2.out.below hB13 rfl)
  have HG := vv (HG.out.below hB13 rfl)
  have HHg := vv (HHg.out.below hB13 rfl)
  have s0 := (hB13.cell (p := ⟨w3.heap.size, 0, none⟩) hlta).trans s0
  have s1 := (hB13.cell (p := ⟨w3.heap.size, 1, none⟩) hlta).trans s1
  have HB13 := vn HB12 hB13
  clear hO hB13
  go_wp2_with fail
  refine hK.out _ _ ⟨s0, s1⟩ (fun hHeld => ?_)
  clear hK
  refine sch_done ?_
  go_wp2_with fail
  refine (set_of g 0 v (sg (decide (s < 0)) (s.natAbs / Nat.gcd s.natAbs (Nat.gcd P Q))) _ _ n12 n12 _ _ (HV.out.below HB13.out) HO13.out (fun a e => by cases e; rfl) (sg_abs _ _) (sg_neg' _ _)).mono ?_
  rintro e w14 hP
  have hP := hP.f (HV.out.below HB13.out)
  have HN14 := vv ((HH.out.below HB13.out).num hP)
  have HF := vv (hP.2.2.after HB13.out)
  have HR1 := vv (HR1.out.fs HZ1.out hP.2.2)
  have HR2 := vv (HR2.out.fs HZ2.out hP.2.2)
  have HG := vv (HG.out.fs HFG.out hP.2.2)
  have HHg := vv (HHg.out.fs HFH.out hP.2.2)
  obtain ⟨rfl, -, -⟩ := hP
  clear s0 s1
  go_wp2_with fail
  refine (by_ A1 G n1 n3 c1 c3 P _ _ HR1.out HG.out HG0.out (by omega)).mono ?_
  rintro e w15 ⟨A15, n15, c15, rfl, hQ15, -, hB15⟩
  have hs15 := hQ15.le_of HR1.out (Nat.div_le_self _ _)
  have HQ15 := vv hQ15
  have HR2 := vv (HR2.out.below hB15 rfl)
  have HHg := vv (HHg.out.below hB15 rfl)
  have HB15 := vv hB15
  clear hQ15 hB15
  go_wp2_with fail
  refine (by_ A2 H n2 n11 c2 c11 Q _ _ HR2.out HHg.out HH0.out (by omega)).mono ?_
  rintro e w16 ⟨A16, n16, c16, rfl, hQ16, -, hB16⟩
  have hs16 := hQ16.le_of HR2.out (Nat.div_le_self _ _)
  have HQ16 := vv hQ16
  have HQ15 := vv (HQ15.out.below hB16 rfl)
  have HB16 := vn HB15 hB16
  clear hQ16 hB16
  go_wp2_with fail
  refine (mulWords A15 A16 n15 n16 c15 c16 _ _ _ HQ15.out HQ16.out (by omega)).mono ?_
  rintro e w17 hP
  obtain ⟨A17, n17, c17, rfl, hQ17, hF17, hB17⟩ := hP.val2
  have HB17 := vn HB16 hB17
  have HD0 : Hid (0 < P / Nat.gcd P Q * (Q / Nat.gcd s.natAbs (Nat.gcd P Q))) := vv (Nat.mul_pos (Nat.div_pos (Nat.le_of_dvd HP0.out (Nat.gcd_dvd_left _ _)) HG0.out) (Nat.div_pos (Nat.le_of_dvd HQ0.out (Nat.dvd_trans (Nat.gcd_dvd_right _ _) (Nat.gcd_dvd_right _ _))) HH0.out))
  have HQ17 := vv (hQ17.den HD0.out (fun a e => (hF17 a e).2))
  clear hQ17 hB17 hP
  obtain ⟨hi, x, hx⟩ := HN14.out
  have hx17 := (HB17.out.cell (p := ⟨g, 2, none⟩) hi.lt).trans hx
  have hi := hi.below HB17.out
  have hlt1 := hi.lt
  have hfz := hi.fz 2
  have HI := vv hi
  have HXc := vv hx17
  have HF17 : Hid (Fs [(g, 0, 2)] w w17) := vv ((HF.out.trans (Fs.of_nil HB17.out)).drop (fun p hp _ => by simpa using hp) (fun p hp => by simpa using hp))
  clear hi hx
  go_wp2
  go_ret
  refine ⟨rfl, RatAt.made HI.out ⟨x, HXc.out⟩ HQ17.out (Nat.mul_pos HP0.out HQ0.out) HD0.out (by rw [sg_abs]; exact HL.out.1) ?_, fs3 (HF17.out.trans (Fs.set2 HI.out _))⟩
  rw [HL.out.2, Int.neg_mul, <- Int.sub_eq_add_neg]
theorem SubR (g gx gy : Nat) (p q : Int) (d e' : Nat) (w : World) (h : RatSh w g) (hx : RatAt w gx p d) (hy : RatAt w gy q e') (hst : Std w) (sp : Sm p.natAbs) (sd : Sm d) (sq : Sm q.natAbs) (se : Sm e') :
  Calls Tryz.prog 168 #[.pointer (some ⟨g, 0, none⟩), .pointer (some ⟨gx, 0, none⟩), .pointer (some ⟨gy, 0, none⟩)] w (RatF g (p * e' - q * d) (d * e') w) := by
 have HE : Hid ((lp p d * ↑(ld q e') - lp q e' * ↑(ld p d)) * ((d * e' : Nat) : Int) = (p * e' - q * d) * ((ld p d * ld q e' : Nat) : Int)) := by
  have c1 := lp_cross p d
  have c2 := lp_cross q e'
  refine vv ?_
  simp only [Int.natCast_mul]
  calc (lp p d * ↑(ld q e') - lp q e' * ↑(ld p d)) * (↑d * ↑e') = (lp p d * d) * ↑(ld q e') * e' - (lp q e' * e') * ↑(ld p d) * d := by grind
   _ = (p * ld p d) * ↑(ld q e') * e' - (q * ld q e') * ↑(ld p d) * d := by rw [c1, c2]
   _ = _ := by grind
 have HP := vv (Nat.mul_pos hx.pos hy.pos)
 have HS := vv (sub_ g gx gy (lp p d) (lp q e') (ld p d) (ld q e') w h (hx.cross (ld_pos hx.pos) (lp_cross p d).symm) (hy.cross (ld_pos hy.pos) (lp_cross q e').symm) (lp_cop hx.pos) (lp_cop hy.pos) hst (sp.mono (lp_le _ _)) (sd.mono (ld_le _ _)) (sq.mono (lp_le _ _)) (se.mono (ld_le _ _)))
 clear h hx hy hst sp sd sq se
 go_enter Tryz.func168, Tryz.ntmps168
 go_wp2_with fail
 refine HS.out.mono ?_
 rintro e w1 ⟨rfl, hR, hF⟩
 have HR := vv hR
 go_wp2
 go_ret
 exact ⟨rfl, HR.out.cross HP.out HE.out, hF⟩
theorem cmp_zero (g gx : Nat) (a b d e' : Nat) (w : World) (hx : RatAt w g (a : Int) d) (hy : RatAt w gx (b : Int) e') (h0 : a = 0 \/ b = 0) :
  Calls Tryz.prog 93 #[.pointer (some ⟨g, 0, none⟩), .pointer (some ⟨gx, 0, none⟩)] w fun e w' => e = .returned (.int .i64 (cmpZ ((a : Int) * e') (b * d))) /\ Below w.heap.size w w' := by
 have HX := vv (RSign g _ _ w hx)
 have HY := vv (RSign gx _ _ w hy)
 have hd := hx.pos
 have he := hy.pos
 clear hx hy
 rcases Nat.eq_zero_or_pos a with ha | ha <;> rcases Nat.eq_zero_or_pos b with hb | hb
 ·have HR : Hid (cmpZ ((a : Int) * e') (b * d) = 0) := vv (by rw [ha, hb]; simp [cmpZ])
  have H1 : Hid ((a : Int).sign = 0) := vv (by rw [ha]; rfl)
  have H2 : Hid ((b : Int).sign = 0) := vv (by rw [hb]; rfl)
  rw [H1.out] at HX
  rw [H2.out] at HY
  clear ha hb hd he h0
  go_enter Tryz.func93, Tryz.ntmps93
  go_wp2_with fail
  refine HX.out.mono ?_
  rintro e w' ⟨rfl, rfl⟩
  go_wp2_with fail
  refine HY.out.mono ?_
  rintro e w' ⟨rfl, rfl⟩
  go_wp2_with fail
  refine HX.out.mono ?_
  rintro e w' ⟨rfl, rfl⟩
  go_wp2_with fail
  refine HX.out.mono ?_
  rintro e w' ⟨rfl, rfl⟩
  go_wp2_with fail
  refine HY.out.mono ?_
  rintro e w' ⟨rfl, rfl⟩
  go_wp2_with fail
  refine HX.out.mono ?_
  rintro e w' ⟨rfl, rfl⟩
  go_wp2_with fail
  refine HY.out.mono ?_
  rintro e w' ⟨rfl, rfl⟩
  go_wp2
  go_ret
  exact ⟨retI HR.out.symm, Below.refl _ _⟩
 ·have HR : Hid (cmpZ ((a : Int) * e') (b * d) = -1) := vv (by
   rw [ha]
   have := Int.mul_pos (a := (b : Int)) (b := (d : Int)) (by omega) (by omega)
   exact cmpZ_lt (by simp; omega))
  have H1 : Hid ((a : Int).sign = 0) := vv (by rw [ha]; rfl)
  have H2 : Hid ((b : Int).sign = 1) := vv (Int.sign_eq_one_of_pos (by omega))
  rw [H1.out] at HX
  rw [H2.out] at HY
  clear ha hb hd he h0
  go_enter Tryz.func93, Tryz.ntmps93
  go_wp2_with fail
  refine HX.out.mono ?_
  rintro e w' ⟨rfl, rfl⟩
  go_wp2_with fail
  refine HY.out.mono ?_
  rintro e w' ⟨rfl, rfl⟩
  go_wp2_with fail
  refine HX.out.mono ?_
  rintro e w' ⟨rfl, rfl⟩
  go_wp2_with fail
  refine HY.out.mono ?_
  rintro e w' ⟨rfl, rfl⟩
  go_wp2
  go_ret
  exact ⟨retI HR.out.symm, Below.refl _ _⟩
 ·have HR : Hid (cmpZ ((a : Int) * e') (b * d) = 1) := vv (by
   rw [hb]
   have := Int.mul_pos (a := (a : Int)) (b := (e' : Int)) (by omega) (by omega)
   exact cmpZ_gt (by simp; omega))
  have H1 : Hid ((a : Int).sign = 1) := vv (Int.sign_eq_one_of_pos (by omega))
  have H2 : Hid ((b : Int).sign = 0) := vv (by rw [hb]; rfl)
  rw [H1.out] at HX
  rw [H2.out] at HY
  clear ha hb hd he h0
  go_enter Tryz.func93, Tryz.ntmps93
  go_wp2_with fail
  refine HX.out.mono ?_
  rintro e w' ⟨rfl, rfl⟩
  go_wp2_with fail
  refine HY.out.mono ?_
  rintro e w' ⟨rfl, rfl⟩
  go_wp2_with fail
  refine HX.out.mono ?_
  rintro e w' ⟨rfl, rfl⟩
  go_wp2_with fail
  refine HY.out.mono ?_
  rintro e w' ⟨rfl, rfl⟩
  go_wp2_with fail
  refine HX.out.mono ?_
  rintro e w' ⟨rfl, rfl⟩
  go_wp2_with fail
  refine HY.out.mono ?_
  rintro e w' ⟨rfl, rfl⟩
  go_wp2
  go_ret
  exact ⟨retI HR.out.symm, Below.refl _ _⟩
 ·omega
set_option maxRecDepth 100000 in
theorem cmp_pos (g gx : Nat) (a b d e' : Nat) (w : World) (hx : RatAt w g (a : Int) d) (hy : RatAt w gx (b : Int) e') (ha : 0 < a) (hb : 0 < b) (sa : Sz a) (sd : Sz d) (sb : Sz b) (se : Sz e') :
  Calls Tryz.prog 93 #[.pointer (some ⟨g, 0, none⟩), .pointer (some ⟨gx, 0, none⟩)] w fun e w' => e = .returned (.int .i64 (cmpZ ((a : Int) * e') (b * d))) /\ Below w.heap.size w w' := by
 have HX := vv (RSign g _ _ w hx)
 have HY := vv (RSign gx _ _ w hy)
 rw [Int.sign_eq_one_of_pos (by omega)] at HX HY
 have hlx := hx.lt
 have hly := hy.lt
 have HRX := vv hx
 have HRY := vv hy
 have n1 := lp_neg (p := (a : Int)) hx.pos
 have n2 := lp_neg (p := (b : Int)) hy.pos
 obtain ⟨A, n, c, h0, h1, hr, hz⟩ := hx.num.ex
 obtain ⟨B, m, c', k0, k1, hs, hz'⟩ := hy.num.ex
 rw [decide_eq_false (by omega)] at h0
 have hn := hr.sz (sa.mono (lp_le a d))
 have hm := hs.sz (sb.mono (lp_le b e'))
 have HA := vv hr
 have HB := vv hs
 have HSD := vv sd
 have HSE := vv se
 have HR : Hid (cmpI ((lp a d).natAbs * ld b e') ((lp b e').natAbs * ld a d) = cmpZ ((a : Int) * e') (b * d)) := by
  refine vv ?_
  have e1 := inv_low ha hx.pos
  have e2 := inv_low hb hy.pos
  have f1 : ld a d * a = d * (lp a d).natAbs := by have := e1.2.1; exact_mod_cast this
  have f2 : ld b e' * b = e' * (lp b e').natAbs := by have := e2.2.1; exact_mod_cast this
  have e3 : cmpZ ((a : Int) * e') (b * d) = cmpI (a * e') (b * d) := by
   rw [cmpZ_ff (by have := Int.mul_nonneg (Int.natCast_nonneg a) (Int.natCast_nonneg e'); omega) (by have := Int.mul_nonneg (Int.natCast_nonneg b) (Int.natCast_nonneg d); omega), Int.natAbs_mul, Int.natAbs_mul]
   rfl
  rw [e3, <- cmpI_mul (d * e') _ _ (Nat.mul_pos hx.pos hy.pos), <- cmpI_mul (ld a d * ld b e') (a * e') (b * d) (Nat.mul_pos (ld_pos hx.pos) (ld_pos hy.pos))]
  congr 1
  ·calc d * e' * ((lp a d).natAbs * ld b e') = (d * (lp a d).natAbs) * (e' * ld b e') := by grind
    _ = (ld a d * a) * (e' * ld b e') := by rw [f1]
    _ = _ := by grind
  ·calc d * e' * ((lp b e').natAbs * ld a d) = (e' * (lp b e').natAbs) * (d * ld a d) := by grind
    _ = (ld b e' * b) * (d * ld a d) := by rw [f2]
    _ = _ := by grind
 clear hx hy ha hb n1 n2 hr hs hz hz' sa sb sd se k0
 go_enter Tryz.func93, Tryz.ntmps93
 go_wp2_with fail
 refine HX.out.mono ?_
 rintro e w' ⟨rfl, rfl⟩
 go_wp2_with fail
 refine HY.out.mono ?_
 rintro e w' ⟨rfl, rfl⟩
 go_wp2_with fail
 refine HX.out.mono ?_
 rintro e w' ⟨rfl, rfl⟩
 go_wp2_with fail
 refine wp_region_sch (fun w' => w'.cell? ⟨g, 1, none⟩ = some (.slice A n c) /\ w'.cell? ⟨gx, 1, none⟩ = some (.slice B m c')) 16
  (.still 0 (.still 1 (.still 2 (.still 3 (.still 4 (.still 5 (.still 8 (.still 9 (.still 10 (.still 11 (.still 12 (.still 13 (.one 6 (.one 7 (.one 14 (.one 15 .done)))))))))))))))) (by kernel_rfl) (by kernel_rfl) (fun _ _ d _ _ h => by cases d <;> exact h) ⟨h1, k1⟩ (fun hS0 => ?_)
 iterate 12
  refine sch_still (v := ?_) rfl (by rfl) ?_ ?_
  rotate_left
  ·intro w hSw; go_simp; with_reducible rfl
  simp only [Act.put, List.setIfInBounds_toArray, List.set_cons_zero, List.set_cons_succ]
 refine sch_one rfl (by rfl) (fun K hK => ?_)
 go_simp
 refine (below gx _ _ _ HRY.out.drew).mono ?_
 rintro e w1 ⟨A1, n1, c1, rfl, hR1, hz1, hB1⟩
 have hn1 := hR1.sz (HSE.out.mono (ld_le _ _))
 have HR1 := vv hR1
 have HB1 : Hid (Below w.heap.size w w1) := vv ⟨hB1.os, hB1.tape, hB1.output, hB1.size, hB1.block⟩
 clear hR1 hB1
 go_wp2_with fail
 refine hK.out _ _ ⟨(HB1.out.cell (p := ⟨g, 1, none⟩) hlx).trans h1, (HB1.out.cell (p := ⟨gx, 1, none⟩) hly).trans k1⟩ (fun hHeld => ?_)
 clear hK
 refine sch_one rfl (by rfl) (fun K hK => ?_)
 go_simp
 refine (mulWords A A1 n n1 c c1 _ _ _ (HA.out.below HB1.out rfl) HR1.out (by omega)).mono ?_
 rintro e w2 hP
 obtain ⟨A2, n2, c2, rfl, hQ2, hF2, hB2⟩ := hP.val2
 have HQ2 := vv hQ2
 have HB2 := vn HB1 hB2
 clear hQ2 hB2 hP
 go_wp2_with fail
 refine hK.out _ _ ⟨(HB2.out.cell (p := ⟨g, 1, none⟩) hlx).trans h1, (HB2.out.cell (p := ⟨gx, 1, none⟩) hly).trans k1⟩ (fun hHeld => ?_)
 clear hK
 refine sch_one rfl (by rfl) (fun K hK => ?_)
 go_simp
 refine (below g _ _ _ (HRX.out.below HB2.out)).mono ?_
 rintro e w3 ⟨A3, n3, c3, rfl, hR3, hz3, hB3⟩
 have hn3 := hR3.sz (HSD.out.mono (ld_le _ _))
 have HR3 := vv hR3
 have HQ2 := vv (HQ2.out.below hB3 rfl)
 have HB3 := vn HB2 hB3
 clear hR3 hB3
 go_wp2_with fail
 refine hK.out _ _ ⟨(HB3.out.cell (p := ⟨g, 1, none⟩) hlx).trans h1, (HB3.out.cell (p := ⟨gx, 1, none⟩) hly).trans k1⟩ (fun hHeld => ?_)
 clear hK
 refine sch_one rfl (by rfl) (fun K hK => ?_)
 go_simp
 refine (mulWords B A3 m n3 c' c3 _ _ _ (HB.out.below HB3.out rfl) HR3.out (by omega)).mono ?_
 rintro e w4 hP
 obtain ⟨A4, n4, c4, rfl, hQ4, hF4, hB4⟩ := hP.val2
 have HQ4 := vv hQ4
 have HQ2 := vv (HQ2.out.below hB4 rfl)
 have HB4 := vn HB3 hB4
 have h0' := (HB4.out.cell (p := ⟨g, 0, none⟩) hlx).trans h0
 have hlx4 : g < w4.heap.size := Nat.lt_of_lt_of_le hlx HB4.out.size
 clear hQ4 hB4 hP
 go_wp2_with fail
 refine hK.out _ _ ⟨(HB4.out.cell (p := ⟨g, 1, none⟩) hlx).trans h1, (HB4.out.cell (p := ⟨gx, 1, none⟩) hly).trans k1⟩ (fun hHeld => ?_)
 clear hK
 refine sch_done ?_
 go_wp2_with fail
 refine (cmpWords A2 A4 n2 n4 c2 c4 _ _ _ HQ2.out HQ4.out (by rw [val_toL]) (by rw [val_toL])).mono ?_
 rintro e w5 ⟨rfl, hB5⟩
 rw [val_toL, val_toL, HR.out]
 have h0'' := (hB5.cell (p := ⟨g, 0, none⟩) hlx4).trans h0'
 have hlx5 : g < w5.heap.size := Nat.lt_of_lt_of_le hlx4 hB5.size
 have HB5 := vn HB4 hB5
 clear hB5
 go_wp2
 go_ret
 exact ⟨rfl, HB5.out⟩
theorem CmpR (g gx : Nat) (a b d e' : Nat) (w : World) (hx : RatAt w g (a : Int) d) (hy : RatAt w gx (b : Int) e') (sa : Sz a) (sd : Sz d) (sb : Sz b) (se : Sz e') :
  Calls Tryz.prog 93 #[.pointer (some ⟨g, 0, none⟩), .pointer (some ⟨gx, 0, none⟩)] w fun e w' => e = .returned (.int .i64 (cmpI (a * e') (b * d))) /\ Below w.heap.size w w' := by
 have e3 : cmpZ ((a : Int) * e') (b * d) = cmpI (a * e') (b * d) := by
  rw [cmpZ_ff (by have := Int.mul_nonneg (Int.natCast_nonneg a) (Int.natCast_nonneg e'); omega) (by have := Int.mul_nonneg (Int.natCast_nonneg b) (Int.natCast_nonneg d); omega), Int.natAbs_mul, Int.natAbs_mul]
  rfl
 rw [<- e3]
 rcases Nat.eq_zero_or_pos a with h | ha
 ·exact cmp_zero g gx a b d e' w hx hy (.inl h)
 rcases Nat.eq_zero_or_pos b with h | hb
 ·exact cmp_zero g gx a b d e' w hx hy (.inr h)
 exact cmp_pos g gx a b d e' w hx hy ha hb sa sd sb se
end Go.Proofs.YtbfmpcfcmbjeeaaGreatDoor.B
namespace Go.Proofs.YtbfmpcfcmbjeeaaGreatDoor.R5
open Go Go.RowKit
abbrev fm (E F : Int) : Value := .agg #[.int .i64 E, .int .i64 F]
theorem pow_le64 {k : Nat} (h : k <= 62) : (1 : Int) <= 2 ^ k /\ (2 : Int) ^ k <= 4611686018427387904 := by
 have h1 : (2 : Nat) ^ k <= 2 ^ 62 := Nat.pow_le_pow_right (by omega) h
 have h2 := Nat.two_pow_pos k
 have h3 : ((2 ^ k : Nat) : Int) = (2 : Int) ^ k := by rw [Int.natCast_pow]; rfl
 rw [<- h3]; omega
theorem w64_bias {E : Nat} (h2 : E <= 11) : wrap64 (wrap64 (2 ^ (E - 1)) - 1) = bias E := by
 have h := pow_le64 (k := E - 1) (by omega)
 unfold wrap64 bias
 omega
theorem wu_pow {k : Nat} (h : k <= 63) : IntKind.u64.wrap (2 ^ k) = ((2 ^ k : Nat) : Int) := by
 have h1 : (2 : Nat) ^ k <= 2 ^ 63 := Nat.pow_le_pow_right (by omega) h
 have h3 : ((2 ^ k : Nat) : Int) = (2 : Int) ^ k := by rw [Int.natCast_pow]; rfl
 rw [<- h3, IntKind.wrap_u64]
 have := Nat.two_pow_pos k
 omega
theorem Form (E F : Nat) (w : World) (h1 : 2 <= E) (h2 : E <= 11) (h3 : 1 <= F) (h4 : F <= 52) :
  Calls Tryz.prog 41 #[fm E F] w fun e w' => e = .returned (.bool true) /\ Below w.heap.size w w' := by
 go_enter Tryz.func41, Tryz.ntmps41
 go_wp2
 go_ret
 exact ⟨retB (decide_eq_true (by omega)), (Below.refl _ _).alloc (Nat.le_refl _) _⟩
theorem Bias (E : Nat) (F : Int) (w : World) (h1 : 2 <= E) (h2 : E <= 11) :
  Calls Tryz.prog 92 #[fm E F] w fun e w' => e = .returned (.int .i64 (bias E)) /\ Below w.heap.size w w' := by
 go_enter Tryz.func92, Tryz.ntmps92
 go_wp2
 go_ret
 exact ⟨retI (w64_bias h2), (Below.refl _ _).alloc (Nat.le_refl _) _⟩
theorem Sign (E F : Nat) (w : World) (h1 : 2 <= E) (h2 : E <= 11) (h3 : 1 <= F) (h4 : F <= 52) :
  Calls Tryz.prog 88 #[fm E F] w fun e w' => e = .returned (.int .u64 ((2 ^ (E + F) : Nat) : Int)) /\ Below w.heap.size w w' := by
 go_enter Tryz.func88, Tryz.ntmps88
 go_wp2
 go_ret
 exact ⟨retI (wu_pow (by omega)), (Below.refl _ _).alloc (Nat.le_refl _) _⟩
theorem RatAt.one2 {w : World} {g : Nat} {k : Nat} (h : RatAt w g ((1 : Int) * 2 ^ k) 1) : RatAt w g ((2 ^ k : Nat) : Int) 1 := by
 have e : (1 : Int) * 2 ^ k = ((2 ^ k : Nat) : Int) := by rw [Int.one_mul, Int.natCast_pow]; rfl
 rwa [e] at h
theorem bl_pow (k : Nat) : bl (2 ^ k) = k + 1 := bl_eq (by rw [Nat.pow_succ]; have := Nat.two_pow_pos k; omega) (by rw [Nat.add_sub_cancel]; exact Nat.le_refl _) (by omega)
theorem power_up (k : Nat) (w : World) (hk : k <= 4294967295) :
  Calls Tryz.prog 45 #[.int .i64 (k : Int)] w (NewRat' ((2 ^ k : Nat) : Int) 1 w) := by
 have HB2 : Hid (∀ (w : World) t, Below w.heap.size w (w.alloc (.cells #[.bool false, .slice none 0 0] t))) := vv fun w t => (Below.refl _ w).alloc (Nat.le_refl _) _
 have HB3 : Hid (∀ (w : World) t, Below w.heap.size w (w.alloc (.cells #[.bool false, .slice none 0 0, .slice none 0 0] t))) := vv fun w t => (Below.refl _ w).alloc (Nat.le_refl _) _
 have HZR := vv (RatAt.zero w 80)
 obtain ⟨w0, hw0⟩ := yx (w.alloc (.cells #[.bool false, .slice none 0 0, .slice none 0 0] 80))
 have hb0 := HB3.out w 80
 rw [<- hw0] at hb0 HZR
 have HB0 := vv hb0
 have hsz : w0.heap.size = w.heap.size + 1 := by rw [hw0]; simp
 have HSZ := vv hsz
 have HZI := vv (IntAt.zero w0 78)
 rw [hsz] at HZI
 have HW := vv hw0
 clear hw0 hb0 hsz
 have hmax : max (k : Int) (-(k : Int)) = (k : Int) := by omega
 go_enter Tryz.func45, Tryz.ntmps45
 go_wp2_with fail
 rw [<- HW.out]
 have HB1 := vv (HB0.out.trans ((HB2.out w0 78).mono HB0.out.size))
 have HZR1 := vv (HZR.out.below (HB2.out w0 78))
 refine (B.NewInt 1 _ (by omega) (by omega)).mono ?_
 rintro e w1 ⟨g1, rfl, hg1, hI1, hB1⟩
 have HI1 := vv hI1
 have HZI1 := vv (HZI.out.below hB1)
 have HZR1 := vv (HZR1.out.below hB1)
 have hb1 := HB1.out.trans (hB1.mono HB1.out.size)
 have HB1 := vv hb1
 clear hI1 hB1 hb1
 go_wp2_with fail
 refine (B.Lsh _ 0 g1 0 k 0 1 _ HZI1.out HI1.out (by exact Sz.small (by decide)) (by omega)).mono ?_
 rintro e w2 hP
 have hP := hP.f HZI1.out
 have HI2 := vv hP.2.1
 have HZR2 := vv (HZR1.out.fs1 hP.2.2 (by omega))
 have HB2' := vv (hP.below HB1.out HB1.out.size (by omega))
 obtain ⟨rfl, -, -⟩ := hP
 go_wp2_with fail
 refine (B.SetInt w.heap.size (w.heap.size + 1) _ _ HZR2.out.sh HI2.out).mono ?_
 rintro e w3 hP
 have HB4 := vv (hP.below HB2'.out HB2'.out.size (Nat.le_refl _))
 obtain ⟨rfl, hR, -⟩ := hP
 have HR := vv (RatAt.one2 hR)
 clear hR
 go_wp2
 go_ret
 exact ⟨_, rfl, Nat.le_refl _, HR.out, HB4.out⟩
theorem power_down (k : Nat) (w : World) (hk : k <= 4294967295) (h0 : 0 < k) :
  Calls Tryz.prog 45 #[.int .i64 (-(k : Int))] w (NewRat' 1 (2 ^ k) w) := by
 have HB2 : Hid (∀ (w : World) t, Below w.heap.size w (w.alloc (.cells #[.bool false, .slice none 0 0] t))) := vv fun w t => (Below.refl _ w).alloc (Nat.le_refl _) _
 have HB3 : Hid (∀ (w : World) t, Below w.heap.size w (w.alloc (.cells #[.bool false, .slice none 0 0, .slice none 0 0] t))) := vv fun w t => (Below.refl _ w).alloc (Nat.le_refl _) _
 have HZR := vv (RatAt.zero w 80)
 obtain ⟨w0, hw0⟩ := yx (w.alloc (.cells #[.bool false, .slice none 0 0, .slice none 0 0] 80))
 have hb0 := HB3.out w 80
 rw [<- hw0] at hb0 HZR
 have HB0 := vv hb0
 have hsz : w0.heap.size = w.heap.size + 1 := by rw [hw0]; simp
 have HSZ := vv hsz
 have HZI := vv (IntAt.zero w0 78)
 rw [hsz] at HZI
 have HW := vv hw0
 clear hw0 hb0 hsz
 have hneg : -(-(k : Int)) = (k : Int) := by omega
 have hmax : max (-(k : Int)) (k : Int) = (k : Int) := by omega
 have hlt : -(k : Int) < 0 := by omega
 go_enter Tryz.func45, Tryz.ntmps45
 go_wp2_with fail
 rw [<- HW.out]
 have HB1 := vv (HB0.out.trans ((HB2.out w0 78).mono HB0.out.size))
 have HZR1 := vv (HZR.out.below (HB2.out w0 78))
 refine (B.NewInt 1 _ (by omega) (by omega)).mono ?_
 rintro e w1 ⟨g1, rfl, hg1, hI1, hB1⟩
 have HI1 := vv hI1
 have HZI1 := vv (HZI.out.below hB1)
 have HZR1 := vv (HZR1.out.below hB1)
 have hb1 := HB1.out.trans (hB1.mono HB1.out.size)
 have HB1 := vv hb1
 clear hI1 hB1 hb1
 go_wp2_with fail
 refine (B.Lsh _ 0 g1 0 k 0 1 _ HZI1.out HI1.out (by exact Sz.small (by decide)) (by omega)).mono ?_
 rintro e w2 hP
 have hP := hP.f HZI1.out
 have HI2 := vv hP.2.1
 have HZR2 := vv (HZR1.out.fs1 hP.2.2 (by omega))
 have HB2' := vv (hP.below HB1.out HB1.out.size (by omega))
 obtain ⟨rfl, -, -⟩ := hP
 go_wp2_with fail
 refine (B.SetInt w.heap.size (w.heap.size + 1) _ _ HZR2.out.sh HI2.out).mono ?_
 rintro e w3 hP
 have HB4 := vv (hP.below HB2'.out HB2'.out.size (Nat.le_refl _))
 obtain ⟨rfl, hR, -⟩ := hP
 have HR := vv (RatAt.one2 hR)
 clear hR
 go_wp2_with fail
 refine (B.Inv w.heap.size w.heap.size (2 ^ k) 1 _ HR.out.sh HR.out (Nat.two_pow_pos k)).mono ?_
 rintro e w4 hP
 have HB5 := vv (hP.below HB4.out HB4.out.size (Nat.le_refl _))
 obtain ⟨rfl, hR, -⟩ := hP
 have HR := vv hR
 clear hR
 go_wp2
 go_ret
 exact ⟨_, rfl, Nat.le_refl _, HR.out, HB5.out⟩
theorem power (n : Int) (w : World) (h1 : -4294967295 <= n) (h2 : n <= 4294967295) :
  Calls Tryz.prog 45 #[.int .i64 n] w (NewRat' ((p2 n : Nat) : Int) (p2 (-n)) w) := by
 rcases Int.lt_or_le n 0 with h | h
 ·obtain ⟨k, rfl⟩ : ∃ k : Nat, n = -(k : Int) := ⟨n.natAbs, by omega⟩
  rw [p2_nonpos (n := -(k : Int)) (by omega), show -(-(k : Int)) = k by omega, p2_nat]
  exact power_down k w (by omega) (by omega)
 ·obtain ⟨k, rfl⟩ : ∃ k : Nat, n = (k : Int) := ⟨n.natAbs, by omega⟩
  rw [p2_nonpos (n := -(k : Int)) (by omega), p2_nat]
  exact power_up k w (by omega)
theorem Sm.p2 {n : Int} (h : n <= 4294967295) : Sm (p2 n) := by
 unfold Sm; unfold Go.Proofs.YtbfmpcfcmbjeeaaGreatDoor.p2
 rw [bl_pow]; omega
theorem low_nat {a b : Nat} (hb : 0 < b) : ((lp (a : Int) b).natAbs : Int) = lp (a : Int) b := by
 have := lp_neg (p := (a : Int)) hb
 omega
theorem RatAt.kept {w : World} {g a b : Nat} (h : RatAt w g (a : Int) b) : RatAt w g (((lp (a : Int) b).natAbs : Nat) : Int) (ld (a : Int) b) :=
 h.cross (ld_pos h.pos) (by rw [low_nat h.pos]; exact (lp_cross _ _).symm)
theorem kept_cross {a b : Nat} (hb : 0 < b) : a * ld (a : Int) b = (lp (a : Int) b).natAbs * b := by
 have h := lp_cross (a : Int) b
 rw [<- low_nat hb] at h
 exact_mod_cast h.symm
theorem kept_pos {a b : Nat} (ha : 0 < a) (hb : 0 < b) : 0 < (lp (a : Int) b).natAbs := (inv_low ha hb).2.2
theorem NumN (g a b : Nat) (w : World) (h : RatAt w g (a : Int) b) :
  Calls Tryz.prog 117 #[.pointer (some ⟨g, 0, none⟩)] w (NewPost ((lp (a : Int) b).natAbs : Nat) w) := by
 rw [low_nat h.pos]; exact B.Num g _ _ w h
theorem log_ (g N D : Nat) (w : World) (hx : RatAt w g (N : Int) D) (hN : ∀ w', Below w.heap.size w w' -> Calls Tryz.prog 117 #[.pointer (some ⟨g, 0, none⟩)] w' (NewPost (N : Int) w'))
  (hD : ∀ w', Below w.heap.size w w' -> Calls Tryz.prog 118 #[.pointer (some ⟨g, 0, none⟩)] w' (NewPost (D : Int) w')) (ha : 0 < N) (sa : Sm N) (sb : Sm D) :
  Calls Tryz.prog 90 #[.pointer (some ⟨g, 0, none⟩)] w fun e w' => e = .returned (.int .i64 (ilog N D)) /\ Below w.heap.size w w' := by
 have hb := hx.pos
 have HT := vv (ilog_test (e := (bl N : Int) - bl D) ha hb rfl)
 have HX := vv hx
 have HN := vv hN
 have HD := vv hD
 have hbA : bl N <= 4294967296 := sa
 have hbB : bl D <= 4294967296 := sb
 have hpB := bl_pos hb
 have hpA := bl_pos ha
 have HSA := vv sa.sz
 have HSB := vv sb.sz
 obtain ⟨n, hn⟩ := yx ((bl N : Int) - bl D)
 have HP := vv fun w => power n w (by omega) (by omega)
 have HSP : Hid (Sz (p2 n) /\ Sz (p2 (-n))) := vv ⟨(Sm.p2 (by omega)).sz, (Sm.p2 (by omega)).sz⟩
 rw [<- hn] at HT
 have hn1 : -4294967296 <= n := by omega
 have hn2 : n <= 4294967296 := by omega
 have HNn := vv hn
 clear hx sa sb hb hN hD ha hn
 go_enter Tryz.func90, Tryz.ntmps90
 go_wp2_with fail
 refine (HN.out _ (Below.refl _ _)).mono ?_
 rintro e w1 ⟨g1, rfl, hg1, hI1, hB1⟩
 have HI1 := vv hI1
 have HB1 := vv hB1
 clear hI1 hB1
 go_wp2_with fail
 refine (B.BitLen g1 0 _ _ HI1.out).mono ?_
 rintro e w' ⟨rfl, rfl⟩
 go_wp2_with fail
 refine (HD.out _ HB1.out).mono ?_
 rintro e w2 ⟨g2, rfl, hg2, hI2, hB2⟩
 have HI2 := vv hI2
 have HB2 := vn HB1 hB2
 clear hI2 hB2
 go_wp2_with fail
 refine (B.BitLen g2 0 _ _ HI2.out).mono ?_
 rintro e w' ⟨rfl, rfl⟩
 go_wp2_with fail
 rw [<- HNn.out]
 refine (HP.out _).mono ?_
 rintro e w3 ⟨g3, rfl, hg3, hR3, hB3⟩
 have HR3 := vv hR3
 have HB3 := vn HB2 hB3
 clear hR3 hB3
 go_wp2_with fail
 refine (B.CmpR g3 g _ N _ D _ HR3.out (HX.out.below HB3.out) HSP.out.1 HSP.out.2 HSA.out HSB.out).mono ?_
 rintro e w4 ⟨rfl, hB4⟩
 have HB4 := vn HB3 hB4
 clear hB4
 by_cases hc : N * p2 (-n) < D * p2 n
 ·have hv : cmpI (p2 n * D) (N * p2 (-n)) = 1 := cmpI_gt (by rw [Nat.mul_comm (p2 n)]; exact hc)
  rw [hv]
  have HR : Hid (ilog N D = n - 1) := vv (by rw [HT.out, if_pos hc])
  clear hv hc
  go_wp2
  go_ret
  exact ⟨retI HR.out.symm, HB4.out⟩
 ·obtain ⟨t, ht⟩ := yx (cmpI (p2 n * D) (N * p2 (-n)))
  have hd : decide (0 < t) = false := by
   rw [decide_eq_false_iff_not, ht, cmpI_gt_zero, Nat.mul_comm (p2 n)]; exact hc
  rw [<- ht]
  have HR : Hid (ilog N D = n) := vv (by rw [HT.out, if_neg hc])
  clear ht hc
  go_wp2
  go_ret
  exact ⟨retI HR.out.symm, HB4.out⟩
theorem log (g a b : Nat) (w : World) (hx : RatAt w g (a : Int) b) (ha : 0 < a) (sa : Sm a) (sb : Sm b) :
  Calls Tryz.prog 90 #[.pointer (some ⟨g, 0, none⟩)] w fun e w' => e = .returned (.int .i64 (ilog a b)) /\ Below w.heap.size w w' := by
 have hb := hx.pos
 have e0 : ilog a b = ilog (lp (a : Int) b).natAbs (ld (a : Int) b) := ilog_cross ha hb (ld_pos hb) (kept_cross hb)
 rw [e0]
 exact log_ g _ _ w (RatAt.kept hx) (fun w' hw => NumN g a b w' (hx.below hw)) (fun w' hw => B.Denom g _ _ w' (hx.below hw)) (kept_pos ha hb) (sa.mono (lp_le _ _)) (sb.mono (ld_le _ _))
end Go.Proofs.YtbfmpcfcmbjeeaaGreatDoor.R5
