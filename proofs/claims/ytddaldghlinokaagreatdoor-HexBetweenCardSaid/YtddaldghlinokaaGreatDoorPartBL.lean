/- Lemmas. -/
import Derived.Test.YtddaldghlinokaaGreatDoorPartBK
import Derived.Test.YtddaldghlinokaaGreatDoorPartBE
set_option linter.all false
namespace Go.Proofs.YtddaldghlinokaaGreatDoor.Hx
open Go Go.RowKit R5 Scn Fms Exa
set_option maxRecDepth 100000 in
set_option maxHeartbeats 8000000 in
theorem Places1 (E F b N : Nat) (neg g : Bool) (x : Int) (places mode : Nat) (w : World) (hb : b < 18446744073709551616) (hp : Ten w) (hst : Std w) (h0 : 0 < N) (hN : N < 2 ^ 53) (hx : -4000 <= x) (hx2 : x <= 4000) (hpl : places <= 2000) (hmd : mode <= 4)
  (hfit : fitsErr E F b = 0) (hF : ∀ w', Below w.heap.size w w' -> Calls Tryz.prog 52 #[fm E F, .int .u64 (b : Int)] w' (FinP neg g N x w')) :
  Calls Tryz.prog 15 #[fm E F, .int .u64 b, .int .i64 (places : Int), .int .u8 (mode : Int)] w fun e w' => e = .returned (.tuple #[.string ⟨(plcL neg g N x mode places).toArray⟩, .int .i64 0]) /\ Below w.heap.size w w' := by
 have hs53 : bl N <= 53 := bl_le hN
 have hs0 : 0 < bl N := bl_pos h0
 have hhalf := plcN_half (g := g) mode h0 places
 have hle := plcN_le (g := g) mode h0 places
 have hnb : bl (plcN g N mode places) <= 9000 := by
  have := bl_le (Nat.lt_of_le_of_lt hle (Nat.pow_lt_pow_right (by decide) (Nat.lt_succ_self _)))
  omega
 have HFt' := vv fun w => Fms.Fits E F b w hb
 rw [hfit] at HFt'
 have HFt := vv fun A m w (hr : Rd w A m m (toL N)) => first g A m m N x w hr (rd_small hr (by omega)) (by omega) (by omega)
 have HMk := vv fun A m B wr (ha : Rd wr A m m (toL N)) (hb : Rd wr B 1 1 (toL 1)) (hs : Std wr) => make1 g A m m B N wr ha hb h0 (by omega) hs
 obtain ⟨e0, he0⟩ := yx (x + (bl N : Int) - 1)
 have hk : x - e0 + 4 * (places : Int) = plcK N places := by unfold plcK; omega
 have HSc := vv fun X n Y m wr (hX : Rd wr X n n (toL N)) (hY : Rd wr Y m m (toL 1)) (hn : n <= 16384) (hm : m <= 16384) (hs : Std wr) => scale2 g X n Y m N places _ wr hX hY hn hm h0 (by omega) hpl hk hs
 have HWl := vv fun X n Y m wr (hX : Rd wr X n n (toL (plcP N places))) (hY : Rd wr Y m m (toL (plcD N places))) (hn : n <= 16384) (hm : m <= 16384) (hs : Std wr) => wholeP g X n Y m N places mode wr hX hY hn hm h0 hmd hs
 rw [<- he0] at HFt
 obtain ⟨same, hsame⟩ := yx (decide (plcP N places % plcD N places = 0))
 rw [<- hsame] at HWl
 have hL : plcL neg g N x mode places = if 4 * places + 1 < bl (plcN g N mode places) then txtL neg (hexL (plcN g N mode places / 2) (places + 1)) (e0 + 1) else txtL neg (hexL (plcN g N mode places) (places + 1)) e0 := by
  unfold plcL
  rw [if_neg (by omega), he0]
 obtain ⟨P', hP'⟩ : ∃ P', P' = plcP N places := ⟨_, rfl⟩
 obtain ⟨D', hD'⟩ : ∃ D', D' = plcD N places := ⟨_, rfl⟩
 obtain ⟨q, hq⟩ := yx (plcN g N mode places)
 rw [<- hP', <- hD'] at HSc HWl
 rw [<- hq] at HWl hhalf hle hnb hL
 rw [hL]
 obtain ⟨Rs, hRs⟩ : ∃ Rs : ByteArray, Rs = ⟨(if 4 * places + 1 < bl q then txtL neg (hexL (q / 2) (places + 1)) (e0 + 1) else txtL neg (hexL q (places + 1)) e0).toArray⟩ := ⟨_, rfl⟩
 rw [<- hRs]
 have HRs := vv hRs
 clear hRs
 have HBi := vv fun A m c w (hr : Rd w A m c (toL q)) => Pnt.Bits A m c q w hr (rd_small hr (by omega))
 have HDn := vv fun A m c w (hr : Rd w A m c (toL q)) => Pnt.Down A m c q 1 w hr (rd_small hr (by omega)) (by omega)
 rw [Nat.pow_one] at HDn
 have HTx := vv fun n z w' (hz1 : -1000000 <= z) (hz2 : z <= 1000000) (h : Below w.heap.size w w') => text neg (hexL n (places + 1)) z w'
  (by intro e; have := hexL_len n (places + 1); rw [e] at this; simp at this) (by rw [hexL_len]; omega) hz1 hz2 (hp.below h)
 have HSx : Hid (∀ A m c n w, n < 2 ^ (4 * places + 1) -> Rd w A m c (toL n) -> Calls Tryz.prog 56 #[natV A m c, .int .i64 (1 + (places : Int))] w fun e w' => e = .returned (.string ⟨(hexL n (places + 1)).toArray⟩) /\ Below w.heap.size w w') := vv fun A m c n w hn hr => by
  have hbn := bl_le hn
  have h := sixteens A m c n (1 + places) w hr (rd_small hr (by omega)) (by omega) (by omega)
  rw [plc_figs hn] at h
  rwa [show ((1 + places : Nat) : Int) = 1 + (places : Int) by omega] at h
 have he1 : -4000 <= e0 := by omega
 have he2 : e0 <= 4053 := by omega
 have HSt := vv hst
 have hpli : (places : Int) <= 2000 := by omega
 have hmi : (mode : Int) <= 4 := by omega
 have dm : decide ((4 : Int) < (mode : Int)) = false := decide_eq_false (by omega)
 obtain ⟨w0, hw0⟩ := yx (w.alloc (.cells #[.int .i64 (E : Int), .int .i64 (F : Int)] 23))
 have hC : Ctx w [(w.heap.size, 23, [.int .i64 (E : Int), .int .i64 (F : Int)])] w0 := by rw [hw0]; exact (Ctx.nil w).new _ _ rfl
 have HW := vv hw0
 have HC := vv hC
 have HFi := vv hF
 have HN0 := vv h0
 have HHf := vv hhalf
 have c0 := hC.get 0 rfl |>.cell 0
 have c1 := hC.get 0 rfl |>.cell 1
 have cl := hC.get 0 rfl |>.lt
 simp only [List.getElem?_cons_zero, List.getElem?_cons_succ] at c0 c1
 clear hw0 hC hF hp hst h0 hN hpl hmd hfit hb hs53 hs0 hhalf hle hnb hk hL hP' hD' hq hsame he0
 go_enter Tryz.func15, Tryz.ntmps15
 go_wp2_with fail
 rw [<- HW.out]
 go_wp2_with fail
 refine (HFt'.out _).mono ?_
 rintro e w1 ⟨rfl, hB⟩
 have HC1 := vv (HC.out.step hB)
 clear hB c0 c1 cl HC
 have c0 := HC1.out.get 0 rfl |>.cell 0
 have c1 := HC1.out.get 0 rfl |>.cell 1
 have cl := HC1.out.get 0 rfl |>.lt
 simp only [List.getElem?_cons_zero, List.getElem?_cons_succ] at c0 c1
 go_wp2_with fail
 refine (HFi.out _ HC1.out.low).mono ?_
 rintro e w2 ⟨A, m, rfl, hA, _, hB⟩
 have hm : (1 : Int) <= m := by
  rcases Nat.eq_zero_or_pos m with h | h
  ·subst h
   have := hA.lt
   rw [val_toL, Nat.pow_zero] at this
   have := HN0.out
   omega
  ·omega
 have hmne : ((m : Int) == 0) = false := by rw [beq_eq_false_iff_ne]; omega
 obtain ⟨gd, hgd⟩ := yx (w2.heap.size)
 obtain ⟨w3, hw3⟩ := yx (w2.alloc (.cells #[.bool g, .slice A m m, .int .i64 x] 30))
 have HC3 : Hid (Ctx w [(gd, 30, [.bool g, .slice A m m, .int .i64 x]), (w.heap.size, 23, [.int .i64 (E : Int), .int .i64 (F : Int)])] w3) := vv (by rw [hw3]; exact (HC1.out.step hB).new _ _ hgd)
 have HA3 : Hid (Rd w3 A m m (toL N)) := vv (by rw [hw3]; exact hA.below ((Below.refl _ _).alloc (Nat.le_refl _) _) rfl)
 have HW3 := vv hw3
 have HGd := vv hgd
 have HWg : Hid (w.heap.size < gd) := vv (by rw [hgd]; have := HC1.out.get 0 rfl |>.lt; have := hB.size; omega)
 clear hw3 hA hB c0 c1 cl HC1 hgd
 go_wp2_with fail
 rw [<- HW3.out, <- HGd.out]
 refine (HFt.out _ _ _ HA3.out).mono ?_
 rintro e w4 ⟨rfl, hB⟩
 have HC4 := vv (HC3.out.step hB)
 have HA4 := vv (HA3.out.below hB rfl)
 clear hB HC3 HA3 HW3 HGd
 go_wp2_with fail
 obtain ⟨d0, d1, d2⟩ := Fms.blk3 (HC4.out.get 0 rfl)
 refine wp_region_sch (fun w' => w'.cell? ⟨gd, 0, none⟩ = some (.bool g) /\ w'.cell? ⟨gd, 1, none⟩ = some (.slice A m m)) 11
  (.still 0 (.still 1 (.still 2 (.still 3 (.two 4 (.two 5 (.still 6 (.still 7 (.still 8 (.one 9 (.one 10 .done))))) 9 (.one 5 (.still 6 (.still 7 (.still 8 (.one 10 .done)))))) 9 (.one 4 (.one 5 (.still 6 (.still 7 (.still 8 (.one 10 .done)))))))))))
  (by kernel_rfl) (by kernel_rfl) (fun _ _ d _ _ h => by cases d <;> exact h) ⟨d0, d1⟩ (fun hS0 => ?_)
 have HC4 := vv HC4.out.drew
 have HA4 := vv HA4.out.drew
 obtain ⟨wc, hwc⟩ := yx (w4.drew)
 rw [<- hwc] at hS0 HC4 HA4 ⊢
 clear hwc d0 d1 d2
 iterate 4
  refine sch_still (v := ?_) rfl (by rfl) ?_ ?_
  rotate_left
  ·intro w hSw; go_simp; with_reducible rfl
  simp only [Act.put, List.setIfInBounds_toArray, List.set_cons_zero, List.set_cons_succ]
 refine sch_two rfl (by rfl) rfl (by rfl) (fun K hK => ?_) (fun K hK => ?_)
 focus
  go_simp
  refine (Nat_.Of1 _).mono ?_
  rintro e wn ⟨B, rfl, hB1, hB⟩
  have HC4 := vv (HC4.out.step hB)
  have HA4 := vv (HA4.out.below hB rfl)
  have HB1 := vv hB1
  clear hB hB1
  obtain ⟨wc, rfl⟩ := yx wn
  go_wp2_with fail
  have hD := Fms.blk3 (HC4.out.get 0 rfl)
  refine hK.out _ _ ⟨hD.1, hD.2.1⟩ (fun hHeld => ?_)
  clear hK hD
  refine sch_two rfl (by rfl) rfl (by rfl) (fun K hK => ?_) (fun K hK => ?_)
  focus
   go_simp
   refine (HMk.out _ _ _ _ HA4.out HB1.out (HC4.out.std HSt.out)).mono ?_
   rintro e wn ⟨X', n', Y', m', rfl, hX, hY, hn', hm', hB⟩
   have HC4 := vv (HC4.out.step hB)
   have HX4 := vv hX
   have HY4 := vv hY
   have HN4 := vv (And.intro hn' hm')
   clear hB hX hY hn' hm' HA4 HB1
   obtain ⟨wc, rfl⟩ := yx wn
   go_wp2_with fail
   have hD := Fms.blk3 (HC4.out.get 0 rfl)
   refine hK.out _ _ ⟨hD.1, hD.2.1⟩ (fun hHeld => ?_)
   clear hK hD
   iterate 3
    refine sch_still (v := ?_) rfl (by rfl) ?_ ?_
    rotate_left
    ·intro w hSw; go_simp; with_reducible rfl
    simp only [Act.put, List.setIfInBounds_toArray, List.set_cons_zero, List.set_cons_succ]
   refine sch_one rfl (by rfl) (fun K hK => ?_)
   go_simp
   obtain ⟨gr, hgr⟩ := yx (wc.heap.size)
   obtain ⟨wn, hwn⟩ := yx (wc.alloc (.cells #[.bool false, .slice none 0 0, .slice none 0 0] 114))
   have hbn : Below wc.heap.size wc wn := by rw [hwn]; exact (Below.refl _ _).alloc (Nat.le_refl _) _
   have HGr : Hid (gd < gr) := vv (by have := HC4.out.get 0 rfl |>.lt; omega)
   have HC4 := vv (show Ctx w [(gr, 114, [.bool false, .slice none 0 0, .slice none 0 0]), (gd, 30, [.bool g, .slice A m m, .int .i64 x]), (w.heap.size, 23, [.int .i64 (E : Int), .int .i64 (F : Int)])] wn by rw [hwn]; exact HC4.out.new _ _ hgr)
   try have HA4 := vv (HA4.out.below hbn rfl)
   try have HB1 := vv (HB1.out.below hbn rfl)
   try have HX4 := vv (HX4.out.below hbn rfl)
   try have HY4 := vv (HY4.out.below hbn rfl)
   rw [<- hwn, <- hgr]
   clear hwn hbn hgr
   obtain ⟨wc, rfl⟩ := yx wn
   have hD := Fms.blk3 (HC4.out.get 1 rfl)
   refine hK.out _ _ ⟨hD.1, hD.2.1⟩ (fun hHeld => ?_)
   clear hK hD
   refine sch_one rfl (by rfl) (fun K hK => ?_)
   refine wp_store_blk 114 (.tmp 15) (.tmp 64) rfl gr [.bool g, .slice X' n' n', .slice Y' m' m'] rfl rfl 114 _ (HC4.out.get 0 rfl) (by kernel_rfl) rfl rfl ?_
   intro wn hB hgw
   have HX4 := vv (HX4.out.else_ (HC4.out.get 0 rfl) rfl hgw)
   have HY4 := vv (HY4.out.else_ (HC4.out.get 0 rfl) rfl hgw)
   have HC4 : Hid (Ctx w [(gr, 114, [.bool g, .slice X' n' n', .slice Y' m' m']), (gd, 30, [.bool g, .slice A m m, .int .i64 x]), (w.heap.size, 23, [.int .i64 (E : Int), .int .i64 (F : Int)])] wn) := vv (HC4.out.put 0 rfl (by
    have := HGr.out
    have := HWg.out
    intro j y hj hy
    match j, hj, hy with
    | 1, _, hy => cases hy; show gd ≠ gr; omega
    | 2, _, hy => cases hy; show w.heap.size ≠ gr; omega) (by have := HGr.out; have := HWg.out; omega) hB hgw)
   clear hB hgw
   have hD := Fms.blk3 (HC4.out.get 1 rfl)
   refine hK.out _ _ ⟨hD.1, hD.2.1⟩ (fun hHeld => ?_)
   clear hK hD
   refine sch_done ?_
   simp only [List.drop_succ_cons, List.drop_zero]
  rotate_left
  focus
   go_simp
   obtain ⟨gr, hgr⟩ := yx (wc.heap.size)
   obtain ⟨wn, hwn⟩ := yx (wc.alloc (.cells #[.bool false, .slice none 0 0, .slice none 0 0] 114))
   have hbn : Below wc.heap.size wc wn := by rw [hwn]; exact (Below.refl _ _).alloc (Nat.le_refl _) _
   have HGr : Hid (gd < gr) := vv (by have := HC4.out.get 0 rfl |>.lt; omega)
   have HC4 := vv (show Ctx w [(gr, 114, [.bool false, .slice none 0 0, .slice none 0 0]), (gd, 30, [.bool g, .slice A m m, .int .i64 x]), (w.heap.size, 23, [.int .i64 (E : Int), .int .i64 (F : Int)])] wn by rw [hwn]; exact HC4.out.new _ _ hgr)
   try have HA4 := vv (HA4.out.below hbn rfl)
   try have HB1 := vv (HB1.out.below hbn rfl)
   try have HX4 := vv (HX4.out.below hbn rfl)
   try have HY4 := vv (HY4.out.below hbn rfl)
   rw [<- hwn, <- hgr]
   clear hwn hbn hgr
   obtain ⟨wc, rfl⟩ := yx wn
   have hD := Fms.blk3 (HC4.out.get 1 rfl)
   refine hK.out _ _ ⟨hD.1, hD.2.1⟩ (fun hHeld => ?_)
   clear hK hD
   refine sch_one rfl (by rfl) (fun K hK => ?_)
   go_simp
   refine (HMk.out _ _ _ _ HA4.out HB1.out (HC4.out.std HSt.out)).mono ?_
   rintro e wn ⟨X', n', Y', m', rfl, hX, hY, hn', hm', hB⟩
   have HC4 := vv (HC4.out.step hB)
   have HX4 := vv hX
   have HY4 := vv hY
   have HN4 := vv (And.intro hn' hm')
   clear hB hX hY hn' hm' HA4 HB1
   obtain ⟨wc, rfl⟩ := yx wn
   go_wp2_with fail
   have hD := Fms.blk3 (HC4.out.get 1 rfl)
   refine hK.out _ _ ⟨hD.1, hD.2.1⟩ (fun hHeld => ?_)
   clear hK hD
   iterate 3
    refine sch_still (v := ?_) rfl (by rfl) ?_ ?_
    rotate_left
    ·intro w hSw; go_simp; with_reducible rfl
    simp only [Act.put, List.setIfInBounds_toArray, List.set_cons_zero, List.set_cons_succ]
   refine sch_one rfl (by rfl) (fun K hK => ?_)
   refine wp_store_blk 114 (.tmp 15) (.tmp 64) rfl gr [.bool g, .slice X' n' n', .slice Y' m' m'] rfl rfl 114 _ (HC4.out.get 0 rfl) (by kernel_rfl) rfl rfl ?_
   intro wn hB hgw
   have HX4 := vv (HX4.out.else_ (HC4.out.get 0 rfl) rfl hgw)
   have HY4 := vv (HY4.out.else_ (HC4.out.get 0 rfl) rfl hgw)
   have HC4 : Hid (Ctx w [(gr, 114, [.bool g, .slice X' n' n', .slice Y' m' m']), (gd, 30, [.bool g, .slice A m m, .int .i64 x]), (w.heap.size, 23, [.int .i64 (E : Int), .int .i64 (F : Int)])] wn) := vv (HC4.out.put 0 rfl (by
    have := HGr.out
    have := HWg.out
    intro j y hj hy
    match j, hj, hy with
    | 1, _, hy => cases hy; show gd ≠ gr; omega
    | 2, _, hy => cases hy; show w.heap.size ≠ gr; omega) (by have := HGr.out; have := HWg.out; omega) hB hgw)
   clear hB hgw
   have hD := Fms.blk3 (HC4.out.get 1 rfl)
   refine hK.out _ _ ⟨hD.1, hD.2.1⟩ (fun hHeld => ?_)
   clear hK hD
   refine sch_done ?_
   simp only [List.drop_succ_cons, List.drop_zero]
 rotate_left
 rotate_left
 focus
  go_simp
  obtain ⟨gr, hgr⟩ := yx (wc.heap.size)
  obtain ⟨wn, hwn⟩ := yx (wc.alloc (.cells #[.bool false, .slice none 0 0, .slice none 0 0] 114))
  have hbn : Below wc.heap.size wc wn := by rw [hwn]; exact (Below.refl _ _).alloc (Nat.le_refl _) _
  have HGr : Hid (gd < gr) := vv (by have := HC4.out.get 0 rfl |>.lt; omega)
  have HC4 := vv (show Ctx w [(gr, 114, [.bool false, .slice none 0 0, .slice none 0 0]), (gd, 30, [.bool g, .slice A m m, .int .i64 x]), (w.heap.size, 23, [.int .i64 (E : Int), .int .i64 (F : Int)])] wn by rw [hwn]; exact HC4.out.new _ _ hgr)
  try have HA4 := vv (HA4.out.below hbn rfl)
  try have HB1 := vv (HB1.out.below hbn rfl)
  try have HX4 := vv (HX4.out.below hbn rfl)
  try have HY4 := vv (HY4.out.below hbn rfl)
  rw [<- hwn, <- hgr]
  clear hwn hbn hgr
  obtain ⟨wc, rfl⟩ := yx wn
  have hD := Fms.blk3 (HC4.out.get 1 rfl)
  refine hK.out _ _ ⟨hD.1, hD.2.1⟩ (fun hHeld => ?_)
  clear hK hD
  refine sch_one rfl (by rfl) (fun K hK => ?_)
  go_simp
  refine (Nat_.Of1 _).mono ?_
  rintro e wn ⟨B, rfl, hB1, hB⟩
  have HC4 := vv (HC4.out.step hB)
  have HA4 := vv (HA4.out.below hB rfl)
  have HB1 := vv hB1
  clear hB hB1
  obtain ⟨wc, rfl⟩ := yx wn
  go_wp2_with fail
  have hD := Fms.blk3 (HC4.out.get 1 rfl)
  refine hK.out _ _ ⟨hD.1, hD.2.1⟩ (fun hHeld => ?_)
  clear hK hD
  refine sch_one rfl (by rfl) (fun K hK => ?_)
  go_simp
  refine (HMk.out _ _ _ _ HA4.out HB1.out (HC4.out.std HSt.out)).mono ?_
  rintro e wn ⟨X', n', Y', m', rfl, hX, hY, hn', hm', hB⟩
  have HC4 := vv (HC4.out.step hB)
  have HX4 := vv hX
  have HY4 := vv hY
  have HN4 := vv (And.intro hn' hm')
  clear hB hX hY hn' hm' HA4 HB1
  obtain ⟨wc, rfl⟩ := yx wn
  go_wp2_with fail
  have hD := Fms.blk3 (HC4.out.get 1 rfl)
  refine hK.out _ _ ⟨hD.1, hD.2.1⟩ (fun hHeld => ?_)
  clear hK hD
  iterate 3
   refine sch_still (v := ?_) rfl (by rfl) ?_ ?_
   rotate_left
   ·intro w hSw; go_simp; with_reducible rfl
   simp only [Act.put, List.setIfInBounds_toArray, List.set_cons_zero, List.set_cons_succ]
  refine sch_one rfl (by rfl) (fun K hK => ?_)
  refine wp_store_blk 114 (.tmp 15) (.tmp 64) rfl gr [.bool g, .slice X' n' n', .slice Y' m' m'] rfl rfl 114 _ (HC4.out.get 0 rfl) (by kernel_rfl) rfl rfl ?_
  intro wn hB hgw
  have HX4 := vv (HX4.out.else_ (HC4.out.get 0 rfl) rfl hgw)
  have HY4 := vv (HY4.out.else_ (HC4.out.get 0 rfl) rfl hgw)
  have HC4 : Hid (Ctx w [(gr, 114, [.bool g, .slice X' n' n', .slice Y' m' m']), (gd, 30, [.bool g, .slice A m m, .int .i64 x]), (w.heap.size, 23, [.int .i64 (E : Int), .int .i64 (F : Int)])] wn) := vv (HC4.out.put 0 rfl (by
   have := HGr.out
   have := HWg.out
   intro j y hj hy
   match j, hj, hy with
   | 1, _, hy => cases hy; show gd ≠ gr; omega
   | 2, _, hy => cases hy; show w.heap.size ≠ gr; omega) (by have := HGr.out; have := HWg.out; omega) hB hgw)
  clear hB hgw
  have hD := Fms.blk3 (HC4.out.get 1 rfl)
  refine hK.out _ _ ⟨hD.1, hD.2.1⟩ (fun hHeld => ?_)
  clear hK hD
  refine sch_done ?_
  simp only [List.drop_succ_cons, List.drop_zero]
 all_goals
  clear hHeld hS0
  obtain ⟨wc, rfl⟩ := yx wn
  obtain ⟨f0, f1, f2⟩ := Fms.blk3 (HC4.out.get 0 rfl)
  obtain ⟨d0, d1, d2⟩ := Fms.blk3 (HC4.out.get 1 rfl)
  have fl := HC4.out.get 0 rfl |>.lt
  have dl := HC4.out.get 1 rfl |>.lt
  go_wp2_with fail
  refine (HSc.out X' n' Y' m' _ HX4.out HY4.out HN4.out.1 HN4.out.2 (HC4.out.std HSt.out)).mono ?_
  rintro e w5 ⟨X2, n2, Y2, m2, rfl, hX, hY, hn2, hm2, hB⟩
  have HC5 := vv (HC4.out.step hB)
  have HX5 := vv hX
  have HY5 := vv hY
  have HN5 := vv (And.intro hn2 hm2)
  have HBk := vv (HC5.out.get 0 rfl)
  clear hB hX hY hn2 hm2 f0 f1 f2 d0 d1 d2 fl dl HC4 HX4 HY4 HN4
  go_wp2_with (with_reducible refine wpList_store_blk rfl 114 (.tmp 15) (.tmp 78) rfl gr [.bool g, .slice X2 n2 n2, .slice Y2 m2 m2] rfl rfl 114 _ HBk.out (by kernel_rfl) rfl rfl ?_)
  intro w6 hB hgw
  have HX6 := vv (HX5.out.else_ HBk.out rfl hgw)
  have HY6 := vv (HY5.out.else_ HBk.out rfl hgw)
  have HC6 := vv (HC5.out.put 0 rfl (by
   have := HGr.out
   have := HWg.out
   intro j y hj hy
   match j, hj, hy with
   | 1, _, hy => cases hy; show gd ≠ gr; omega
   | 2, _, hy => cases hy; show w.heap.size ≠ gr; omega) (by have := HGr.out; have := HWg.out; omega) hB hgw)
  obtain ⟨f0, f1, f2⟩ := Fms.blk3 hB
  have fl := hB.lt
  clear hB hgw HC5 HX5 HY5 HBk
  go_wp2_with fail
  refine (HWl.out X2 n2 Y2 m2 _ HX6.out HY6.out HN5.out.1 HN5.out.2 (HC6.out.std HSt.out)).mono ?_
  rintro e w7 ⟨A7, n7, c7, rfl, hR7, -, hB⟩
  obtain ⟨gn, hgn⟩ := yx (w7.heap.size)
  obtain ⟨w8, hw8⟩ := yx (w7.alloc (.cells #[.slice A7 n7 c7] 28))
  have HC8 : Hid (Ctx w [(gn, 28, [.slice A7 n7 c7])] w8) := vv (by
   rw [hw8]
   exact (Ctx.new ⟨HC6.out.low.trans (hB.mono HC6.out.low.size), fun _ h => by cases h⟩ _ _ hgn))
  have HR8 : Hid (Rd w8 A7 n7 c7 (toL q)) := vv (by rw [hw8]; exact hR7.below ((Below.refl _ _).alloc (Nat.le_refl _) _) rfl)
  have HW8 := vv hw8
  have HGn := vv hgn
  have HGw : Hid (w.heap.size <= gn) := vv (by rw [hgn]; have := HC6.out.low.size; have := hB.size; omega)
  clear hw8 hgn hR7 hB HC6 HX6 HY6 f0 f1 f2 fl
  have n0 := HC8.out.get 0 rfl |>.cell 0
  have nl := HC8.out.get 0 rfl |>.lt
  have nf := HC8.out.get 0 rfl |>.fz 0
  simp only [List.getElem?_cons_zero] at n0
  go_wp2_with fail
  rw [<- HW8.out, <- HGn.out]
  refine (HBi.out A7 n7 c7 _ HR8.out).mono ?_
  rintro e w9 ⟨rfl, hB⟩
  have HC9 := vv (HC8.out.step hB)
  have HR9 := vv (HR8.out.below hB rfl)
  have n0 := HC9.out.get 0 rfl |>.cell 0
  have nl := HC9.out.get 0 rfl |>.lt
  have nf := HC9.out.get 0 rfl |>.fz 0
  simp only [List.getElem?_cons_zero] at n0
  clear hB HC8 HR8 HW8 HGn
  by_cases hlt : 4 * places + 1 < bl q
  ·have t1 : 4 * (places : Int) + 1 < ((bl q : Nat) : Int) := by omega
   have HHf2 : Hid (q / 2 < 2 ^ (4 * places + 1)) := vv (by have := HHf.out; rw [if_pos hlt] at this; exact this)
   obtain ⟨t, ht⟩ : ∃ t : ByteArray, t = ⟨(hexL (q / 2) (places + 1)).toArray⟩ := ⟨_, rfl⟩
   have HSx2 := vv fun A m c w h => HSx.out A m c (q / 2) w HHf2.out h
   have HTx2 := vv fun w' h => HTx.out (q / 2) (e0 + 1) w' (by omega) (by omega) h
   rw [<- ht] at HSx2 HTx2
   obtain ⟨r, hr⟩ : ∃ r : ByteArray, r = ⟨(txtL neg (hexL (q / 2) (places + 1)) (e0 + 1)).toArray⟩ := ⟨_, rfl⟩
   rw [<- hr] at HTx2
   have HRr : Hid (r = Rs) := vv (by rw [HRs.out, if_pos hlt]; exact hr)
   clear ht hr hlt
   go_wp2_with fail
   refine (HDn.out A7 n7 c7 _ HR9.out).mono ?_
   rintro e w10 ⟨A8, n8, rfl, hA8, hF8, hB⟩
   have HC10 := vv (HC9.out.step hB)
   have b0 := HC10.out.get 0 rfl |>.cell 0
   have bl' := HC10.out.get 0 rfl |>.lt
   have bf := HC10.out.get 0 rfl |>.fz 0
   simp only [List.getElem?_cons_zero] at b0
   obtain ⟨w11, hw11⟩ := yx (w10.setCell ⟨gn, 0, none⟩ (.slice A8 n8 n8))
   have hlt9 := HC9.out.get 0 rfl |>.lt
   have HR11 : Hid (Rd w11 A8 n8 n8 (toL (q / 2))) := vv (by rw [hw11]; exact hA8.other _ _ _ (fun a e => by have := (hF8 a e).1; omega))
   have HB11 : Hid (Below w.heap.size w w11) := vv (by rw [hw11]; exact HC10.out.low.setCell HGw.out _)
   have HN11 : Hid (w11.cell? ⟨gn, 0, none⟩ = some (.slice A8 n8 n8)) := vv (by rw [hw11]; exact cell_eq b0)
   have HL11 : Hid (gn < w11.heap.size) := vv (by rw [hw11]; simpa [World.setCell] using bl')
   have HW11 := vv hw11
   clear hA8 hF8 hB n0 nl nf hw11 hlt9
   go_wp2_with fail
   rw [<- HW11.out]
   refine (HSx2.out A8 n8 n8 _ HR11.out).mono ?_
   rintro e w12 ⟨rfl, hB⟩
   have HB12 := vn HB11 hB
   clear hB b0 bl' bf
   go_wp2_with fail
   refine (HTx2.out _ HB12.out).mono ?_
   rintro e w13 ⟨rfl, hB⟩
   have HB13 := vn HB12 hB
   clear hB
   go_wp2
   go_ret2
   exact ⟨(by rw [<- HRr.out]; rfl), HB13.out⟩
  ·have t1 : ¬ 4 * (places : Int) + 1 < ((bl q : Nat) : Int) := by omega
   have t2 : ((bl q : Nat) : Int) <= 4 * (places : Int) + 1 := by omega
   have HHf2 : Hid (q < 2 ^ (4 * places + 1)) := vv (by have := HHf.out; rw [if_neg hlt] at this; exact this)
   obtain ⟨t, ht⟩ : ∃ t : ByteArray, t = ⟨(hexL q (places + 1)).toArray⟩ := ⟨_, rfl⟩
   have HSx2 := vv fun A m c w h => HSx.out A m c q w HHf2.out h
   have HTx2 := vv fun w' h => HTx.out q e0 w' (by omega) (by omega) h
   rw [<- ht] at HSx2 HTx2
   obtain ⟨r, hr⟩ : ∃ r : ByteArray, r = ⟨(txtL neg (hexL q (places + 1)) e0).toArray⟩ := ⟨_, rfl⟩
   rw [<- hr] at HTx2
   have HRr : Hid (r = Rs) := vv (by rw [HRs.out, if_neg hlt]; exact hr)
   clear ht hr hlt
   go_wp2_with fail
   refine (HSx2.out A7 n7 c7 _ HR9.out).mono ?_
   rintro e w12 ⟨rfl, hB⟩
   have HB12 := vv (HC9.out.low.trans (hB.mono HC9.out.low.size))
   clear hB n0 nl nf
   go_wp2_with fail
   refine (HTx2.out _ HB12.out).mono ?_
   rintro e w13 ⟨rfl, hB⟩
   have HB13 := vn HB12 hB
   clear hB
   go_wp2
   go_ret2
   exact ⟨(by rw [<- HRr.out]; rfl), HB13.out⟩
end Go.Proofs.YtddaldghlinokaaGreatDoor.Hx
