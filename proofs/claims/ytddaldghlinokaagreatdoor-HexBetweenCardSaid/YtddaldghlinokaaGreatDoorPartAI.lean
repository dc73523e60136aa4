/- Lemmas. -/
import Derived.Test.YtddaldghlinokaaGreatDoorProg
import Derived.Test.YtddaldghlinokaaGreatDoorPartAF
import Derived.Laws.CopyOwn
import Derived.Deep.QuietTactic
import Derived.BigQuiet
set_option linter.all false
namespace Go.Proofs.YtddaldghlinokaaGreatDoor.B
open Go Go.RowKit
theorem inf : (Tryz.prog.info? 34).map (fun i => (i.zero, i.size, i.bytes)) = some (some (.int .u32 0), 1, 4) := by kernel_rfl
def TrimPost (A : Option Addr) (c : Nat) (xs : List Nat) (w : World) (e : Ending) (w' : World) : Prop :=
 ∃ m : Nat, e = .returned (.slice A m c) /\ w = w' /\ Rd w A m c (toL (val xs))
end Go.Proofs.YtddaldghlinokaaGreatDoor.B
namespace Go.Proofs.YtddaldghlinokaaGreatDoor.A
open Go Go.RowKit
theorem inf : (Tryz.prog.info? 34).map (fun i => (i.zero, i.size, i.bytes)) = some (some (.int .u32 0), 1, 4) := by kernel_rfl
def TrimPost (A : Option Addr) (c : Nat) (xs : List Nat) (w : World) (e : Ending) (w' : World) : Prop :=
 ∃ m : Nat, e = .returned (.slice A m c) /\ w = w' /\ Rd w A m c (toL (val xs))
set_option maxHeartbeats 400000 in
theorem trim (A : Option Addr) (n c : Nat) (xs : List Nat) (w : World) (hr : Rd w A n c xs) :
  Calls Tryz.prog 294 #[.slice A n c] w (TrimPost A c xs w) := by
 have hsm := hr.sm
 have hlen := hr.len
 have hle := hr.le
 go_enter Tryz.func294, Tryz.ntmps294
 go_wp2
 go_loop [3] (fun t => ∃ k : Nat, k <= n /\ t = .int .i64 k /\ ∀ i, k <= i -> nth xs i = 0) (fun t => (intOf t).toNat)
 case atStart => exact ⟨n, Nat.le_refl _, rfl, fun i hi => nth_ge xs i (by omega)⟩
 case round =>
  obtain ⟨k, hk, rfl, hz⟩ := hrel
  have fin : ∀ m, m <= n -> (∀ i, m <= i -> nth xs i = 0) -> (m = 0 \/ nth xs (m - 1) ≠ 0) -> Rd w A m c (toL (val xs)) := by
   intro m hm h0 h1
   have e := toL_val_take hr.lim (n := m) h0 (h1.imp id fun h => ⟨by omega, h⟩)
   rw [<- e]
   exact hr.take hm
  have Fin := vv fin
  clear fin
  rcases Nat.eq_zero_or_pos k with rfl | hpos
  ·go_wp2
   go_ret
   exact ⟨0, rfl, rfl, Fin.out 0 (Nat.zero_le _) hz (.inl rfl)⟩
  ·obtain ⟨m, rfl⟩ : ∃ m, k = m + 1 := ⟨k - 1, by omega⟩
   obtain ⟨b, off, rfl, hb, hcell⟩ := hr.cell (by omega)
   have hx := hcell m (by omega)
   clear hcell
   by_cases h0 : nth xs m = 0
   ·have h1 : (((nth xs m : Nat) : Int) == 0) = true := by rw [h0]; rfl
    have H0 := vv h0
    clear h0
    go_wp2
    go_round
    case rel => exact ⟨m, by omega, by go_num, fun i hi => by
     rcases Nat.eq_or_lt_of_le hi with rfl | h
     ·exact H0.out
     ·exact hz i (by omega)⟩
    case measure => simp [intOf]
   ·have h1 : (((nth xs m : Nat) : Int) == 0) = false := by rw [beq_eq_false_iff_ne]; omega
    have H0 := vv h0
    clear h0
    go_wp2
    go_ret
    exact ⟨m + 1, rfl, rfl, Fin.out _ (by omega) hz (.inr H0.out)⟩
theorem mk (n : Nat) (h : n <= 1099511627776) (w : World) : (Instr.makeSlice 26 (.int .i64 (n : Int)) (.int .i64 (n : Int))).run Tryz.prog w = .ok (.slice (some ⟨w.heap.size, 0, none⟩) n n) (w.alloc (.cells (madeCells #[.int .u32 0] n) 34)) :=
 run_make_row' (P := Tryz.prog) 26 34 (.int .u32 0) 4 Tryz.underlying26 inf rfl .i64 .i64 n (by omega) (by omega) w
theorem mk1 (n : Nat) (h : n + 1 <= 1099511627776) (w : World) : (Instr.makeSlice 26 (.int .i64 ((n : Int) + 1)) (.int .i64 ((n : Int) + 1))).run Tryz.prog w = .ok (.slice (some ⟨w.heap.size, 0, none⟩) (n + 1) (n + 1)) (w.alloc (.cells (madeCells #[.int .u32 0] (n + 1)) 34)) := mk (n + 1) h w
set_option maxHeartbeats 400000 in
set_option maxRecDepth 100000 in
theorem copied (A : Option Addr) (n c : Nat) (xs : List Nat) (w : World) (hr : Rd w A n c xs) :
  Calls Tryz.prog 248 #[.slice A n c] w fun e w' => e = .returned (.slice (some ⟨w.heap.size, 0, none⟩) n n) /\ Own w' w.heap.size 34 xs /\ Below w.heap.size w w' := by
 have hmk := mk n hr.sm
 have hsm := hr.sm
 have H1 := vv (Own.made w n 34).heap
 have H2 := vv (hr.below ((Below.refl _ w).alloc (Nat.le_refl _) (.cells (madeCells #[.int .u32 0] n) 34)) rfl)
 have H3 : Hid (Below w.heap.size w (w.alloc (.cells (madeCells #[.int .u32 0] n) 34))) := vv ((Below.refl _ w).alloc (Nat.le_refl _) _)
 have HL := vv hr.len
 have Hl : Hid ((u32s xs).length = Nat.min n n) := vv (by simp [u32s, HL.out])
 have Hf : Hid (0 + (u32s xs).length <= (u32s (List.replicate n 0)).length) := vv (by simp [u32s, HL.out])
 have Hs : Hid ((Tryz.prog.info? 34).map (·.size) = some 1) := vv (by kernel_rfl)
 have Hp := vv (H2.out.copyPos (d := some ⟨w.heap.size, 0, none⟩) rfl)
 go_enter Tryz.func248, Tryz.ntmps248
 go_wp2_with (with_reducible refine wpList_copy_splice (o := ⟨some 9, _, _, _, _, _⟩) rfl _ _ 26 26 rfl 34 Tryz.underlying26 Hs.out _ _ n n n c rfl rfl w.heap.size 0 _ 34 H1.out (u32s xs) Hl.out Hp.out Hf.out (u32s_one xs) w.heap.size w H3.out (Nat.le_refl _) ?_)
 intro w' hh hb
 have e : (splice (u32s (List.replicate n 0)) 0 (u32s xs)) = u32s xs := by
  unfold splice
  rw [List.take_zero, List.nil_append, List.drop_of_length_le (by simp [u32s, HL.out]), List.append_nil]
 have hown : Own w' w.heap.size 34 xs := Own.of_heap (by have := hh.out; rw [e] at this; exact this) hr.lim
 clear hh hmk e
 go_wp2
 go_ret
 exact ⟨rfl, hown, hb⟩
theorem fromUint (x : Nat) (w : World) (hx : x < 18446744073709551616) :
  Calls Tryz.prog 295 #[.int .u64 (x : Int)] w (AddPost x w) := by
 go_enter Tryz.func295, Tryz.ntmps295
 go_wp2_with fail
 have hown : Own (w.alloc (.cells #[.int .u32 ((x : Int) % 4294967296), .int .u32 ((x : Int) / 4294967296)] 34)) w.heap.size 34 [x % 4294967296, x / 4294967296] :=
  Own.lit _ (Lim_cons.2 ⟨Nat.mod_lt _ (by omega), Lim_cons.2 ⟨by omega, Lim_nil⟩⟩) (by simp [u32s])
 refine (trim _ _ _ _ _ (hown.rd (n := 2) (c := 2) rfl (Nat.le_refl _) (by omega))).mono ?_
 rintro e w' ⟨m', rfl, rfl, hR'⟩
 go_wp2
 go_ret
 refine ⟨_, m', 2, rfl, ?_, Fr.at_ (Nat.le_refl _), (Below.refl _ _).alloc (Nat.le_refl _) _⟩
 have e : val [x % 4294967296, x / 4294967296] = x := by simp only [val]; omega
 rw [e] at hR'
 exact hR'
theorem toUint (A : Option Addr) (n c : Nat) (xs : List Nat) (w : World) (hr : Rd w A n c xs) :
  Calls Tryz.prog 325 #[.slice A n c] w fun e w' => e = .returned (.int .u64 ((nth xs 0 + 4294967296 * nth xs 1 : Nat) : Int)) /\ w = w' := by
 have hsm := hr.sm
 rcases Nat.lt_trichotomy n 1 with h | h | h
 ·obtain rfl : n = 0 := by omega
  go_enter Tryz.func325, Tryz.ntmps325
  go_wp2
  go_ret
  exact ⟨by rw [nth_ge xs 0 (by rw [hr.len]; omega), nth_ge xs 1 (by rw [hr.len]; omega)]; rfl, rfl⟩
 ·subst h
  obtain ⟨b, off, rfl, hb, hc⟩ := hr.cell (by omega)
  have h0 := hc 0 (by omega)
  rw [Nat.add_zero] at h0
  have hl := hr.nth_lt 0
  clear hc
  go_enter Tryz.func325, Tryz.ntmps325
  go_wp2
  go_ret
  exact ⟨by rw [nth_ge xs 1 (by rw [hr.len]; omega)]; first | rfl | (have e := or32 (nth xs 0) 0 hl (by omega); simp at e; simp [e]), rfl⟩
 ·obtain ⟨b, off, rfl, hb, hc⟩ := hr.cell (by omega)
  have h0 := hc 0 (by omega)
  have h1 := hc 1 (by omega)
  rw [Nat.add_zero] at h0
  have hl := hr.nth_lt 0
  have hl1 := hr.nth_lt 1
  clear hc
  go_enter Tryz.func325, Tryz.ntmps325
  go_wp2
  go_ret
  exact ⟨retI (or32 _ _ hl hl1), rfl⟩
theorem cmpWords (A B : Option Addr) (n m c d : Nat) (xs ys : List Nat) (w : World) (ha : Rd w A n c xs) (hb : Rd w B m d ys) (hx : xs = toL (val xs)) (hy : ys = toL (val ys)) :
  Calls Tryz.prog 313 #[.slice A n c, .slice B m d] w fun e w' => e = .returned (.int .i64 (cmpI (val xs) (val ys))) /\ Below w.heap.size w w' := by
 have hsm := ha.sm
 have hsm' := hb.sm
 have hwx : words (val xs) = n := by unfold words; rw [<- hx, ha.len]
 have hwy : words (val ys) = m := by unfold words; rw [<- hy, hb.len]
 have HX := vv hwx
 have HY := vv hwy
 clear hwx hwy
 clear hx hy
 rcases Nat.lt_trichotomy n m with h | h | h
 ·have C := vv (cmpI_lt (lt_of_words (a := val xs) (b := val ys) (by rw [HX.out, HY.out]; exact h)))
  go_enter Tryz.func313, Tryz.ntmps313
  go_wp2
  go_ret
  exact ⟨retI C.out.symm, Below.refl _ _⟩
 ·subst h
  go_enter Tryz.func313, Tryz.ntmps313
  go_wp2
  go_loopw [5] (fun i wr => ∃ (z : Int) (k : Nat), i = .int .i64 z /\ z + 1 = k /\ k <= n /\ val (xs.drop k) = val (ys.drop k) /\ Below w.heap.size w wr) (fun i _ => (intOf i + 1).toNat)
  case atStart => exact ⟨_, n, rfl, by omega, Nat.le_refl _, by rw [List.drop_of_length_le (by rw [ha.len]; omega), List.drop_of_length_le (by rw [hb.len]; omega)], Below.refl _ _⟩
  case round =>
   obtain ⟨z, k, rfl, hz, hk, hval, hbel⟩ := hrel
   have HV := vv hval
   clear hval
   rcases Nat.eq_zero_or_pos k with rfl | hpos
   ·obtain rfl : z = -1 := by omega
    have C := vv (cmpI_eq (a := val xs) (b := val ys) (by have := HV.out; simpa using this))
    clear hz
    go_wp2
    go_ret
    exact ⟨retI C.out.symm, hbel⟩
   ·obtain ⟨j, rfl⟩ : ∃ j, k = j + 1 := ⟨k - 1, by omega⟩
    obtain rfl : z = (j : Int) := by omega
    clear hz
    obtain ⟨b, off, rfl, hbl, hcell⟩ := ha.cell (by omega)
    have hxc : wr.cell? ⟨b, off + j, none⟩ = some (.int .u32 ((nth xs j : Nat) : Int)) := (hbel.cell (p := ⟨b, off + j, none⟩) hbl).trans (hcell j (by omega))
    clear hcell
    obtain ⟨b', off', rfl, hbl', hcell'⟩ := hb.cell (by omega)
    have hyc : wr.cell? ⟨b', off' + j, none⟩ = some (.int .u32 ((nth ys j : Nat) : Int)) := (hbel.cell (p := ⟨b', off' + j, none⟩) hbl').trans (hcell' j (by omega))
    clear hcell'
    have i1 : (j : Int) < (n : Int) := by omega
    have i2 : (0 : Int) <= (j : Int) := by omega
    rcases Nat.lt_trichotomy (nth xs j) (nth ys j) with hlt | heq | hgt
    ·have C := vv (cmpI_lt (lt_of_top ha.lim (by rw [ha.len]; omega) (by rw [hb.len]; omega) HV.out hlt))
     go_wp2_with fail
     go_quiet (fail)
     go_wp2
     go_ret
     exact ⟨retI C.out.symm, below_drewN hbel _⟩
    ·have d1 : decide (nth xs j < nth ys j) = false := by simp; omega
     have d2 : decide (nth ys j < nth xs j) = false := by simp; omega
     have HQ : Hid (val (xs.drop j) = val (ys.drop j)) := vv (by rw [val_drop_nth xs, val_drop_nth ys, HV.out, heq])
     clear heq
     go_wp2_with fail
     go_quiet (fail)
     go_wp2_with fail
     go_quiet (fail)
     go_wp2
     go_roundw
     case rel => exact ⟨_, j, rfl, by omega, by omega, HQ.out, below_drewN hbel _⟩
     case measure => simp [intOf]
    ·have C := vv (cmpI_gt (lt_of_top hb.lim (by rw [hb.len]; omega) (by rw [ha.len]; omega) HV.out.symm hgt))
     have d1 : decide (nth xs j < nth ys j) = false := by simp; omega
     go_wp2_with fail
     go_quiet (fail)
     go_wp2_with fail
     go_quiet (fail)
     go_wp2
     go_ret
     exact ⟨retI C.out.symm, below_drewN (below_drewN hbel _) _⟩
 ·have C := vv (cmpI_gt (lt_of_words (a := val ys) (b := val xs) (by rw [HX.out, HY.out]; exact h)))
  have hd : decide (n < m) = false := by simp; omega
  go_enter Tryz.func313, Tryz.ntmps313
  go_wp2
  go_ret
  exact ⟨retI C.out.symm, Below.refl _ _⟩
theorem addWords_ge (A B : Option Addr) (n m c d : Nat) (xs ys : List Nat) (w : World) (ha : Rd w A n c xs) (hb : Rd w B m d ys) (hn : n <= 549755813888) (hm : m <= n) :
  Calls Tryz.prog 324 #[.slice A n c, .slice B m d] w (AddPost (val xs + val ys) w) := by
 have hmk := mk1 n (by omega)
 go_enter Tryz.func324, Tryz.ntmps324
 go_wp2
 go_loopw [6, 7] (fun q i wr => ∃ (k y : Nat) (U : List Nat), i = .int .i64 k /\ k <= n /\ q = .int .u64 y /\ y <= 1 /\ U.length = n + 1 /\ Own wr w.heap.size 34 U /\
   val (U.take k) + 4294967296 ^ k * y = val (xs.take k) + val (ys.take k) /\ Below w.heap.size w wr) (fun _ i _ => n - (intOf i).toNat)
 case atStart => exact ⟨0, 0, List.replicate (n + 1) 0, rfl, Nat.zero_le _, rfl, by omega, by simp, Own.made _ _ _, by simp [val], (Below.refl _ _).alloc (Nat.le_refl _) _⟩
 case round =>
  obtain ⟨k, y, U, rfl, hk, rfl, hy, hUl, hrow, hval, hbel⟩ := hrel
  have HV := vv hval
  clear hval
  have HL := vv hUl
  have hg := hrow.lt
  by_cases hkn : k < n
  ·obtain ⟨b, off, rfl, hbl, hcell⟩ := ha.cell (by omega)
   have hx : wr.cell? ⟨b, off + k, none⟩ = some (.int .u32 ((nth xs k : Nat) : Int)) := (hbel.cell (p := ⟨b, off + k, none⟩) hbl).trans (hcell k hkn)
   clear hcell
   have hxl := ha.nth_lt k
   have ho := hrow.cell (i := k) (by omega)
   have hf := hrow.frozen k
   clear hUl
   by_cases hkm : k < m
   ·obtain ⟨b', off', rfl, hbl', hcell'⟩ := hb.cell (by omega)
    have hyc : wr.cell? ⟨b', off' + k, none⟩ = some (.int .u32 ((nth ys k : Nat) : Int)) := (hbel.cell (p := ⟨b', off' + k, none⟩) hbl').trans (hcell' k hkm)
    clear hcell'
    have hyl := hb.nth_lt k
    go_wp2
    go_roundw
    case rel => exact ⟨k + 1, (nth xs k + y + nth ys k) / 4294967296, U.set k ((nth xs k + y + nth ys k) % 4294967296), by go_num, by omega, by go_num, by omega, by rw [List.length_set]; exact HL.out,
     hrow.set (by rw [HL.out]; omega) (Nat.mod_lt _ (by omega)) (by omega), add_step (by rw [HL.out]; omega) HV.out, hbel.setCell (Nat.le_refl _) _⟩
    case measure => simp [intOf]; omega
   ·have e0 : nth ys k = 0 := nth_ge ys k (by rw [hb.len]; omega)
    have E0 := vv e0
    clear e0
    go_wp2
    go_roundw
    case rel => exact ⟨k + 1, (nth xs k + y + nth ys k) / 4294967296, U.set k ((nth xs k + y + nth ys k) % 4294967296), by go_num, by omega, by rw [E0.out]; go_num, by rw [E0.out]; omega, by rw [List.length_set]; exact HL.out,
     hrow.set (by rw [HL.out]; omega) (Nat.mod_lt _ (by omega)) (by rw [E0.out]; omega), add_step (by rw [HL.out]; omega) HV.out, hbel.setCell (Nat.le_refl _) _⟩
    case measure => simp [intOf]; omega
  ·obtain rfl : k = n := by omega
   have ho := hrow.cell (i := k) (by omega)
   have hf := hrow.frozen k
   clear hUl
   have hown := hrow.set (i := k) (x := y) (z := (y : Int)) (by rw [HL.out]; omega) (by omega) rfl
   have hR := vv (hown.rd (n := k + 1) (c := k + 1) (by rw [List.length_set, HL.out]) (Nat.le_refl _) (by omega))
   have hbel' := hbel.setCell (p := ⟨w.heap.size, k, none⟩) (Nat.le_refl _) (.int .u32 (y : Int))
   clear hown
   go_wp2_with fail
   refine (trim _ _ _ _ _ hR.out).mono ?_
   rintro e w' ⟨m', rfl, rfl, hR'⟩
   go_wp2
   go_ret
   refine ⟨_, m', k + 1, rfl, ?_, Fr.at_ (Nat.le_refl _), hbel'⟩
   have e : val (U.set k y) = val xs + val ys := by
    have := val_take_set U k y (by rw [HL.out]; omega)
    have h2 := HV.out
    rw [List.take_of_length_le (by rw [List.length_set, HL.out]; omega)] at this
    rw [List.take_of_length_le (l := xs) (by rw [ha.len]; omega), List.take_of_length_le (l := ys) (by rw [hb.len]; omega)] at h2
    omega
   rw [<- e]
   exact hR'
theorem addWords_lt (A B : Option Addr) (n m c d : Nat) (xs ys : List Nat) (w : World) (ha : Rd w A n c xs) (hb : Rd w B m d ys) (hn : n <= 549755813888) (hm : m < n) :
  Calls Tryz.prog 324 #[.slice B m d, .slice A n c] w (AddPost (val xs + val ys) w) := by
 have hmk := mk1 n (by omega)
 go_enter Tryz.func324, Tryz.ntmps324
 go_wp2
 go_loopw [6, 7] (fun q i wr => ∃ (k y : Nat) (U : List Nat), i = .int .i64 k /\ k <= n /\ q = .int .u64 y /\ y <= 1 /\ U.length = n + 1 /\ Own wr w.heap.size 34 U /\
   val (U.take k) + 4294967296 ^ k * y = val (xs.take k) + val (ys.take k) /\ Below w.heap.size w wr) (fun _ i _ => n - (intOf i).toNat)
 case atStart => exact ⟨0, 0, List.replicate (n + 1) 0, rfl, Nat.zero_le _, rfl, by omega, by simp, Own.made _ _ _, by simp [val], (Below.refl _ _).alloc (Nat.le_refl _) _⟩
 case round =>
  obtain ⟨k, y, U, rfl, hk, rfl, hy, hUl, hrow, hval, hbel⟩ := hrel
  have HV := vv hval
  clear hval
  have HL := vv hUl
  have hg := hrow.lt
  by_cases hkn : k < n
  ·obtain ⟨b, off, rfl, hbl, hcell⟩ := ha.cell (by omega)
   have hx : wr.cell? ⟨b, off + k, none⟩ = some (.int .u32 ((nth xs k : Nat) : Int)) := (hbel.cell (p := ⟨b, off + k, none⟩) hbl).trans (hcell k hkn)
   clear hcell
   have hxl := ha.nth_lt k
   have ho := hrow.cell (i := k) (by omega)
   have hf := hrow.frozen k
   clear hUl
   by_cases hkm : k < m
   ·obtain ⟨b', off', rfl, hbl', hcell'⟩ := hb.cell (by omega)
    have hyc : wr.cell? ⟨b', off' + k, none⟩ = some (.int .u32 ((nth ys k : Nat) : Int)) := (hbel.cell (p := ⟨b', off' + k, none⟩) hbl').trans (hcell' k hkm)
    clear hcell'
    have hyl := hb.nth_lt k
    go_wp2
    go_roundw
    case rel => exact ⟨k + 1, (nth xs k + y + nth ys k) / 4294967296, U.set k ((nth xs k + y + nth ys k) % 4294967296), by go_num, by omega, by go_num, by omega, by rw [List.length_set]; exact HL.out,
     hrow.set (by rw [HL.out]; omega) (Nat.mod_lt _ (by omega)) (by omega), add_step (by rw [HL.out]; omega) HV.out, hbel.setCell (Nat.le_refl _) _⟩
    case measure => simp [intOf]; omega
   ·have e0 : nth ys k = 0 := nth_ge ys k (by rw [hb.len]; omega)
    have E0 := vv e0
    clear e0
    go_wp2
    go_roundw
    case rel => exact ⟨k + 1, (nth xs k + y + nth ys k) / 4294967296, U.set k ((nth xs k + y + nth ys k) % 4294967296), by go_num, by omega, by rw [E0.out]; go_num, by rw [E0.out]; omega, by rw [List.length_set]; exact HL.out,
     hrow.set (by rw [HL.out]; omega) (Nat.mod_lt _ (by omega)) (by rw [E0.out]; omega), add_step (by rw [HL.out]; omega) HV.out, hbel.setCell (Nat.le_refl _) _⟩
    case measure => simp [intOf]; omega
  ·obtain rfl : k = n := by omega
   have ho := hrow.cell (i := k) (by omega)
   have hf := hrow.frozen k
   clear hUl
   have hown := hrow.set (i := k) (x := y) (z := (y : Int)) (by rw [HL.out]; omega) (by omega) rfl
   have hR := vv (hown.rd (n := k + 1) (c := k + 1) (by rw [List.length_set, HL.out]) (Nat.le_refl _) (by omega))
   have hbel' := hbel.setCell (p := ⟨w.heap.size, k, none⟩) (Nat.le_refl _) (.int .u32 (y : Int))
   clear hown
   go_wp2_with fail
   refine (trim _ _ _ _ _ hR.out).mono ?_
   rintro e w' ⟨m', rfl, rfl, hR'⟩
   go_wp2
   go_ret
   refine ⟨_, m', k + 1, rfl, ?_, Fr.at_ (Nat.le_refl _), hbel'⟩
   have e : val (U.set k y) = val xs + val ys := by
    have := val_take_set U k y (by rw [HL.out]; omega)
    have h2 := HV.out
    rw [List.take_of_length_le (by rw [List.length_set, HL.out]; omega)] at this
    rw [List.take_of_length_le (l := xs) (by rw [ha.len]; omega), List.take_of_length_le (l := ys) (by rw [hb.len]; omega)] at h2
    omega
   rw [<- e]
   exact hR'
theorem addWords (A B : Option Addr) (n m c d : Nat) (xs ys : List Nat) (w : World) (ha : Rd w A n c xs) (hb : Rd w B m d ys) (hn : n <= 549755813888) (hm : m <= 549755813888) :
  Calls Tryz.prog 324 #[.slice A n c, .slice B m d] w (AddPost (val xs + val ys) w) := by
 rcases Nat.lt_or_ge n m with h | h
 ·rw [Nat.add_comm]
  exact addWords_lt B A m n d c ys xs w hb ha hm h
 ·exact addWords_ge A B n m c d xs ys w ha hb hn h
theorem subWords (A B : Option Addr) (n m c d : Nat) (xs ys : List Nat) (w : World) (ha : Rd w A n c xs) (hb : Rd w B m d ys) (hle : val ys <= val xs) (hm : m <= n) :
  Calls Tryz.prog 351 #[.slice A n c, .slice B m d] w (AddPost (val xs - val ys) w) := by
 have hmk := mk n ha.sm
 have hsm := ha.sm
 go_enter Tryz.func351, Tryz.ntmps351
 go_wp2
 go_loopw [6, 7] (fun q i wr => ∃ (k y : Nat) (U : List Nat), i = .int .i64 k /\ k <= n /\ q = .int .u64 y /\ y <= 1 /\ U.length = n /\ Own wr w.heap.size 34 U /\
   val (U.take k) + val (ys.take k) = val (xs.take k) + 4294967296 ^ k * y /\ Below w.heap.size w wr) (fun _ i _ => n - (intOf i).toNat)
 case atStart => exact ⟨0, 0, List.replicate n 0, rfl, Nat.zero_le _, rfl, by omega, by simp, Own.made _ _ _, by simp [val], (Below.refl _ _).alloc (Nat.le_refl _) _⟩
 case round =>
  obtain ⟨k, y, U, rfl, hk, rfl, hy, hUl, hrow, hval, hbel⟩ := hrel
  have HV := vv hval
  clear hval
  have HL := vv hUl
  have hg := hrow.lt
  by_cases hkn : k < n
  ·obtain ⟨b, off, rfl, hbl, hcell⟩ := ha.cell (by omega)
   have hx : wr.cell? ⟨b, off + k, none⟩ = some (.int .u32 ((nth xs k : Nat) : Int)) := (hbel.cell (p := ⟨b, off + k, none⟩) hbl).trans (hcell k hkn)
   clear hcell
   have hxl := ha.nth_lt k
   have ho := hrow.cell (i := k) (by omega)
   have hf := hrow.frozen k
   clear hUl
   by_cases hkm : k < m
   ·obtain ⟨b', off', rfl, hbl', hcell'⟩ := hb.cell (by omega)
    have hyc : wr.cell? ⟨b', off' + k, none⟩ = some (.int .u32 ((nth ys k : Nat) : Int)) := (hbel.cell (p := ⟨b', off' + k, none⟩) hbl').trans (hcell' k hkm)
    clear hcell'
    have hyl := hb.nth_lt k
    by_cases h1 : nth ys k + y <= nth xs k
    ·go_wp2
     go_roundw
     case rel => exact ⟨k + 1, 0, U.set k (nth xs k - y - nth ys k), by go_num, by omega, by go_num, by omega, by rw [List.length_set]; exact HL.out,
      hrow.set (by rw [HL.out]; omega) (by omega) (by omega), sub_step (by rw [HL.out]; omega) HV.out (by omega), hbel.setCell (Nat.le_refl _) _⟩
     case measure => simp [intOf]; omega
    ·have S := vv (sub64 (nth xs k) y (nth ys k) hxl hy hyl (nth xs k + 4294967296 - y - nth ys k) 1 (by omega) (by omega) (by omega))
     go_wp2
     go_roundw
     case rel => exact ⟨k + 1, 1, U.set k (nth xs k + 4294967296 - y - nth ys k), by go_num, by omega, congrArg _ S.out.1, by omega, by rw [List.length_set]; exact HL.out,
      hrow.set (by rw [HL.out]; omega) (by omega) S.out.2, sub_step (by rw [HL.out]; omega) HV.out (by omega), hbel.setCell (Nat.le_refl _) _⟩
     case measure => simp [intOf]; omega
   ·have E0 := vv (nth_ge ys k (by rw [hb.len]; omega))
    by_cases h1 : y <= nth xs k
    ·go_wp2
     go_roundw
     case rel => exact ⟨k + 1, 0, U.set k (nth xs k - y), by go_num, by omega, by go_num, by omega, by rw [List.length_set]; exact HL.out,
      hrow.set (by rw [HL.out]; omega) (by omega) (by omega), sub_step (by rw [HL.out]; omega) HV.out (by rw [E0.out]; omega), hbel.setCell (Nat.le_refl _) _⟩
     case measure => simp [intOf]; omega
    ·have S := vv (sub64' (nth xs k) y hxl hy (nth xs k + 4294967296 - y) 1 (by omega) (by omega) (by omega))
     go_wp2
     go_roundw
     case rel => exact ⟨k + 1, 1, U.set k (nth xs k + 4294967296 - y), by go_num, by omega, congrArg _ S.out.1, by omega, by rw [List.length_set]; exact HL.out,
      hrow.set (by rw [HL.out]; omega) (by omega) S.out.2, sub_step (by rw [HL.out]; omega) HV.out (by rw [E0.out]; omega), hbel.setCell (Nat.le_refl _) _⟩
     case measure => simp [intOf]; omega
  ·obtain rfl : k = n := by omega
   clear hUl
   have hR := vv (hrow.rd (n := k) (c := k) HL.out.symm (Nat.le_refl _) (by omega))
   go_wp2_with fail
   refine (trim _ _ _ _ _ hR.out).mono ?_
   rintro e w' ⟨m', rfl, rfl, hR'⟩
   go_wp2
   go_ret
   refine ⟨_, m', k, rfl, ?_, Fr.at_ (Nat.le_refl _), hbel⟩
   rw [<- sub_done HL.out (by rw [ha.len]; omega) (by rw [hb.len]; omega) hrow.2 hle HV.out]
   exact hR'
theorem plain (A B : Option Addr) (n m c d : Nat) (xs ys : List Nat) (w : World) (ha : Rd w A n c xs) (hb : Rd w B m d ys) (hs : n + m <= 1099511627776) :
  Calls Tryz.prog 349 #[.slice A n c, .slice B m d] w (AddPost (val xs * val ys) w) := by
 have hmk := mk (n + m) hs
 have ec : ((n + m : Nat) : Int) = (n : Int) + (m : Int) := by omega
 rw [ec] at hmk
 clear ec
 go_enter Tryz.func349, Tryz.ntmps349
 go_wp2
 go_loopw [6] (fun i wr => ∃ (k : Nat) (U : List Nat), i = .int .i64 k /\ k <= n /\ U.length = n + m /\ Own wr w.heap.size 34 U /\
   val (U.take (k + m)) = val (xs.take k) * val ys /\ Below w.heap.size w wr) (fun i _ => n - (intOf i).toNat)
 case atStart => exact ⟨0, List.replicate (n + m) 0, rfl, Nat.zero_le _, by simp, Own.made _ _ _, by simp [val, List.take_replicate, val_replicate], (Below.refl _ _).alloc (Nat.le_refl _) _⟩
 case round =>
  obtain ⟨k, U, rfl, hk, hUl, hrow, hval, hbel⟩ := hrel
  have HV := vv hval
  have HL := vv hUl
  clear hval hUl
  obtain ⟨wo, rfl⟩ : ∃ wo : World, wo = wr := ⟨_, rfl⟩
  by_cases hkn : k < n
  ·obtain ⟨b, off, rfl, hbl, hcell⟩ := ha.cell (by omega)
   have hx : wo.cell? ⟨b, off + k, none⟩ = some (.int .u32 ((nth xs k : Nat) : Int)) := (hbel.cell (p := ⟨b, off + k, none⟩) hbl).trans (hcell k hkn)
   clear hcell
   have hxl := ha.nth_lt k
   go_wp2
   go_loopw [7, 9] (fun q i wr => ∃ (j y : Nat) (V : List Nat), i = .int .i64 j /\ j <= m /\ q = .int .u64 y /\ y < 4294967296 /\ V.length = n + m /\ Own wr w.heap.size 34 V /\
    (∀ p, k + j <= p -> nth V p = nth U p) /\ val (V.take (k + j)) + 4294967296 ^ (k + j) * y = val (U.take (k + j)) + 4294967296 ^ k * (nth xs k * val (ys.take j)) /\ Below w.heap.size w wr) (fun _ i _ => m - (intOf i).toNat)
   case atStart => exact ⟨0, 0, U, rfl, Nat.zero_le _, rfl, by omega, HL.out, hrow, fun _ _ => rfl, by simp [val], hbel⟩
   case round =>
    clear hx
    obtain ⟨j, y, V, rfl, hj, rfl, hy, hVl, hown, hsame, hval, hbel'⟩ := hrel
    have HV' := vv hval
    have HL' := vv hVl
    have HS := vv hsame
    clear hval hVl hsame
    have hg := hown.lt
    by_cases hjm : j < m
    ·obtain ⟨b', off', rfl, hbl', hcell'⟩ := hb.cell (by omega)
     have hyc : wr.cell? ⟨b', off' + j, none⟩ = some (.int .u32 ((nth ys j : Nat) : Int)) := (hbel'.cell (p := ⟨b', off' + j, none⟩) hbl').trans (hcell' j hjm)
     clear hcell'
     have hyl := hb.nth_lt j
     have ho := hown.cell (i := k + j) (by rw [HL'.out]; omega)
     have hf := hown.frozen (k + j)
     have hol := hown.nth_lt (k + j)
     have hxy : ((nth xs k : Nat) : Int) * ((nth ys j : Nat) : Int) <= 18446744065119617025 := by
      have := mul_bound hxl hyl
      omega
     have hxy0 : (0 : Int) <= ((nth xs k : Nat) : Int) * ((nth ys j : Nat) : Int) := Int.mul_nonneg (Int.natCast_nonneg _) (Int.natCast_nonneg _)
     have i1 : (j : Int) < (m : Int) := by omega
     have i2 : (0 : Int) <= (j : Int) := by omega
     have i3 : (k : Int) + (j : Int) < (n : Int) + (m : Int) := by omega
     have i4 : (0 : Int) <= (k : Int) + (j : Int) := by omega
     go_wp2_with fail
     go_quiet (fail)
     have HB := vv (mul_bound hxl hyl)
     have HO := vv hown
     clear hown
     go_wp2
     go_roundw
     case rel =>
      have hd : (nth xs k * nth ys j + nth V (k + j) + y) / 4294967296 < 4294967296 := by have := HB.out; omega
      refine ⟨j + 1, (nth xs k * nth ys j + nth V (k + j) + y) / 4294967296, V.set (k + j) ((nth xs k * nth ys j + nth V (k + j) + y) % 4294967296), by go_num, by omega, congrArg _ (by omega), hd, by rw [List.length_set]; exact HL'.out,
       (HO.out.drewN _).set (by rw [HL'.out]; omega) (Nat.mod_lt _ (by omega)) (by omega), fun p hp => ?_, mul_step (by rw [HL'.out]; omega) (HS.out _ (Nat.le_refl _)) HV'.out, (below_drewN hbel' _).setCell (Nat.le_refl _) _⟩
      rw [nth_set_ne _ _ (by omega)]
      exact HS.out p (by omega)
     case measure => simp [intOf]; omega
    ·obtain rfl : j = m := by omega
     have ho := hown.cell (i := k + j) (by rw [HL'.out]; omega)
     have hf := hown.frozen (k + j)
     have HO := vv hown
     clear hown
     go_wp2
     go_roundw
     case rel =>
      exact ⟨k + 1, V.set (k + j) y, by go_num, by omega, by rw [List.length_set]; exact HL'.out, HO.out.set (by rw [HL'.out]; omega) hy rfl, mul_row hb.len (by rw [HL'.out]; omega) HV.out HV'.out, hbel'.setCell (Nat.le_refl _) _⟩
     case measure => simp [intOf]; omega
  ·obtain rfl : k = n := by omega
   have hR := vv (hrow.rd (n := k + m) (c := k + m) HL.out.symm (Nat.le_refl _) (by omega))
   go_wp2_with fail
   refine (trim _ _ _ _ _ hR.out).mono ?_
   rintro e w' ⟨m', rfl, rfl, hR'⟩
   go_wp2
   go_ret
   refine ⟨_, m', k + m, rfl, ?_, Fr.at_ (Nat.le_refl _), hbel⟩
   have e := HV.out
   rw [take_all (xs := U) (by rw [HL.out]; omega), take_all (xs := xs) (by rw [ha.len]; omega)] at e
   rw [<- e]
   exact hR'
theorem addAt (g n c' : Nat) (U : List Nat) (B : Option Addr) (m d at_ N : Nat) (z : Int) (hz : z = (at_ : Int)) (w : World) (ho : Own w g 34 U) (hn : U.length = n) (hs : n <= 1099511627776) (hb : Rd w B m d (toL N)) (hne : ∀ a, B = some a -> a.block ≠ g)
  (hat : at_ <= n) (hfit : val U + 4294967296 ^ at_ * N < 4294967296 ^ n) :
  Calls Tryz.prog 350 #[.slice (some ⟨g, 0, none⟩) n c', .slice B m d, .int .i64 z] w fun e w' => e = .returned (.tuple #[]) /\
   (∃ V : List Nat, Own w' g 34 V /\ V.length = n /\ val V = val U + 4294967296 ^ at_ * N) /\ w.grownBy w' (some g) := by
 subst hz
 have HF := vv hfit
 have HN := vv hn
 clear hfit hn
 have hsm := hb.sm
 go_enter Tryz.func350, Tryz.ntmps350
 go_wp2
 go_loopw [6, 7] (fun q i wr => ∃ (k y : Nat) (V : List Nat), i = .int .i64 k /\ q = .int .u64 y /\ y <= 1 /\ k <= n /\ V.length = n /\ Own wr g 34 V /\
   (∀ p, at_ + k <= p -> nth V p = nth U p) /\ val (V.take (at_ + k)) + 4294967296 ^ (at_ + k) * y = val (U.take (at_ + k)) + 4294967296 ^ at_ * val ((toL N).take k) /\ w.grownBy wr (some g)) (fun _ i _ => n - (intOf i).toNat)
 case atStart => exact ⟨0, 0, U, rfl, rfl, by omega, Nat.zero_le _, HN.out, ho, fun _ _ => rfl, by simp [val], World.grownBy.refl _ _⟩
 case round =>
  obtain ⟨k, y, V, rfl, rfl, hy, hk, hVl, hown, hsame, hval, honly⟩ := hrel
  have HV := vv hval
  have HL := vv hVl
  have HS := vv hsame
  have HO := vv hown
  have HLb := vv hb.len
  have HR := vv (fun hc => addAt_room HF.out hval (k := k) (y := y) hc)
  clear hval hVl hsame
  by_cases hkm : k < m
  ·have hroom : at_ + k < n := HR.out (.inl (by rw [HLb.out]; exact hkm))
   obtain ⟨b, off, rfl, hbl, hcell⟩ := hb.cell (by omega)
   have hbg : b ≠ g := hne _ rfl
   have hyc : wr.cell? ⟨b, off + k, none⟩ = some (.int .u32 ((nth (toL N) k : Nat) : Int)) := (only_cell honly (p := ⟨b, off + k, none⟩) hbl hbg).trans (hcell k hkm)
   clear hcell
   have hyl := hb.nth_lt k
   have hx := hown.cell (i := at_ + k) (by rw [HL.out]; omega)
   have hf := hown.frozen (at_ + k)
   have hxl := hown.nth_lt (at_ + k)
   clear hown
   go_wp2
   go_roundw
   case rel =>
    refine ⟨k + 1, (nth V (at_ + k) + y + nth (toL N) k) / 4294967296, V.set (at_ + k) ((nth V (at_ + k) + y + nth (toL N) k) % 4294967296), by go_num, congrArg _ (by omega), by omega, by omega, by rw [List.length_set]; exact HL.out,
     HO.out.set (by rw [HL.out]; omega) (Nat.mod_lt _ (by omega)) (by omega), fun p hp => ?_, addAt_step (by rw [HL.out]; omega) (HS.out _ (Nat.le_refl _)) HV.out (by omega), only_setCell honly (.inl rfl) _⟩
    rw [nth_set_ne _ _ (by omega)]
    exact HS.out p (by omega)
   case measure => simp [intOf]; omega
  ·have E0 := vv (nth_ge (toL N) k (by rw [hb.len]; omega))
   rcases Nat.eq_zero_or_pos y with rfl | hpos
   ·go_wp2
    go_end0
    exact ⟨rfl, ⟨V, HO.out, HL.out, addAt_done (by rw [HL.out, HN.out]) HS.out (by rw [HLb.out]; omega) HV.out⟩, honly⟩
   ·have hroom : at_ + k < n := HR.out (.inr hpos)
    have hx := hown.cell (i := at_ + k) (by rw [HL.out]; omega)
    have hf := hown.frozen (at_ + k)
    have hxl := hown.nth_lt (at_ + k)
    clear hown
    go_wp2
    go_roundw
    case rel =>
     refine ⟨k + 1, (nth V (at_ + k) + y) / 4294967296, V.set (at_ + k) ((nth V (at_ + k) + y) % 4294967296), by go_num, congrArg _ (by omega), by omega, by omega, by rw [List.length_set]; exact HL.out,
      HO.out.set (by rw [HL.out]; omega) (Nat.mod_lt _ (by omega)) (by omega), fun p hp => ?_, addAt_step (by rw [HL.out]; omega) (HS.out _ (Nat.le_refl _)) HV.out (by rw [E0.out]; omega), only_setCell honly (.inl rfl) _⟩
     rw [nth_set_ne _ _ (by omega)]
     exact HS.out p (by omega)
    case measure => simp [intOf]; omega
end Go.Proofs.YtddaldghlinokaaGreatDoor.A
