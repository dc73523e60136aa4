/- Lemmas. -/
import Derived.Test.YtddaldghlinokaaGreatDoorPartAI
import Derived.Test.YtddaldghlinokaaGreatDoorPartAG
import Derived.Test.YtddaldghlinokaaGreatDoorPartAB
import Derived.Test.YtddaldghlinokaaGreatDoorPartAM
set_option linter.all false
namespace Go.Proofs.YtddaldghlinokaaGreatDoor.B
open Go Go.RowKit
end Go.Proofs.YtddaldghlinokaaGreatDoor.B
namespace Go.Proofs.YtddaldghlinokaaGreatDoor.A
open Go Go.RowKit
theorem len32 (x : Nat) (w : World) (h : x < 4294967296) : Calls Tryz.prog 165 #[.int .u32 (x : Int)] w fun e w' => e = .returned (.int .i64 ((bl x : Nat) : Int)) /\ w = w' :=
 (Tryz.bits_Len32 x w (by omega) (by omega)).mono fun e w' ⟨h1, h2⟩ => ⟨by rw [h1, Int.toNat_natCast, lib_bl (by omega)], h2.symm⟩
theorem lz32 (x : Nat) (w : World) (h : x < 4294967296) : Calls Tryz.prog 139 #[.int .u32 (x : Int)] w fun e w' => e = .returned (.int .i64 ((32 - bl x : Nat) : Int)) /\ w = w' :=
 (Tryz.bits_LeadingZeros32 x w (by omega) (by omega)).mono fun e w' ⟨h1, h2⟩ => ⟨by
  have hb : bl x <= 32 := bl_le (by omega)
  rw [h1, Int.toNat_natCast, lib_bl (by omega)]; exact retI (by omega), h2.symm⟩
theorem bitLen (A : Option Addr) (n c N : Nat) (w : World) (ha : Rd w A n c (toL N)) :
  Calls Tryz.prog 213 #[.slice A n c] w fun e w' => e = .returned (.int .i64 ((bl N : Nat) : Int)) /\ w = w' := by
 have hsm := ha.sm
 have hw := ha.words
 rcases Nat.eq_zero_or_pos n with rfl | hpos
 ·have h0 : N = 0 := words_eq_zero.1 hw
  subst h0
  go_enter Tryz.func213, Tryz.ntmps213
  go_wp2
  go_ret
  exact ⟨rfl, rfl⟩
 ·have h0 : 0 < N := by
   rcases Nat.eq_zero_or_pos N with h | h
   ·subst h; rw [words_zero] at hw; omega
   ·exact h
  obtain ⟨e1, _⟩ := bl_words h0
  rw [hw] at e1
  obtain ⟨m, rfl⟩ : ∃ m, n = m + 1 := ⟨n - 1, by omega⟩
  rw [Nat.add_sub_cancel] at e1
  have E1 := vv e1
  clear e1 hw
  obtain ⟨b, off, rfl, hb, hc⟩ := ha.cell (by omega)
  have hx := hc m (by omega)
  have hl := ha.nth_lt m
  clear hc
  have hbl : bl (nth (toL N) m) <= 32 := bl_le (by omega)
  go_enter Tryz.func213, Tryz.ntmps213
  go_wp2_with fail
  refine (len32 _ _ hl).mono ?_
  rintro e w' ⟨rfl, rfl⟩
  go_wp2
  go_ret
  exact ⟨retI (by rw [E1.out]; omega), rfl⟩
theorem divSmall (A : Option Addr) (n c d : Nat) (xs : List Nat) (w : World) (ha : Rd w A n c xs) (hd : 0 < d) (hd' : d < 4294967296) :
  Calls Tryz.prog 369 #[.slice A n c, .int .u32 (d : Int)] w fun e w' => ∃ A' m c', e = .returned (.tuple #[.slice A' m c', .int .u32 ((val xs % d : Nat) : Int)]) /\ Rd w' A' m c' (toL (val xs / d)) /\ Fr w.heap.size A' /\ Below w.heap.size w w' := by
 have hmk := mk n ha.sm
 have hsm := ha.sm
 go_enter Tryz.func369, Tryz.ntmps369
 go_wp2
 go_loopw [7, 8] (fun q i wr => ∃ (k : Nat) (z : Int) (r : Nat) (V : List Nat), i = .int .i64 z /\ z + 1 = k /\ k <= n /\ q = .int .u64 r /\ r < d /\ r = (val xs / 4294967296 ^ k) % d /\ V.length = n /\ Own wr w.heap.size 34 V /\
   (∀ j, k <= j -> nth V j = (val xs / d) / 4294967296 ^ j % 4294967296) /\ Below w.heap.size w wr) (fun _ i _ => (intOf i + 1).toNat)
 case atStart =>
  have e0 : val xs / 4294967296 ^ n = 0 := Nat.div_eq_of_lt ha.lt
  refine ⟨n, _, 0, List.replicate n 0, rfl, by omega, Nat.le_refl _, rfl, hd, by rw [e0]; simp, by simp, Own.made _ _ _, fun j hj => ?_, (Below.refl _ _).alloc (Nat.le_refl _) _⟩
  have h1 : val xs / d / 4294967296 ^ j = 0 := by
   rw [Nat.div_div_eq_div_mul, Nat.mul_comm, <- Nat.div_div_eq_div_mul, Nat.div_eq_of_lt (lt_pow_le ha.lt hj)]; simp
  rw [h1, nth_replicate]
 case round =>
  obtain ⟨k, z, r, V, rfl, hz, hk, rfl, hr, hrv, hVl, hown, hsame, hbel⟩ := hrel
  have HR := vv hrv
  have HL := vv hVl
  have HS := vv hsame
  have HO := vv hown
  clear hrv hVl hsame
  rcases Nat.eq_zero_or_pos k with rfl | hpos
  ·obtain rfl : z = -1 := by omega
   clear hz
   have hv : val V = val xs / d := by
    have := val_of_digits (U := V) (Q := val xs / d) fun i _ => HS.out i (Nat.zero_le _)
    rw [this, HL.out]
    exact Nat.mod_eq_of_lt (Nat.lt_of_le_of_lt (Nat.div_le_self _ _) ha.lt)
   have HV := vv hv
   clear hv
   have hR := vv (hown.rd (n := n) (c := n) HL.out.symm (Nat.le_refl _) hsm)
   have hr0 : val xs % d = r := by have := HR.out; rw [Nat.pow_zero, Nat.div_one] at this; exact this.symm
   have HR0 := vv hr0
   clear hr0 hown
   go_wp2_with fail
   refine (trim _ _ _ _ _ hR.out).mono ?_
   rintro e w' ⟨m', rfl, rfl, hR'⟩
   rw [HV.out] at hR'
   go_wp2
   go_ret2
   refine ⟨_, m', n, ?_, hR', Fr.at_ (Nat.le_refl _), hbel⟩
   rw [HR0.out]
   first | rfl | simp
  ·obtain ⟨j, rfl⟩ : ∃ j, k = j + 1 := ⟨k - 1, by omega⟩
   obtain rfl : z = (j : Int) := by omega
   clear hz
   obtain ⟨b, off, rfl, hbl, hcell⟩ := ha.cell (by omega)
   have hx : wr.cell? ⟨b, off + j, none⟩ = some (.int .u32 ((nth xs j : Nat) : Int)) := (hbel.cell (p := ⟨b, off + j, none⟩) hbl).trans (hcell j (by omega))
   clear hcell
   have hxl := ha.nth_lt j
   have ho := hown.cell (i := j) (by rw [HL.out]; omega)
   have hf := hown.frozen j
   have D := vv (divs_step (V := V) hd hr hxl (fun q hq => HS.out q hq) HR.out ha.lim)
   have hd1 : (1 : Int) <= (d : Int) := by omega
   have hor := or32 (nth xs j) r hxl (by omega)
   have HJ : Hid ((((nth xs j : Nat) : Int) + 4294967296 * (r : Int)) / (d : Int) % 4294967296 = (((r * 4294967296 + nth xs j) / d : Nat) : Int) /\ (((nth xs j : Nat) : Int) + 4294967296 * (r : Int)) % (d : Int) = (((r * 4294967296 + nth xs j) % d : Nat) : Int)) := vv (by
    have e : ((nth xs j : Nat) : Int) + 4294967296 * (r : Int) = ((r * 4294967296 + nth xs j : Nat) : Int) := by omega
    rw [e, <- Int.natCast_ediv, <- Int.natCast_emod]
    have := D.out.2.2
    generalize (r * 4294967296 + nth xs j) / d = Q at *
    exact ⟨by omega, rfl⟩)
   clear hown
   go_wp2
   go_roundw
   case rel =>
    refine ⟨j, _, (r * 4294967296 + nth xs j) % d, V.set j ((r * 4294967296 + nth xs j) / d), rfl, by omega, by omega, congrArg _ HJ.out.2, Nat.mod_lt _ hd, D.out.2.1, by rw [List.length_set]; exact HL.out,
     HO.out.set (by rw [HL.out]; omega) D.out.2.2 HJ.out.1, fun p hp => ?_, hbel.setCell (Nat.le_refl _) _⟩
    by_cases hpj : p = j
    ·subst hpj
     rw [nth_set V p _ p (by rw [HL.out]; omega), if_pos rfl]
     exact D.out.1
    ·rw [nth_set_ne _ _ hpj]
     exact HS.out p (by omega)
   case measure => simp [intOf]
theorem up_ (A : Option Addr) (n c : Nat) (xs : List Nat) (k s : Nat) (z : Int) (hz : z = ((32 * k + s : Nat) : Int)) (w : World) (ha : Rd w A n c xs) (hs : s < 32) (hk : n + k < 1099511627776) :
  Calls Tryz.prog 293 #[.slice A n c, .int .i64 z] w (AddPost (val xs * 2 ^ (32 * k + s)) w) := by
 have hsm := ha.sm
 have hlen := ha.len
 have z0 : 0 <= z := by omega
 have z1 : z <= 281474976710656 := by omega
 have zq : z / 32 = (k : Int) := by omega
 have zr : z % 32 = (s : Int) := by omega
 clear hz
 rcases Nat.eq_zero_or_pos n with rfl | hpos
 ·go_enter Tryz.func293, Tryz.ntmps293
  go_wp2
  go_ret
  have h0 : xs = [] := List.eq_nil_of_length_eq_zero hlen
  subst h0
  exact ⟨none, 0, 0, rfl, by rw [val_nil, Nat.zero_mul]; exact Rd.nil _, Fr.none_ _, Below.refl _ _⟩
 ·have hmk := mk1 (n + k) hk
  have ec : ((n + k : Nat) : Int) = (n : Int) + (k : Int) := by omega
  rw [ec] at hmk
  clear ec
  have hn0 : ((n : Int) == 0) = false := by simp; omega
  have HL0 := vv hlen
  clear hlen
  go_enter Tryz.func293, Tryz.ntmps293
  go_wp2
  go_loopw [8] (fun i wr => ∃ (j h : Nat) (V : List Nat), i = .int .i64 j /\ j <= n /\ V.length = n + k + 1 /\ Own wr w.heap.size 34 V /\ nth V (j + k) = h /\ h < 2 ^ s /\
    val (V.take (j + k)) + 4294967296 ^ (j + k) * h = 4294967296 ^ k * (2 ^ s * val (xs.take j)) /\ Below w.heap.size w wr) (fun i _ => n - (intOf i).toNat)
  case atStart => exact ⟨0, 0, List.replicate (n + k + 1) 0, rfl, Nat.zero_le _, by simp, Own.made _ _ _, nth_replicate _ _, Nat.two_pow_pos _, by simp [val, List.take_replicate, val_replicate], (Below.refl _ _).alloc (Nat.le_refl _) _⟩
  case round =>
   obtain ⟨j, h, V, rfl, hj, hVl, hown, hh, hhs, hval, hbel⟩ := hrel
   have HV := vv hval
   have HL := vv hVl
   have HH := vv hh
   have HO := vv hown
   have HHS := vv hhs
   clear hval hVl hh hhs
   have hg := hown.lt
   by_cases hjn : j < n
   ·obtain ⟨b, off, rfl, hbl, hcell⟩ := ha.cell (by omega)
    have hx : wr.cell? ⟨b, off + j, none⟩ = some (.int .u32 ((nth xs j : Nat) : Int)) := (hbel.cell (p := ⟨b, off + j, none⟩) hbl).trans (hcell j hjn)
    clear hcell
    have hxl := ha.nth_lt j
    have ho := hown.cell (i := j + k) (by rw [HL.out]; omega)
    have hf := hown.frozen (j + k)
    have ho1 := hown.cell (i := j + k + 1) (by rw [HL.out]; omega)
    have hf1 := hown.frozen (j + k + 1)
    rw [HH.out] at ho
    have hh32 : h < 4294967296 := by have h1 := HHS.out; have h2 : 2 ^ s <= 2 ^ 31 := Nat.pow_le_pow_right (by omega) (by omega); omega
    have UP := vv (up_parts hxl hs)
    have UW := vv (up_word (h := h) UP.out.2.2 hh32)
    have ST := vv (up_step (by rw [HL.out]; omega) HH.out HHS.out rfl hxl hs HV.out)
    clear hown
    go_wp2
    go_roundw
    case rel =>
     have hor : h ||| (nth xs j * 2 ^ s) % 4294967296 < 4294967296 := Nat.or_lt_two_pow (n := 32) hh32 (Nat.mod_lt _ (by omega))
     refine ⟨j + 1, (nth xs j * 2 ^ s) / 4294967296, (V.set (j + k) (h ||| (nth xs j * 2 ^ s) % 4294967296)).set (j + k + 1) ((nth xs j * 2 ^ s) / 4294967296), by go_num, by omega, by rw [List.length_set, List.length_set]; exact HL.out,
      (HO.out.set (by rw [HL.out]; omega) hor UW.out.1).set (by rw [List.length_set, HL.out]; omega) (by have := UP.out.2.2; omega) UW.out.2, ?_, UP.out.2.1, ST.out, (hbel.setCell (Nat.le_refl _) _).setCell (Nat.le_refl _) _⟩
     rw [show j + 1 + k = j + k + 1 by omega, nth_set _ _ _ _ (by rw [List.length_set, HL.out]; omega), if_pos rfl]
    case measure => simp [intOf]; omega
   ·obtain rfl : j = n := by omega
    have hv := up_done HL.out (by rw [HL0.out]; exact Nat.le_refl _) HH.out HV.out
    have HVV := vv hv
    clear hv
    have hR := vv (hown.rd (n := j + k + 1) (c := j + k + 1) HL.out.symm (Nat.le_refl _) (by omega))
    clear hown
    go_wp2_with fail
    refine (trim _ _ _ _ _ hR.out).mono ?_
    rintro e w' ⟨m', rfl, rfl, hR'⟩
    rw [HVV.out] at hR'
    go_wp2
    go_ret
    exact ⟨_, m', j + k + 1, rfl, hR', Fr.at_ (Nat.le_refl _), hbel⟩
theorem up (A : Option Addr) (n c : Nat) (xs : List Nat) (e : Nat) (z : Int) (hz : z = (e : Int)) (w : World) (ha : Rd w A n c xs) (hk : n + e < 1099511627776) :
  Calls Tryz.prog 293 #[.slice A n c, .int .i64 z] w (AddPost (val xs * 2 ^ e) w) := by
 have h := up_ A n c xs (e / 32) (e % 32) z (by omega) w ha (Nat.mod_lt _ (by omega)) (by omega)
 rw [show 32 * (e / 32) + e % 32 = e by omega] at h
 exact h
theorem down_ (A : Option Addr) (n c : Nat) (xs : List Nat) (k s : Nat) (z : Int) (hz : z = ((32 * k + s : Nat) : Int)) (w : World) (ha : Rd w A n c xs) (hs : s < 32) (hk : k < 1099511627776) :
  Calls Tryz.prog 322 #[.slice A n c, .int .i64 z] w (AddPost (val xs / 2 ^ (32 * k + s)) w) := by
 have hsm := ha.sm
 have hlen := ha.len
 have z0 : 0 <= z := by omega
 have z1 : z <= 281474976710656 := by omega
 have zq : z / 32 = (k : Int) := by omega
 have zr : z % 32 = (s : Int) := by omega
 clear hz
 by_cases hkn : n <= k
 ·have e0 : val xs / 2 ^ (32 * k + s) = 0 := by
   have h1 := ha.lt
   rw [pow32] at h1
   have h2 : 2 ^ (32 * n) <= 2 ^ (32 * k + s) := Nat.pow_le_pow_right (by omega) (by omega)
   exact Nat.div_eq_of_lt (by omega)
  rw [e0]
  clear e0 hlen
  go_enter Tryz.func322, Tryz.ntmps322
  go_wp2
  go_ret
  exact ⟨none, 0, 0, rfl, Rd.nil _, Fr.none_ _, Below.refl _ _⟩
 ·have hmk := mk (n - k) (by omega)
  have ec : ((n - k : Nat) : Int) = (n : Int) - (k : Int) := by omega
  rw [ec] at hmk
  clear ec
  have HL0 := vv hlen
  clear hlen
  obtain ⟨b, off, rfl, hbl, hcell⟩ := ha.cell (by omega)
  have HC := vv hcell
  clear hcell
  go_enter Tryz.func322, Tryz.ntmps322
  go_wp2
  go_loopw [8] (fun i wr => ∃ (j : Nat) (V : List Nat), i = .int .i64 j /\ j <= n - k /\ V.length = n - k /\ Own wr w.heap.size 34 V /\ (∀ p, p < j -> nth V p = (val (xs.drop k) / 2 ^ s) / 4294967296 ^ p % 4294967296) /\ Below w.heap.size w wr) (fun i _ => n - k - (intOf i).toNat)
  case atStart => exact ⟨0, List.replicate (n - k) 0, rfl, Nat.zero_le _, by simp, Own.made _ _ _, fun p hp => absurd hp (by omega), (Below.refl _ _).alloc (Nat.le_refl _) _⟩
  case round =>
   obtain ⟨j, V, rfl, hj, hVl, hown, hd, hbel⟩ := hrel
   have HL := vv hVl
   have HO := vv hown
   have HD := vv hd
   clear hVl hd
   have hg := hown.lt
   by_cases hjn : j < n - k
   ·have hx : wr.cell? ⟨b, off + (j + k), none⟩ = some (.int .u32 ((nth xs (j + k) : Nat) : Int)) := (hbel.cell (p := ⟨b, off + (j + k), none⟩) hbl).trans (HC.out (j + k) (by omega))
    have hxl := ha.nth_lt (j + k)
    have ho := hown.cell (i := j) (by rw [HL.out]; omega)
    have hf := hown.frozen j
    clear hown
    by_cases hj1 : j + k + 1 < n
    ·have hy : wr.cell? ⟨b, off + (j + k + 1), none⟩ = some (.int .u32 ((nth xs (j + k + 1) : Nat) : Int)) := (hbel.cell (p := ⟨b, off + (j + k + 1), none⟩) hbl).trans (HC.out (j + k + 1) (by omega))
     have hyl := ha.nth_lt (j + k + 1)
     have DW := vv (down_word _ _ s hxl hyl)
     go_wp2
     go_roundw
     case rel =>
      refine ⟨j + 1, V.set j ((nth xs (j + k) + 4294967296 * nth xs (j + k + 1)) / 2 ^ s % 4294967296), by go_num, by omega, by rw [List.length_set]; exact HL.out, HO.out.set (by rw [HL.out]; omega) (Nat.mod_lt _ (by omega)) DW.out, fun p hp => ?_, hbel.setCell (Nat.le_refl _) _⟩
      by_cases hpj : p = j
      ·subst hpj
       rw [nth_set V p _ p (by rw [HL.out]; omega), if_pos rfl]
       have := down_digit (zs := xs.drop k) (Lim_drop ha.lim _) p s hs
       rw [nth_drop, nth_drop, Nat.add_comm k p, <- Nat.add_assoc, Nat.add_comm k p] at this
       exact this
      ·rw [nth_set_ne _ _ hpj]
       exact HD.out p (by omega)
     case measure => simp [intOf]; omega
    ·have DW := vv (down_word0 (nth xs (j + k)) s)
     have E0 := vv (nth_ge xs (j + k + 1) (by rw [HL0.out]; omega))
     go_wp2
     go_roundw
     case rel =>
      refine ⟨j + 1, V.set j ((nth xs (j + k) + 4294967296 * 0) / 2 ^ s % 4294967296), by go_num, by omega, by rw [List.length_set]; exact HL.out, HO.out.set (by rw [HL.out]; omega) (Nat.mod_lt _ (by omega)) DW.out, fun p hp => ?_, hbel.setCell (Nat.le_refl _) _⟩
      by_cases hpj : p = j
      ·subst hpj
       rw [nth_set V p _ p (by rw [HL.out]; omega), if_pos rfl]
       have := down_digit (zs := xs.drop k) (Lim_drop ha.lim _) p s hs
       rw [nth_drop, nth_drop, Nat.add_comm k p, <- Nat.add_assoc, Nat.add_comm k p, E0.out] at this
       exact this
      ·rw [nth_set_ne _ _ hpj]
       exact HD.out p (by omega)
     case measure => simp [intOf]; omega
   ·obtain rfl : j = n - k := by omega
    have hv : val V = val xs / 2 ^ (32 * k + s) := by
     have h1 := val_of_digits (U := V) (Q := val (xs.drop k) / 2 ^ s) fun i hi => HD.out i (by rw [HL.out] at hi; exact hi)
     have h2 := val_lt (Lim_drop ha.lim k)
     rw [List.length_drop, HL0.out] at h2
     rw [h1, HL.out, Nat.mod_eq_of_lt (Nat.lt_of_le_of_lt (Nat.div_le_self _ _) h2), <- val_div_pow ha.lim, Nat.div_div_eq_div_mul, Nat.pow_add, pow32]
    have HVV := vv hv
    clear hv
    have hR := vv (hown.rd (n := n - k) (c := n - k) HL.out.symm (Nat.le_refl _) (by omega))
    clear hown
    go_wp2_with fail
    refine (trim _ _ _ _ _ hR.out).mono ?_
    rintro e w' ⟨m', rfl, rfl, hR'⟩
    rw [HVV.out] at hR'
    go_wp2
    go_ret
    exact ⟨_, m', n - k, rfl, hR', Fr.at_ (Nat.le_refl _), hbel⟩
theorem down (A : Option Addr) (n c : Nat) (xs : List Nat) (e : Nat) (z : Int) (hz : z = (e : Int)) (w : World) (ha : Rd w A n c xs) (hk : e < 1099511627776) :
  Calls Tryz.prog 322 #[.slice A n c, .int .i64 z] w (AddPost (val xs / 2 ^ e) w) := by
 have h := down_ A n c xs (e / 32) (e % 32) z (by omega) w ha (Nat.mod_lt _ (by omega)) (by omega)
 rw [show 32 * (e / 32) + e % 32 = e by omega] at h
 exact h
end Go.Proofs.YtddaldghlinokaaGreatDoor.A
