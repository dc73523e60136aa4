/- Lemmas for ReadNumbers. -/
import Derived.Test.YtbfmpcfcmbjeeaaGreatDoorPartAV
import Derived.Laws.AppendOwn
import Derived.Maps.AppendAt
import Derived.Test.YtbfmpcfcmbjeeaaGreatDoorPartAT
set_option linter.all false
namespace Go.Proofs.YtbfmpcfcmbjeeaaGreatDoor
open Go Go.RowKit
theorem rd_of_row {w : World} {base : Nat} {e : TypeId} {v : Value} {n : Nat} {U : List Nat} (h : w.ownsRow base e 1 v n (u32s U)) (hl : Lim U) (hn : n <= 1099511627776) :
  ∃ A c, v = .slice A n c /\ Rd w A n c U /\ Fr base A := by
 have hlen : U.length = n := by have := h.1; simpa [u32s] using this
 rcases h.2 with ⟨rfl, rfl⟩ | ⟨g, cap, cur, rfl, hb, hg, hc, hm, hs, ht⟩
 ·have : U = [] := List.length_eq_zero_iff.1 hlen
  subst this
  exact ⟨none, 0, rfl, Rd.nil _, Fr.none_ _⟩
 ·refine ⟨_, cap, rfl, ⟨hlen, hc, hn, hl, fun _ => ⟨g, 0, rfl, (Array.getElem?_eq_some_iff.1 hg).1, fun j hj => ?_⟩⟩, Fr.at_ hb⟩
  have e1 := u32s_get U (i := j) (by omega)
  rw [<- ht, Nat.mul_one, List.getElem?_take, if_pos hj] at e1
  simp only [World.cell?, hg, Nat.zero_add]
  rw [<- e1]
  simp
end Go.Proofs.YtbfmpcfcmbjeeaaGreatDoor
namespace Go.Proofs.YtbfmpcfcmbjeeaaGreatDoor.R1
open Go Go.RowKit
theorem Trim (A : Option Addr) (n c : Nat) (xs : List Nat) (w : World) (hr : Rd w A n c xs) :
  Calls Tryz.prog 72 #[.slice A n c] w (B.TrimPost A c xs w) := by
 have hsm := hr.sm
 have hlen := hr.len
 have hle := hr.le
 go_enter Tryz.func72, Tryz.ntmps72
 go_wp2
 go_loop [3] (fun t => ∃ k : Nat, k <= n /\ t = .int .i64 k /\ ∀ i, k <= i -> nth xs i = 0) (fun t => (intOf t).toNat)
 case atStart => exact ⟨n, Nat.le_refl _, rfl, fun i hi => nth_ge xs i (by omega)⟩
 case round =>
  obtain ⟨k, hk, rfl, hz⟩ := hrel
  have fin : ∀ m, m <= n -> (∀ i, m <= i -> nth xs i = 0) -> (m = 0 \/ nth xs (m - 1) ≠ 0) -> Rd w A m c (toL (val xs)) := by
   intro m hm h0 h1
   have e := toL_val_take hr.lim (n := m) h0 (h1.imp id fun h => ⟨by omega, h⟩)
   rw [<- e]
   exact hr.take hm
  have Fin := vv fin
  clear fin
  rcases Nat.eq_zero_or_pos k with rfl | hpos
  ·go_wp2
   go_ret
   exact ⟨0, rfl, rfl, Fin.out 0 (Nat.zero_le _) hz (.inl rfl)⟩
  ·obtain ⟨m, rfl⟩ : ∃ m, k = m + 1 := ⟨k - 1, by omega⟩
   obtain ⟨b, off, rfl, hb, hcell⟩ := hr.cell (by omega)
   have hx := hcell m (by omega)
   clear hcell
   by_cases h0 : nth xs m = 0
   ·have h1 : (((nth xs m : Nat) : Int) == 0) = true := by rw [h0]; rfl
    have H0 := vv h0
    clear h0
    go_wp2
    go_round
    case rel => exact ⟨m, by omega, by go_num, fun i hi => by
     rcases Nat.eq_or_lt_of_le hi with rfl | h
     ·exact H0.out
     ·exact hz i (by omega)⟩
    case measure => simp [intOf]
   ·have h1 : (((nth xs m : Nat) : Int) == 0) = false := by rw [beq_eq_false_iff_ne]; omega
    have H0 := vv h0
    clear h0
    go_wp2
    go_ret
    exact ⟨m + 1, rfl, rfl, Fin.out _ (by omega) hz (.inr H0.out)⟩
theorem limb (A : Option Addr) (n c k : Nat) (xs : List Nat) (w : World) (hr : Rd w A n c xs) (hk : k <= 1099511627776) :
  Calls Tryz.prog 113 #[.slice A n c, .int .i64 (k : Int)] w fun e w' => e = .returned (.int .u64 ((nth xs k : Nat) : Int)) /\ w = w' := by
 have hsm := hr.sm
 rcases Nat.lt_or_ge k n with h | h
 ·obtain ⟨b, off, rfl, hb, hc⟩ := hr.cell (by omega)
  have hx := hc k h
  have hl := hr.nth_lt k
  clear hc hr
  go_enter Tryz.func113, Tryz.ntmps113
  go_wp2
  go_ret
  exact ⟨rfl, rfl⟩
 ·have HZ : Hid (nth xs k = 0) := vv (nth_ge xs k (by rw [hr.len]; exact h))
  have hd : decide (k < n) = false := decide_eq_false (by omega)
  clear hr h
  go_enter Tryz.func113, Tryz.ntmps113
  go_wp2
  go_ret
  exact ⟨retI (by rw [HZ.out]; rfl), rfl⟩
theorem times (A B : Option Addr) (n m c d : Nat) (xs ys : List Nat) (w : World) (ha : Rd w A n c xs) (hb : Rd w B m d ys) (hs : n + m <= 1099511627776) :
  Calls Tryz.prog 74 #[.slice A n c, .slice B m d] w (AddPost (val xs * val ys) w) := by
 have hmk := Go.Proofs.YtbfmpcfcmbjeeaaGreatDoor.B.mk (n + m) hs
 have ec : ((n + m : Nat) : Int) = (n : Int) + (m : Int) := by omega
 rw [ec] at hmk
 clear ec
 go_enter Tryz.func74, Tryz.ntmps74
 go_wp2
 go_loopw [6] (fun i wr => ∃ (k : Nat) (U : List Nat), i = .int .i64 k /\ k <= n /\ U.length = n + m /\ Own wr w.heap.size 34 U /\
   val (U.take (k + m)) = val (xs.take k) * val ys /\ Below w.heap.size w wr) (fun i _ => n - (intOf i).toNat)
 case atStart => exact ⟨0, List.replicate (n + m) 0, rfl, Nat.zero_le _, by simp, Own.made _ _ _, by simp [val, List.take_replicate, val_replicate], (Below.refl _ _).alloc (Nat.le_refl _) _⟩
 case round =>
  obtain ⟨k, U, rfl, hk, hUl, hrow, hval, hbel⟩ := hrel
  have HV := vv hval
  have HL := vv hUl
  clear hval hUl
  obtain ⟨wo, rfl⟩ : ∃ wo : World, wo = wr := ⟨_, rfl⟩
  by_cases hkn : k < n
  ·obtain ⟨b, off, rfl, hbl, hcell⟩ := ha.cell (by omega)
   have hx0 := hcell k hkn
   clear hcell
   have hxl := ha.nth_lt k
   go_wp2
   go_loopw [7, 8] (fun q i wr => ∃ (j y : Nat) (V : List Nat), i = .int .i64 j /\ j <= m /\ q = .int .u64 y /\ y < 4294967296 /\ V.length = n + m /\ Own wr w.heap.size 34 V /\
    (∀ p, k + j <= p -> nth V p = nth U p) /\ val (V.take (k + j)) + 4294967296 ^ (k + j) * y = val (U.take (k + j)) + 4294967296 ^ k * (nth xs k * val (ys.take j)) /\ Below w.heap.size w wr) (fun _ i _ => m - (intOf i).toNat)
   case atStart => exact ⟨0, 0, U, rfl, Nat.zero_le _, rfl, by omega, HL.out, hrow, fun _ _ => rfl, by simp [val], hbel⟩
   case round =>
    obtain ⟨j, y, V, rfl, hj, rfl, hy, hVl, hown, hsame, hval, hbel'⟩ := hrel
    have HV' := vv hval
    have HL' := vv hVl
    have HS := vv hsame
    clear hval hVl hsame
    have hg := hown.lt
    by_cases hjm : j < m
    ·have hx : wr.cell? ⟨b, off + k, none⟩ = some (.int .u32 ((nth xs k : Nat) : Int)) := (hbel'.cell (p := ⟨b, off + k, none⟩) hbl).trans hx0
     obtain ⟨b', off', rfl, hbl', hcell'⟩ := hb.cell (by omega)
     have hyc : wr.cell? ⟨b', off' + j, none⟩ = some (.int .u32 ((nth ys j : Nat) : Int)) := (hbel'.cell (p := ⟨b', off' + j, none⟩) hbl').trans (hcell' j hjm)
     clear hcell'
     have hyl := hb.nth_lt j
     have ho := hown.cell (i := k + j) (by rw [HL'.out]; omega)
     have hf := hown.frozen (k + j)
     have hol := hown.nth_lt (k + j)
     have hxy : ((nth xs k : Nat) : Int) * ((nth ys j : Nat) : Int) <= 18446744065119617025 := by
      have := mul_bound hxl hyl
      omega
     have hxy0 : (0 : Int) <= ((nth xs k : Nat) : Int) * ((nth ys j : Nat) : Int) := Int.mul_nonneg (Int.natCast_nonneg _) (Int.natCast_nonneg _)
     have i1 : (j : Int) < (m : Int) := by omega
     have i2 : (0 : Int) <= (j : Int) := by omega
     have i3 : (k : Int) + (j : Int) < (n : Int) + (m : Int) := by omega
     have i4 : (0 : Int) <= (k : Int) + (j : Int) := by omega
     have i5 : (k : Int) < (n : Int) := by omega
     have i6 : (0 : Int) <= (k : Int) := by omega
     go_wp2_with fail
     go_quiet (fail)
     have HB := vv (mul_bound hxl hyl)
     have HO := vv hown
     clear hown
     go_wp2
     go_roundw
     case rel =>
      have hd : (nth xs k * nth ys j + nth V (k + j) + y) / 4294967296 < 4294967296 := by have := HB.out; omega
      refine ⟨j + 1, (nth xs k * nth ys j + nth V (k + j) + y) / 4294967296, V.set (k + j) ((nth xs k * nth ys j + nth V (k + j) + y) % 4294967296), by go_num, by omega, congrArg _ (by omega), hd, by rw [List.length_set]; exact HL'.out,
       (HO.out.drewN _).set (by rw [HL'.out]; omega) (Nat.mod_lt _ (by omega)) (by omega), fun p hp => ?_, mul_step (by rw [HL'.out]; omega) (HS.out _ (Nat.le_refl _)) HV'.out, (below_drewN hbel' _).setCell (Nat.le_refl _) _⟩
      rw [nth_set_ne _ _ (by omega)]
      exact HS.out p (by omega)
     case measure => simp [intOf]; omega
    ·obtain rfl : j = m := by omega
     have ho := hown.cell (i := k + j) (by rw [HL'.out]; omega)
     have hf := hown.frozen (k + j)
     have HO := vv hown
     clear hown
     go_wp2
     go_roundw
     case rel =>
      exact ⟨k + 1, V.set (k + j) y, by go_num, by omega, by rw [List.length_set]; exact HL'.out, HO.out.set (by rw [HL'.out]; omega) hy rfl, mul_row hb.len (by rw [HL'.out]; omega) HV.out HV'.out, hbel'.setCell (Nat.le_refl _) _⟩
     case measure => simp [intOf]; omega
  ·obtain rfl : k = n := by omega
   have hR := vv (hrow.rd (n := k + m) (c := k + m) HL.out.symm (Nat.le_refl _) (by omega))
   go_wp2_with fail
   refine (Trim _ _ _ _ _ hR.out).mono ?_
   rintro e w' ⟨m', rfl, rfl, hR'⟩
   go_wp2
   go_ret
   refine ⟨_, m', k + m, rfl, ?_, Fr.at_ (Nat.le_refl _), hbel⟩
   have e := HV.out
   rw [take_all (xs := U) (by rw [HL.out]; omega), take_all (xs := xs) (by rw [ha.len]; omega)] at e
   rw [<- e]
   exact hR'
theorem toL_of_top {U : List Nat} {N : Nat} (hl : Lim U) (hv : val U = N) (ht : U = [] \/ 4294967296 ^ (U.length - 1) <= N) : U = toL N := by
 rcases ht with rfl | ht
 ·have : N = 0 := hv.symm
  subst this; rfl
 ·rcases Nat.eq_zero_or_pos U.length with h0 | h0
  ·have : U = [] := List.length_eq_zero_iff.1 h0
   subst this
   have : N = 0 := hv.symm
   subst this; rfl
  ·have e := toL_val_take hl (n := U.length) (fun i hi => nth_ge U i hi) (.inr ⟨Nat.le_refl _, fun hz => by
    have e1 := val_take_nth U (U.length - 1)
    rw [show U.length - 1 + 1 = U.length by omega, take_all (Nat.le_refl _)] at e1
    have e2 : nth U (U.length - 1) = 0 := hz
    rw [e2, Nat.mul_zero, Nat.add_zero] at e1
    have e3 := val_lt (Lim_take hl (U.length - 1))
    rw [List.length_take, Nat.min_eq_left (by omega)] at e3
    omega⟩)
   rw [take_all (Nat.le_refl _), hv] at e
   exact e
set_option maxHeartbeats 1000000 in
theorem plus (A A' : Option Addr) (n m c d N M : Nat) (w : World) (ha : Rd w A n c (toL N)) (hb : Rd w A' m d (toL M)) (hn : n <= 549755813888) (hm : m <= 549755813888) :
  Calls Tryz.prog 73 #[.slice A n c, .slice A' m d] w (AddPost (N + M) w) := by
 have HN1 : Hid (∀ k, k < n -> 4294967296 ^ k <= N) := vv fun k hk => by
  have hN : 0 < N := by
   rcases Nat.eq_zero_or_pos N with e | e
   ·have := ha.words; rw [e, words_zero] at this; omega
   ·exact e
  have := le_of_words hN
  rw [ha.words] at this
  exact Nat.le_trans (Nat.pow_le_pow_right (by omega) (by omega)) this
 have HM1 : Hid (∀ k, k < m -> 4294967296 ^ k <= M) := vv fun k hk => by
  have hM : 0 < M := by
   rcases Nat.eq_zero_or_pos M with e | e
   ·have := hb.words; rw [e, words_zero] at this; omega
   ·exact e
  have := le_of_words hM
  rw [hb.words] at this
  exact Nat.le_trans (Nat.pow_le_pow_right (by omega) (by omega)) this
 have HA := vv fun w' (h : Below w.heap.size w w') => ha.below h rfl
 have HB := vv fun w' (h : Below w.heap.size w w') => hb.below h rfl
 have HLa := vv ha.len
 have HLb := vv hb.len
 obtain ⟨i0, hi, hz0, hz1, hz2⟩ := info_parts Go.Proofs.YtbfmpcfcmbjeeaaGreatDoor.B.inf
 have hLa := ha.nth_lt
 have hLb := hb.nth_lt
 have HLA := vv hLa
 have HLB := vv hLb
 clear ha hb hLa hLb
 go_enter Tryz.func73, Tryz.ntmps73
 go_wp2
 go_loopw [5, 6, 7] (fun v q i wr => ∃ (k y : Nat) (U : List Nat), i = .int .i64 k /\ q = .int .u64 y /\ y <= 1 /\ k <= max n m + 1 /\ (max n m < k -> y = 0) /\ U.length = k /\ Lim U /\ wr.ownsRow w.heap.size 34 1 v k (u32s U) /\
   val U + 4294967296 ^ k * y = val ((toL N).take k) + val ((toL M).take k) /\ (U = [] \/ 4294967296 ^ (k - 1) <= N + M) /\ Below w.heap.size w wr) (fun _ _ i _ => max n m + 1 - (intOf i).toNat)
 case atStart => exact ⟨0, 0, [], rfl, rfl, by omega, Nat.zero_le _, fun _ => rfl, rfl, Lim_nil, World.ownsRow_nil _ _ _ _, by simp [val], .inl rfl, Below.refl _ _⟩
 case round =>
  obtain ⟨k, y, U, rfl, rfl, hy, hk, hy0, hUl, hUlim, hrow, hval, htop, hbel⟩ := hrel
  have HV := vv hval
  have HL := vv hUl
  have HT := vv htop
  have HY0 := vv hy0
  have HR := vv hrow
  have HU := vv hUlim
  have HBel := vv hbel
  clear hval hUl htop hy0 hUlim hbel
  by_cases hgo : k < n \/ k < m \/ 0 < y
  ·have hkm : k <= max n m := by
    rcases hgo with h | h | h
    ·omega
    ·omega
    ·by_cases hh : max n m < k
     ·have := HY0.out hh; omega
     ·omega
   have HP : Hid (4294967296 ^ k <= N + M) := by
    refine vv ?_
    rcases hgo with h | h | h
    ·have := HN1.out k h; omega
    ·have := HM1.out k h; omega
    ·have h1 := HV.out
     have h2 := val_take_le (toL N) k
     have h3 := val_take_le (toL M) k
     rw [val_toL] at h2 h3
     have h4 : 4294967296 ^ k * 1 <= 4294967296 ^ k * y := Nat.mul_le_mul_left _ h
     omega
   have hx := HLA.out k
   have hz := HLB.out k
   clear hrow
   rcases (by omega : k < n \/ (¬ k < n /\ k < m) \/ (¬ k < n /\ ¬ k < m /\ 0 < y)) with h1 | ⟨h1, h2⟩ | ⟨h1, h2, h3⟩
   ·have t1 : decide (k < n) = true := decide_eq_true h1
    clear hgo
    go_wp2_with fail
    refine (limb A n c k (toL N) _ (HA.out _ HBel.out) (by omega)).mono ?_
    rintro e w' ⟨rfl, rfl⟩
    go_wp2_with fail
    refine (limb A' m d k (toL M) _ (HB.out _ HBel.out) (by omega)).mono ?_
    rintro e w' ⟨rfl, rfl⟩
    go_wp2_with (at_builtin; refine wpList_append_own _ rfl _ _ 26 rfl w.heap.size 34 i0 (.int .u32 0) 1 4 Tryz.underlying26 hi hz0 hz1 hz2 rfl (by decide) _ k (u32s U) rfl (HR.out.alloc _) ⟨wr.heap.size, 0, none⟩ 1 1 [.int .u32 ((((nth (toL N) k : Nat) : Int) + ((nth (toL M) k : Nat) : Int) + (y : Int)) % 4294967296)] rfl rfl (cell_one_new _ _ _) (by simp [Value.oneCell']) (by unfold maxLen; omega) (by omega) (by have := HBel.out.size; simp; omega) ?_)
    intro v' w1 hown1 hgrow1 _
    have hrow1 : w1.ownsRow w.heap.size 34 1 v' (k + 1) (u32s (U ++ [(nth (toL N) k + nth (toL M) k + y) % 4294967296])) := by
     have e : u32s (U ++ [(nth (toL N) k + nth (toL M) k + y) % 4294967296]) = u32s U ++ [.int .u32 ((((nth (toL N) k : Nat) : Int) + ((nth (toL M) k : Nat) : Int) + (y : Int)) % 4294967296)] := by
      simp [u32s]
     rw [e]; exact hown1
    have hb1 : Below w.heap.size w w1 := by
     have hb2 : Below w.heap.size w (wr.alloc (.cells #[.int .u32 ((((nth (toL N) k : Nat) : Int) + ((nth (toL M) k : Nat) : Int) + (y : Int)) % 4294967296)] 34)) := HBel.out.alloc HBel.out.size _
     exact ⟨hgrow1.os.trans hb2.os, hgrow1.tape.trans hb2.tape, hgrow1.output.trans hb2.output, Nat.le_trans hb2.size hgrow1.size, fun i hi => (hgrow1.block i (Nat.lt_of_lt_of_le hi hb2.size) (fun e => by have := (HR.out.lt i e.symm).1; omega)).trans (hb2.block i hi)⟩
    have HR1 := vv hrow1
    have HB1 := vv hb1
    clear hown1 hgrow1 hrow1 hb1
    go_wp2
    go_roundw
    case rel =>
     refine ⟨k + 1, (nth (toL N) k + nth (toL M) k + y) / 4294967296, U ++ [(nth (toL N) k + nth (toL M) k + y) % 4294967296], by go_num, congrArg _ (by omega), by omega, by omega, fun h => ?_, by rw [List.length_append, HL.out]; rfl, Lim_append.2 ⟨HU.out, Lim_cons.2 ⟨Nat.mod_lt _ (by omega), Lim_nil⟩⟩, HR1.out, ?_, .inr (by rw [Nat.add_sub_cancel]; exact HP.out), HB1.out⟩
     ·have e1 : nth (toL N) k = 0 := nth_ge _ _ (by rw [HLa.out]; omega)
      have e2 : nth (toL M) k = 0 := nth_ge _ _ (by rw [HLb.out]; omega)
      rw [e1, e2]; omega
     ·have e := HV.out
      rw [val_snoc, HL.out, val_take_nth, val_take_nth, Nat.pow_succ]
      have e3 := Nat.div_add_mod (nth (toL N) k + nth (toL M) k + y) 4294967296
      generalize (nth (toL N) k + nth (toL M) k + y) / 4294967296 = q at *
      generalize (nth (toL N) k + nth (toL M) k + y) % 4294967296 = r at *
      have e4 : 4294967296 ^ k * (4294967296 * q + r) = 4294967296 ^ k * (nth (toL N) k + nth (toL M) k + y) := by rw [e3]
      generalize 4294967296 ^ k = P at *
      grind
    case measure => simp [intOf]; omega
   ·have t1 : decide (k < n) = false := decide_eq_false h1
    have t2 : decide (k < m) = true := decide_eq_true h2
    clear hgo
    go_wp2_with fail
    refine (limb A n c k (toL N) _ (HA.out _ HBel.out) (by omega)).mono ?_
    rintro e w' ⟨rfl, rfl⟩
    go_wp2_with fail
    refine (limb A' m d k (toL M) _ (HB.out _ HBel.out) (by omega)).mono ?_
    rintro e w' ⟨rfl, rfl⟩
    go_wp2_with (at_builtin; refine wpList_append_own _ rfl _ _ 26 rfl w.heap.size 34 i0 (.int .u32 0) 1 4 Tryz.underlying26 hi hz0 hz1 hz2 rfl (by decide) _ k (u32s U) rfl (HR.out.alloc _) ⟨wr.heap.size, 0, none⟩ 1 1 [.int .u32 ((((nth (toL N) k : Nat) : Int) + ((nth (toL M) k : Nat) : Int) + (y : Int)) % 4294967296)] rfl rfl (cell_one_new _ _ _) (by simp [Value.oneCell']) (by unfold maxLen; omega) (by omega) (by have := HBel.out.size; simp; omega) ?_)
    intro v' w1 hown1 hgrow1 _
    have hrow1 : w1.ownsRow w.heap.size 34 1 v' (k + 1) (u32s (U ++ [(nth (toL N) k + nth (toL M) k + y) % 4294967296])) := by
     have e : u32s (U ++ [(nth (toL N) k + nth (toL M) k + y) % 4294967296]) = u32s U ++ [.int .u32 ((((nth (toL N) k : Nat) : Int) + ((nth (toL M) k : Nat) : Int) + (y : Int)) % 4294967296)] := by
      simp [u32s]
     rw [e]; exact hown1
    have hb1 : Below w.heap.size w w1 := by
     have hb2 : Below w.heap.size w (wr.alloc (.cells #[.int .u32 ((((nth (toL N) k : Nat) : Int) + ((nth (toL M) k : Nat) : Int) + (y : Int)) % 4294967296)] 34)) := HBel.out.alloc HBel.out.size _
     exact ⟨hgrow1.os.trans hb2.os, hgrow1.tape.trans hb2.tape, hgrow1.output.trans hb2.output, Nat.le_trans hb2.size hgrow1.size, fun i hi => (hgrow1.block i (Nat.lt_of_lt_of_le hi hb2.size) (fun e => by have := (HR.out.lt i e.symm).1; omega)).trans (hb2.block i hi)⟩
    have HR1 := vv hrow1
    have HB1 := vv hb1
    clear hown1 hgrow1 hrow1 hb1
    go_wp2
    go_roundw
    case rel =>
     refine ⟨k + 1, (nth (toL N) k + nth (toL M) k + y) / 4294967296, U ++ [(nth (toL N) k + nth (toL M) k + y) % 4294967296], by go_num, congrArg _ (by omega), by omega, by omega, fun h => ?_, by rw [List.length_append, HL.out]; rfl, Lim_append.2 ⟨HU.out, Lim_cons.2 ⟨Nat.mod_lt _ (by omega), Lim_nil⟩⟩, HR1.out, ?_, .inr (by rw [Nat.add_sub_cancel]; exact HP.out), HB1.out⟩
     ·have e1 : nth (toL N) k = 0 := nth_ge _ _ (by rw [HLa.out]; omega)
      have e2 : nth (toL M) k = 0 := nth_ge _ _ (by rw [HLb.out]; omega)
      rw [e1, e2]; omega
     ·have e := HV.out
      rw [val_snoc, HL.out, val_take_nth, val_take_nth, Nat.pow_succ]
      have e3 := Nat.div_add_mod (nth (toL N) k + nth (toL M) k + y) 4294967296
      generalize (nth (toL N) k + nth (toL M) k + y) / 4294967296 = q at *
      generalize (nth (toL N) k + nth (toL M) k + y) % 4294967296 = r at *
      have e4 : 4294967296 ^ k * (4294967296 * q + r) = 4294967296 ^ k * (nth (toL N) k + nth (toL M) k + y) := by rw [e3]
      generalize 4294967296 ^ k = P at *
      grind
    case measure => simp [intOf]; omega
   ·have t1 : decide (k < n) = false := decide_eq_false h1
    have t2 : decide (k < m) = false := decide_eq_false h2
    have t3 : decide (0 < y) = true := decide_eq_true h3
    clear hgo
    go_wp2_with fail
    refine (limb A n c k (toL N) _ (HA.out _ HBel.out) (by omega)).mono ?_
    rintro e w' ⟨rfl, rfl⟩
    go_wp2_with fail
    refine (limb A' m d k (toL M) _ (HB.out _ HBel.out) (by omega)).mono ?_
    rintro e w' ⟨rfl, rfl⟩
    go_wp2_with (at_builtin; refine wpList_append_own _ rfl _ _ 26 rfl w.heap.size 34 i0 (.int .u32 0) 1 4 Tryz.underlying26 hi hz0 hz1 hz2 rfl (by decide) _ k (u32s U) rfl (HR.out.alloc _) ⟨wr.heap.size, 0, none⟩ 1 1 [.int .u32 ((((nth (toL N) k : Nat) : Int) + ((nth (toL M) k : Nat) : Int) + (y : Int)) % 4294967296)] rfl rfl (cell_one_new _ _ _) (by simp [Value.oneCell']) (by unfold maxLen; omega) (by omega) (by have := HBel.out.size; simp; omega) ?_)
    intro v' w1 hown1 hgrow1 _
    have hrow1 : w1.ownsRow w.heap.size 34 1 v' (k + 1) (u32s (U ++ [(nth (toL N) k + nth (toL M) k + y) % 4294967296])) := by
     have e : u32s (U ++ [(nth (toL N) k + nth (toL M) k + y) % 4294967296]) = u32s U ++ [.int .u32 ((((nth (toL N) k : Nat) : Int) + ((nth (toL M) k : Nat) : Int) + (y : Int)) % 4294967296)] := by
      simp [u32s]
     rw [e]; exact hown1
    have hb1 : Below w.heap.size w w1 := by
     have hb2 : Below w.heap.size w (wr.alloc (.cells #[.int .u32 ((((nth (toL N) k : Nat) : Int) + ((nth (toL M) k : Nat) : Int) + (y : Int)) % 4294967296)] 34)) := HBel.out.alloc HBel.out.size _
     exact ⟨hgrow1.os.trans hb2.os, hgrow1.tape.trans hb2.tape, hgrow1.output.trans hb2.output, Nat.le_trans hb2.size hgrow1.size, fun i hi => (hgrow1.block i (Nat.lt_of_lt_of_le hi hb2.size) (fun e => by have := (HR.out.lt i e.symm).1; omega)).trans (hb2.block i hi)⟩
    have HR1 := vv hrow1
    have HB1 := vv hb1
    clear hown1 hgrow1 hrow1 hb1
    go_wp2
    go_roundw
    case rel =>
     refine ⟨k + 1, (nth (toL N) k + nth (toL M) k + y) / 4294967296, U ++ [(nth (toL N) k + nth (toL M) k + y) % 4294967296], by go_num, congrArg _ (by omega), by omega, by omega, fun h => ?_, by rw [List.length_append, HL.out]; rfl, Lim_append.2 ⟨HU.out, Lim_cons.2 ⟨Nat.mod_lt _ (by omega), Lim_nil⟩⟩, HR1.out, ?_, .inr (by rw [Nat.add_sub_cancel]; exact HP.out), HB1.out⟩
     ·have e1 : nth (toL N) k = 0 := nth_ge _ _ (by rw [HLa.out]; omega)
      have e2 : nth (toL M) k = 0 := nth_ge _ _ (by rw [HLb.out]; omega)
      rw [e1, e2]; omega
     ·have e := HV.out
      rw [val_snoc, HL.out, val_take_nth, val_take_nth, Nat.pow_succ]
      have e3 := Nat.div_add_mod (nth (toL N) k + nth (toL M) k + y) 4294967296
      generalize (nth (toL N) k + nth (toL M) k + y) / 4294967296 = q at *
      generalize (nth (toL N) k + nth (toL M) k + y) % 4294967296 = r at *
      have e4 : 4294967296 ^ k * (4294967296 * q + r) = 4294967296 ^ k * (nth (toL N) k + nth (toL M) k + y) := by rw [e3]
      generalize 4294967296 ^ k = P at *
      grind
    case measure => simp [intOf]; omega
  ·have h1 : ¬ k < n := fun h => hgo (.inl h)
   have h2 : ¬ k < m := fun h => hgo (.inr (.inl h))
   have h3 : y = 0 := by
    rcases Nat.eq_zero_or_pos y with h | h
    ·exact h
    ·exact absurd (.inr (.inr h)) hgo
   subst h3
   have t1 : decide (k < n) = false := decide_eq_false h1
   have t2 : decide (k < m) = false := decide_eq_false h2
   have HE : Hid (U = toL (N + M)) := by
    have e := HV.out
    rw [take_all (xs := toL N) (by rw [HLa.out]; omega), take_all (xs := toL M) (by rw [HLb.out]; omega), val_toL, val_toL, Nat.mul_zero, Nat.add_zero] at e
    exact vv (toL_of_top HU.out e (HT.out.imp id fun h => by rw [HL.out]; exact h))
   obtain ⟨Av, cv, rfl, hRd, hFr⟩ := rd_of_row HR.out HU.out (by omega)
   have HRd := vv hRd
   clear hgo hRd hrow
   go_wp2
   go_ret
   exact ⟨_, _, _, rfl, by rw [<- HE.out]; exact HRd.out, hFr, HBel.out⟩
end Go.Proofs.YtbfmpcfcmbjeeaaGreatDoor.R1
namespace Go.Proofs.YtbfmpcfcmbjeeaaGreatDoor
open Go Go.RowKit
def dv (l : List UInt8) : Nat := l.foldl (fun a c => 10 * a + (c.toNat - 48)) 0
theorem dv_snoc (l : List UInt8) (c : UInt8) : dv (l ++ [c]) = 10 * dv l + (c.toNat - 48) := by simp [dv, List.foldl_append]
theorem dv_from (l : List UInt8) : ∀ a, l.foldl (fun a c => 10 * a + (c.toNat - 48)) a = a * 10 ^ l.length + dv l := by
 induction l with
 | nil => intro a; simp [dv]
 | cons c l ih =>
  intro a
  unfold dv
  rw [List.foldl_cons, List.foldl_cons, ih, ih (10 * 0 + (c.toNat - 48)), List.length_cons, Nat.pow_succ]
  grind
theorem dv_append (l m : List UInt8) : dv (l ++ m) = dv l * 10 ^ m.length + dv m := by
 unfold dv
 rw [List.foldl_append, dv_from]
 rfl
def Digs (s : ByteArray) : Prop := ∀ k (h : k < s.size), 48 <= s[k].toNat /\ s[k].toNat <= 57
theorem s_take_snoc (s : ByteArray) (k : Nat) (h : k < s.size) : s.data.toList.take (k + 1) = s.data.toList.take k ++ [s[k]] := by
 rw [List.take_succ_eq_append_getElem (by simpa using h)]; rfl
def dvk (s : ByteArray) (k : Nat) : Nat := dv (s.data.toList.take k)
theorem dvk_zero (s : ByteArray) : dvk s 0 = 0 := rfl
theorem dvk_succ (s : ByteArray) (k : Nat) (h : k < s.size) : dvk s (k + 1) = 10 * dvk s k + (s[k].toNat - 48) := by
 unfold dvk; rw [s_take_snoc s k h, dv_snoc]
theorem dvk_lt (s : ByteArray) (hd : Digs s) : ∀ k, k <= s.size -> dvk s k < 10 ^ k
 | 0, _ => by simp [dvk_zero]
 | k + 1, h => by
  have := dvk_lt s hd k (by omega)
  have h2 := hd k (by omega)
  rw [dvk_succ s k (by omega), Nat.pow_succ]
  omega
def dvm (s : ByteArray) (i j : Nat) : Nat := dv ((s.data.toList.drop i).take j)
theorem dvm_zero (s : ByteArray) (i : Nat) : dvm s i 0 = 0 := rfl
theorem dvm_succ (s : ByteArray) (i j : Nat) (h : i + j < s.size) : dvm s i (j + 1) = 10 * dvm s i j + (s[i + j].toNat - 48) := by
 unfold dvm
 have hl : j < (s.data.toList.drop i).length := by rw [List.length_drop]; simp; omega
 rw [List.take_succ_eq_append_getElem hl, dv_snoc, List.getElem_drop]
 rfl
theorem dvm_lt (s : ByteArray) (hd : Digs s) (i : Nat) : ∀ j, i + j <= s.size -> dvm s i j < 10 ^ j
 | 0, _ => by simp [dvm_zero]
 | j + 1, h => by
  have := dvm_lt s hd i j (by omega)
  have h2 := hd (i + j) (by omega)
  rw [dvm_succ s i j (by omega), Nat.pow_succ]
  omega
theorem dvk_add (s : ByteArray) (i j : Nat) (h : i + j <= s.size) : dvk s (i + j) = dvk s i * 10 ^ j + dvm s i j := by
 unfold dvk dvm
 have e : s.data.toList.length = s.size := Array.length_toList
 have hl : ((s.data.toList.drop i).take j).length = j := by rw [List.length_take, List.length_drop]; omega
 rw [List.take_add, dv_append, hl]
theorem dvk_words (s : ByteArray) (hd : Digs s) (k : Nat) (h : k <= s.size) : words (dvk s k) <= k := by
 refine words_le (Nat.lt_of_lt_of_le (dvk_lt s hd k h) ?_)
 exact Nat.pow_le_pow_left (by omega) k
theorem ten_eight {j : Nat} (h : j <= 8) : (10 : Nat) ^ j <= 100000000 := Nat.le_trans (Nat.pow_le_pow_right (by omega) h) (by decide)
theorem ten_nine {j : Nat} (h : j <= 9) : (10 : Nat) ^ j <= 1000000000 := Nat.le_trans (Nat.pow_le_pow_right (by omega) h) (by decide)
def tn (j : Nat) : Nat := 10 ^ j
theorem tn_succ (j : Nat) : tn (j + 1) = 10 * tn j := by unfold tn; rw [Nat.pow_succ, Nat.mul_comm]
theorem one_word (w : World) (x : Nat) (hx : x < 4294967296) (t : TypeId) : Rd (w.alloc (.cells #[.int .u32 (x : Int)] t)) (some ⟨w.heap.size, 0, none⟩) 1 1 [x] /\ Below w.heap.size w (w.alloc (.cells #[.int .u32 (x : Int)] t)) :=
 ⟨(Own.lit (t := t) [x] (Lim_cons.2 ⟨hx, Lim_nil⟩) (by simp [u32s])).rd rfl (Nat.le_refl _) (by omega), (Below.refl _ _).alloc (Nat.le_refl _) _⟩
structure NatCell (w : World) (g : Nat) : Prop where
 c0 : w.cell? ⟨g, 0, none⟩ = some (.slice none 0 0)
 fz : w.frozen? ⟨g, 0, none⟩ = false
 lt : g < w.heap.size
theorem NatCell.made (w : World) (t : TypeId) : NatCell (w.alloc (.cells #[.slice none 0 0] t)) w.heap.size :=
 ⟨by simp only [World.cell?]; rw [heap_alloc_new]; rfl, by simp only [World.frozen?]; rw [heap_alloc_new]; simp, by simp⟩
theorem NatCell.below {w w' : World} {g : Nat} (h : NatCell w g) (hb : Below w.heap.size w w') : NatCell w' g :=
 ⟨(hb.cell (p := ⟨g, 0, none⟩) h.lt).trans h.c0, (hb.frozen (p := ⟨g, 0, none⟩) h.lt).trans h.fz, Nat.lt_of_lt_of_le h.lt hb.size⟩
theorem Rd.other {w : World} {A : Option Addr} {n c : Nat} {xs : List Nat} (h : Rd w A n c xs) (g o : Nat) (v : Value) (hf : ∀ a, A = some a -> a.block ≠ g) : Rd (w.setCell ⟨g, o, none⟩ v) A n c xs :=
 h.fm (Fm.set0 (g := g) (o := o) w v (.inl rfl)) (fun _ => hf)
end Go.Proofs.YtbfmpcfcmbjeeaaGreatDoor
namespace Go.Proofs.YtbfmpcfcmbjeeaaGreatDoor.R1
open Go Go.RowKit
theorem nat_ (A : Option Addr) (n c : Nat) (w : World) :
  Calls Tryz.prog 71 #[.slice A n c] w fun e w' => e = .returned (.agg #[.slice A n c]) /\ Below w.heap.size w w' := by
 go_enter Tryz.func71, Tryz.ntmps71
 go_wp2
 exact bodyPost_ret (v := .agg #[.slice A n c]) (by simp [results, Tryz.results71, go_sem]) rfl ⟨rfl, by first | exact (Below.refl _ _).alloc (Nat.le_refl _) _ | exact ((Below.refl _ _).alloc (Nat.le_refl _) _).setCell (Nat.le_refl _) _⟩
set_option maxHeartbeats 1000000 in
set_option maxRecDepth 100000 in
theorem Parse (s : ByteArray) (w : World) (hd : Digs s) (h0 : 0 < s.size) (h1 : s.size <= 65536) :
  Calls Tryz.prog 39 #[.string s] w fun e w' => ∃ A n c, e = .returned (.tuple #[.agg #[.slice A n c], .int .i64 0, .int .i64 0]) /\ Rd w' A n c (toL (dvk s s.size)) /\ Fr w.heap.size A /\ Below w.heap.size w w' := by
 have HD := vv hd
 have hsz : (s.size : Int) <= 65536 := by omega
 clear hd h1
 go_enter Tryz.func39, Tryz.ntmps39
 go_wp2
 go_loop [5] (fun t => ∃ k : Nat, k <= s.size /\ t = .int .i64 k) (fun t => s.size - (intOf t).toNat)
 case atStart => exact ⟨0, Nat.zero_le _, rfl⟩
 case round =>
  obtain ⟨k, hk, rfl⟩ := hrel
  by_cases hks : k < s.size
  ·obtain ⟨d1, d2⟩ := HD.out k hks
   go_wp2
   go_round
   case rel => exact ⟨k + 1, by omega, by go_num⟩
   case measure => simp [intOf]; omega
  ·have hne : ((s.size : Int) == 0) = false := by rw [beq_eq_false_iff_ne]; omega
   have hks' : k = s.size := by omega
   subst hks'
   clear hk hks
   go_wp2
   go_loopw [6, 7] (fun v t wr => ∃ (i : Nat) (A : Option Addr) (n c : Nat), t = .int .i64 i /\ i <= s.size /\ v = .slice A n c /\ Rd wr A n c (toL (dvk s i)) /\ Fr (w.heap.size + 1) A /\ NatCell wr w.heap.size /\ Below w.heap.size w wr) (fun _ t _ => s.size - (intOf t).toNat)
   case atStart => exact ⟨0, none, 0, 0, rfl, Nat.zero_le _, rfl, Rd.nil _, Fr.none_ _, NatCell.made _ _, (Below.refl _ _).alloc (Nat.le_refl _) _⟩
   case round =>
    obtain ⟨i, A, n, c, rfl, hi, rfl, hR, hFr, hNC, hB⟩ := hrel
    have HNC := vv hNC
    have hnlt := hNC.lt
    have HR := vv hR
    have HFr := vv hFr
    have HB := vv hB
    have hsm := hR.sm
    have hnw : n <= 65536 := by
     have := hR.words
     have := dvk_words s HD.out i hi
     omega
    clear hR hFr hB hNC
    by_cases his : i < s.size
    ·go_wp2
     go_loop [8, 9, 10, 7] (fun a b c t => ∃ j : Nat, j <= 9 /\ i + j <= s.size /\ a = .int .u32 (dvm s i j : Nat) /\ b = .int .u32 (tn j : Nat) /\ c = .int .i64 j /\ t = .int .i64 ((i + j : Nat) : Int)) (fun _ _ c _ => 9 - (intOf c).toNat)
     case atStart => exact ⟨0, by omega, by omega, rfl, rfl, rfl, rfl⟩
     case round =>
      obtain ⟨j, hj, hij, rfl, rfl, rfl, rfl⟩ := hrel
      by_cases hgo : j < 9 /\ i + j < s.size
      ·obtain ⟨g1, g2⟩ := hgo
       obtain ⟨d1, d2⟩ := HD.out (i + j) g2
       have HS := vv (dvm_succ s i j g2)
       have m1 := dvm_lt s HD.out i j hij
       have m2 := ten_eight (j := j) (by omega)
       have m3 : ((dvm s i j : Nat) : Int) <= 100000000 := by omega
       have m4 : ((tn j : Nat) : Int) <= 100000000 := by unfold tn; omega
       have HTn := vv (tn_succ j)
       have m5 : (j : Int) < 9 := by omega
       have m6 : ((i + j : Nat) : Int) < (s.size : Int) := by omega
       clear m1 m2
       go_wp2
       go_round
       case rel => exact ⟨j + 1, by omega, by omega, congrArg _ (by rw [HS.out]; omega), congrArg _ (by rw [HTn.out]; omega), by go_num, congrArg _ (by omega)⟩
       case measure => simp [intOf]; omega
      ·have hj0 : 0 < j := by omega
       have m1 := dvm_lt s HD.out i j hij
       have m2 := ten_nine hj
       have hx1 : dvm s i j < 4294967296 := by omega
       have hx2 : tn j < 4294967296 := by unfold tn; omega
       obtain ⟨o1, o2⟩ := one_word wr (tn j) hx2 34
       have HO1 := vv o1
       have HO2 := vv o2
       have HTen : Hid (tn j < 4294967296) := vv hx2
       have HN : Hid (dvm s i j < 4294967296) := vv hx1
       have HAdd := vv (dvk_add s i j hij)
       clear m1 m2 o1 o2 hx1 hx2
       rcases (by omega : ¬ j < 9 \/ j < 9 /\ ¬ i + j < s.size) with g1 | ⟨g1, g2⟩
       ·clear hgo
        go_wp2_with fail
        refine (times A (some ⟨wr.heap.size, 0, none⟩) n 1 c 1 _ _ _ (HR.out.below HO2.out rfl) HO1.out (by omega)).mono ?_
        rintro e w1 ⟨A1, n1, c1, rfl, hT, hF1, hB1⟩
        rw [val_toL, val_single] at hT
        have hn1 : n1 <= 65536 := by
         have e1 := hT.words
         have e2 := words_mono (a := dvk s i * tn j) (b := dvk s (i + j)) (by rw [HAdd.out]; exact Nat.le_add_right _ _)
         have e3 := dvk_words s HD.out (i + j) hij
         omega
        obtain ⟨o3, o4⟩ := one_word w1 (dvm s i j) HN.out 34
        have HT := vv (hT.below o4 rfl)
        have HO3 := vv o3
        have HO4 := vv o4
        have HNC1 := vv (((HNC.out.below HO2.out).below hB1).below o4)
        have HB1 := vv ((HB.out.trans (HO2.out.mono HB.out.size)).trans (hB1.mono (Nat.le_trans HB.out.size HO2.out.size)))
        clear hT o3 o4 hB1
        go_wp2_with fail
        refine (Trim (some ⟨w1.heap.size, 0, none⟩) 1 1 [dvm s i j] _ HO3.out).mono ?_
        rintro e w' ⟨m', rfl, rfl, hR'⟩
        rw [val_single] at hR'
        have hm' : m' <= 1 := hR'.bound (k := 1) (by rw [Nat.pow_one]; exact HN.out)
        have HR' := vv hR'
        clear hR'
        go_wp2_with fail
        refine (plus A1 (some ⟨w1.heap.size, 0, none⟩) n1 m' c1 1 _ _ _ HT.out HR'.out (by omega) (by omega)).mono ?_
        rintro e w2 ⟨A2, n2, c2, rfl, hP, hF2, hB2⟩
        have HP : Hid (Rd w2 A2 n2 c2 (toL (dvk s (i + j)))) := vv (by rw [HAdd.out]; exact hP)
        have hs1 := HB1.out.size
        have HB2 := vv ((HB1.out.trans (HO4.out.mono HB1.out.size)).trans (hB2.mono (Nat.le_trans HB1.out.size HO4.out.size)))
        have HF2 : Hid (Fr (w.heap.size + 1) A2) := vv (hF2.mono (by have := HNC1.out.lt; omega))
        have HNC2 := vv (HNC1.out.below hB2)
        clear hP hB2 hF2
        go_wp2
        go_roundw
        case rel => exact ⟨i + j, A2, n2, c2, by go_num, hij, rfl, HP.out, HF2.out, HNC2.out, HB2.out⟩
        case measure => simp [intOf]; omega
       ·clear hgo
        go_wp2_with fail
        refine (times A (some ⟨wr.heap.size, 0, none⟩) n 1 c 1 _ _ _ (HR.out.below HO2.out rfl) HO1.out (by omega)).mono ?_
        rintro e w1 ⟨A1, n1, c1, rfl, hT, hF1, hB1⟩
        rw [val_toL, val_single] at hT
        have hn1 : n1 <= 65536 := by
         have e1 := hT.words
         have e2 := words_mono (a := dvk s i * tn j) (b := dvk s (i + j)) (by rw [HAdd.out]; exact Nat.le_add_right _ _)
         have e3 := dvk_words s HD.out (i + j) hij
         omega
        obtain ⟨o3, o4⟩ := one_word w1 (dvm s i j) HN.out 34
        have HT := vv (hT.below o4 rfl)
        have HO3 := vv o3
        have HO4 := vv o4
        have HNC1 := vv (((HNC.out.below HO2.out).below hB1).below o4)
        have HB1 := vv ((HB.out.trans (HO2.out.mono HB.out.size)).trans (hB1.mono (Nat.le_trans HB.out.size HO2.out.size)))
        clear hT o3 o4 hB1
        go_wp2_with fail
        refine (Trim (some ⟨w1.heap.size, 0, none⟩) 1 1 [dvm s i j] _ HO3.out).mono ?_
        rintro e w' ⟨m', rfl, rfl, hR'⟩
        rw [val_single] at hR'
        have hm' : m' <= 1 := hR'.bound (k := 1) (by rw [Nat.pow_one]; exact HN.out)
        have HR' := vv hR'
        clear hR'
        go_wp2_with fail
        refine (plus A1 (some ⟨w1.heap.size, 0, none⟩) n1 m' c1 1 _ _ _ HT.out HR'.out (by omega) (by omega)).mono ?_
        rintro e w2 ⟨A2, n2, c2, rfl, hP, hF2, hB2⟩
        have HP : Hid (Rd w2 A2 n2 c2 (toL (dvk s (i + j)))) := vv (by rw [HAdd.out]; exact hP)
        have hs1 := HB1.out.size
        have HB2 := vv ((HB1.out.trans (HO4.out.mono HB1.out.size)).trans (hB2.mono (Nat.le_trans HB1.out.size HO4.out.size)))
        have HF2 : Hid (Fr (w.heap.size + 1) A2) := vv (hF2.mono (by have := HNC1.out.lt; omega))
        have HNC2 := vv (HNC1.out.below hB2)
        clear hP hB2 hF2
        go_wp2
        go_roundw
        case rel => exact ⟨i + j, A2, n2, c2, by go_num, hij, rfl, HP.out, HF2.out, HNC2.out, HB2.out⟩
        case measure => simp [intOf]; omega
    ·have his' : i = s.size := by omega
     subst his'
     clear hi his
     go_wp2_with fail
     refine (nat_ A n c _).mono ?_
     rintro e w1 ⟨rfl, hB1⟩
     have HR1 := vv (HR.out.below hB1 rfl)
     have HNC1 := vv (HNC.out.below hB1)
     have HB1 := vn HB hB1
     have c0 := HNC1.out.c0
     have fz := HNC1.out.fz
     have lt := HNC1.out.lt
     have HFin : Hid (Rd (w1.setCell ⟨w.heap.size, 0, none⟩ (.slice A n c)) A n c (toL (dvk s s.size))) := vv (HR1.out.other _ _ _ (fun a e => by have := (HFr.out a e).1; omega))
     have HBel : Hid (Below w.heap.size w (w1.setCell ⟨w.heap.size, 0, none⟩ (.slice A n c))) := vv (HB1.out.setCell (Nat.le_refl _) _)
     have hcell : (w1.setCell ⟨w.heap.size, 0, none⟩ (.slice A n c)).cell? ⟨w.heap.size, 0, none⟩ = some (.slice A n c) := cell_eq c0
     clear hB1
     go_wp2
     exact bodyPost_ret (v := .tuple #[.agg #[.slice A n c], .int .i64 0, .int .i64 0]) (by simp [results, Tryz.results39, go_sem, hcell]) rfl ⟨A, n, c, rfl, HFin.out, HFr.out.mono (by omega), HBel.out⟩
end Go.Proofs.YtbfmpcfcmbjeeaaGreatDoor.R1
namespace Go.Proofs.YtbfmpcfcmbjeeaaGreatDoor.Rtp
open Go Go.RowKit R5
theorem toL_of {W : List Nat} {N : Nat} (hl : Lim W) (hv : val W = N) (hw : W.length = words N) : W = toL N :=
 ext_nth hw fun i _ => by rw [nth_toL, <- hv, nth_val hl]
theorem words_bytes (N : Nat) : ((bl N + 7) / 8 + 3) / 4 = words N := by
 have h1 := A.bl_words N
 have h2 : N < 4294967296 ^ (((bl N + 7) / 8 + 3) / 4) := by
  rw [pow4]
  exact Nat.lt_of_lt_of_le (A.lt_bytes N) (Nat.pow_le_pow_right (by decide) (by omega))
 have h3 := words_le h2
 omega
set_option maxRecDepth 100000 in
set_option maxHeartbeats 2000000 in
theorem limbs (g o : Nat) (u : Int) (w : World) (h : IntAt w g o u) (sN : bl u.natAbs <= 4294967296) :
  Calls Tryz.prog 177 #[.pointer (some ⟨g, o, none⟩)] w fun e w' => ∃ A n, e = .returned (natV A n n) /\ Rd w' A n n (toL u.natAbs) /\ Fr w.heap.size A /\ Below w.heap.size w w' := by
 obtain ⟨w0, hw0⟩ := yx (w.alloc (.cells #[.slice none 0 0] 28))
 have b0 : Below w.heap.size w w0 := by rw [hw0]; exact (Below.refl _ w).alloc (Nat.le_refl _) _
 have c0 : NatCell w0 w.heap.size := by rw [hw0]; exact NatCell.made _ _
 have HBy := vv (A.Bytes g o u w0 (h.below b0) sN)
 have HWB := vv (words_bytes u.natAbs)
 obtain ⟨N, hN⟩ := yx (u.natAbs)
 rw [<- hN] at HBy HWB sN ⊢
 have HW0 := vv hw0
 have HB0 := vv b0
 have HC0 := vv c0
 have HSn := vv sN
 clear h hw0 b0 c0 sN hN
 go_enter Tryz.func177, Tryz.ntmps177
 go_wp2_with fail
 rw [<- HW0.out]
 refine HBy.out.mono ?_
 rintro e w1 ⟨B, m, rfl, hm, hBd, hB1⟩
 have HBd := vv hBd
 have HB1 := vv hB1
 have HC1 := vv (HC0.out.below hB1)
 have HL1 : Hid (w.heap.size < w1.heap.size) := vv HC1.out.lt
 obtain ⟨L, hL⟩ := yx ((m + 3) / 4)
 have HLw : Hid (L = words N) := vv (by rw [hL, hm]; exact HWB.out)
 have hmb : m <= 4294967296 := by have := HSn.out; omega
 have hLb : L <= 1099511627776 := by omega
 have hLi : (L : Int) <= 1099511627776 := by omega
 have hLq : ((m : Int) + 3) / 4 = (L : Int) := by omega
 have hmi : (m : Int) <= 4294967296 := by omega
 have hmk := A.mk L hLb
 have HL := vv hL
 have H1 : Hid (Own (w1.alloc (.cells (madeCells #[.int .u32 0] L) 34)) w1.heap.size 34 (List.replicate L 0)) := vv (Own.made w1 L 34)
 have H3 : Hid (Below w1.heap.size w1 (w1.alloc (.cells (madeCells #[.int .u32 0] L) 34))) := vv ((Below.refl _ w1).alloc (Nat.le_refl _) _)
 clear hBd hB1 hL hm
 go_wp2
 clear hLq
 go_loopw [17] (fun t wr => ∃ (i : Nat) (W : List Nat), t = .int .i64 i /\ i <= m /\ Own wr w1.heap.size 34 W /\ W.length = L /\ val W = hi N (m - i) /\ Below w1.heap.size w1 wr) (fun t _ => m - (intOf t).toNat)
 case atStart => exact ⟨0, List.replicate L 0, rfl, Nat.zero_le _, H1.out, List.length_replicate, by rw [val_replicate, Nat.sub_zero, hi_top HBd.out.lt], H3.out⟩
 case round =>
  obtain ⟨i, W, rfl, hil, hOwn, hlW, hvW, hB⟩ := hrel
  have HOwn := vv hOwn
  have HlW := vv hlW
  have HB := vv hB
  by_cases him : i < m
  ·obtain ⟨k, hk⟩ := yx (m - 1 - i)
   have hv1 : val W = hi N (k + 1) := by rw [hvW]; congr 1; omega
   have hki : (m : Int) - 1 - (i : Int) = (k : Int) := by omega
   obtain ⟨b, off, e, hbl, hcs⟩ := HBd.out.cell (by omega)
   subst e
   have hbc := (hB.cell (p := ⟨b, off + i, none⟩) hbl).trans (hcs i him)
   rw [<- hk] at hbc
   obtain ⟨q, hq⟩ := yx (k / 4)
   have hqL : q < L := by have := HL.out; omega
   have hqW : q < W.length := by omega
   have hq4 : (k : Int) / 4 = (q : Int) := by omega
   have hki2 : (k : Int) <= 4294967296 := by omega
   have hqLi : (q : Int) < (L : Int) := by omega
   obtain ⟨r, hr⟩ := yx (k % 4)
   have hr4 : (k : Int).tmod 4 = (r : Int) := by rw [Int.tmod_eq_emod_of_nonneg (by omega)]; omega
   have hwq : IntKind.i64.wrap (q : Int) = (q : Int) := by rw [IntKind.wrap_i64]; omega
   have hq0 : (0 : Int) <= (q : Int) := by omega
   obtain ⟨s1, s2, s3, s4⟩ := byte_step hOwn.2 hqW (show k = 4 * q + r by omega) (by omega) hv1
   have hwc := hOwn.cell hqW
   have hwf := hOwn.frozen q
   have hwl := hOwn.lt
   have HS := vv (hOwn.set (x := nth W q + bt N k * 256 ^ r) hqW s2 rfl)
   have hcl := bt_lt N k
   obtain ⟨C, hC⟩ := yx (bt N k)
   obtain ⟨x, hx⟩ := yx (nth W q)
   rw [<- hC, <- hx] at s1 s2 s4 HS
   rw [<- hC] at s3 hcl hbc
   rw [<- hx] at hwc
   have hwC : IntKind.u32.wrap (C : Int) = (C : Int) := by rw [IntKind.wrap_u32]; omega
   obtain ⟨D, hD⟩ := yx (C * 256 ^ r)
   rw [<- hD] at s1 s2 s3 s4 HS
   obtain ⟨s, hs⟩ := yx (8 * r)
   have hr8 : IntKind.i64.wrap (8 * (r : Int)) = (s : Int) := by rw [IntKind.wrap_i64]; omega
   have hs0 : (0 : Int) <= (s : Int) := by omega
   have hs32 : (s : Int) <= 32 := by omega
   have hsh : IntKind.u32.wrap ((C : Int) * 2 ^ s) = (D : Int) := by
    have e : (C : Int) * 2 ^ s = (D : Int) := by
     have e2 : (2 : Int) ^ s = ((256 ^ r : Nat) : Int) := by rw [hs, Int.natCast_pow, Int.pow_mul]; rfl
     rw [e2, hD, Int.natCast_mul]
    rw [e, IntKind.wrap_u32]; omega
   have HHi : Hid (hi N k = hi N (m - (i + 1))) := vv (by rw [hk]; congr 1; omega)
   have HS4 := vv s4
   clear hbl hcs hB hOwn hv1 hvW hlW hr hq hk hC hx hD hs s2 s3 s4
   go_wp2
   refine wp_region_sch (fun w' => w'.cell? ⟨w1.heap.size, q, none⟩ = some (.int .u32 (x : Int))) 13
    (.still 0 (.still 1 (.still 2 (.still 3 (.still 4 (.still 5 (.still 6 (.still 7 (.still 8 (.still 9 (.still 10 (.still 11 (.still 12 .done))))))))))))) (by kernel_rfl) (by kernel_rfl) (fun _ _ d _ _ h => by cases d <;> exact h) hwc (fun hS0 => ?_)
   iterate 13
    refine sch_still (v := ?_) rfl (by rfl) ?_ ?_
    rotate_left
    ·intro w hSw; go_simp; with_reducible rfl
    simp only [Act.put, List.setIfInBounds_toArray, List.set_cons_zero, List.set_cons_succ]
   refine sch_done ?_
   go_wp2
   go_roundw
   case rel => exact ⟨i + 1, W.set q (x + D), by go_num, by omega, HS.out, by rw [List.length_set]; exact HlW.out, HS4.out.trans HHi.out, (HB.out.drew).setCell (Nat.le_refl _) _⟩
   case measure => simp [intOf]; omega
  ·obtain rfl : i = m := by omega
   rw [Nat.sub_self, hi_zero] at hvW
   have HvW := vv hvW
   have hC9 := HC1.out.below hB
   have c1 := hC9.c0
   have l1 := hC9.lt
   have fz1 := hC9.fz
   have hil2 : (i : Int) <= (i : Int) := Int.le_refl _
   have HWe := vv (toL_of hOwn.2 hvW (by rw [hlW]; exact HLw.out))
   obtain ⟨w9, hw9⟩ := yx (wr.setCell ⟨w.heap.size, 0, none⟩ (.slice (some ⟨w1.heap.size, 0, none⟩) L L))
   have hcell : w9.cell? ⟨w.heap.size, 0, none⟩ = some (.slice (some ⟨w1.heap.size, 0, none⟩) L L) := by rw [hw9]; exact cell_eq c1
   have HR9 : Hid (Rd w9 (some ⟨w1.heap.size, 0, none⟩) L L (toL N)) := vv (by
    rw [<- HWe.out, hw9]
    exact (HOwn.out.setOther (by show w1.heap.size ≠ w.heap.size; have := HL1.out; omega) _).rd HlW.out.symm (Nat.le_refl _) hLb)
   have HB9 : Hid (Below w.heap.size w w9) := vv (by
    rw [hw9]
    exact (HB0.out.trans ((HB1.out.mono HB0.out.size).trans (HB.out.mono (by have := HL1.out; omega)))).setCell (Nat.le_refl _) _)
   have HW9 := vv hw9
   have HCl := vv hcell
   clear hOwn hvW hlW hB him hil hil2 hw9 hcell
   go_wp2
   rw [<- HW9.out]
   have hcell := HCl.out
   exact bodyPost_ret (v := natV (some ⟨w1.heap.size, 0, none⟩) L L) (by simp [results, Tryz.results177, go_sem, hcell]) rfl ⟨_, _, rfl, HR9.out, Fr.at_ (by show w.heap.size <= w1.heap.size; have := HL1.out; omega), HB9.out⟩
set_option maxRecDepth 100000 in
set_option maxHeartbeats 1000000 in
theorem whole (Ad : Option Addr) (n c N : Nat) (w : World) (hr : Rd w Ad n c (toL N)) (hn : n <= 1000000) :
  Calls Tryz.prog 135 #[natV Ad n c] w (NewPost (N : Int) w) := by
 obtain ⟨w0, hw0⟩ := yx (w.alloc (.cells #[.slice Ad n c] 28))
 have b0 : Below w.heap.size w w0 := by rw [hw0]; exact (Below.refl _ w).alloc (Nat.le_refl _) _
 have c0 : w0.cell? ⟨w.heap.size, 0, none⟩ = some (.slice Ad n c) := by rw [hw0]; simp only [World.cell?]; rw [heap_alloc_new]; rfl
 have l0 : w.heap.size < w0.heap.size := by rw [hw0]; simp
 obtain ⟨m, hm⟩ := yx (4 * n)
 have hmb : m <= 1099511627776 := by omega
 have hmk := A.mk8 m hmb
 have hmq : 4 * (n : Int) = (m : Int) := by omega
 have hmi : (m : Int) <= 4000000 := by omega
 have hni : (n : Int) <= 1000000 := by omega
 have hNm : N < 256 ^ m := by
  have := lt_words N
  rw [hr.words, pow4, <- hm] at this
  exact this
 have HM := vv hm
 have HNm := vv hNm
 have HR := vv hr
 have HW0 := vv hw0
 have HB0 := vv b0
 have HC0 := vv c0
 have HL0 := vv l0
 have s0 : w0.heap.size = w.heap.size + 1 := by rw [hw0]; simp
 have h1 := Own8.made w0 m 5
 have h3 := (Below.refl w0.heap.size w0).alloc (o := .cells (madeCells #[.int .u8 0] m) 5) (Nat.le_refl _)
 rw [s0] at h1 h3
 have H1 := vv h1
 have H3 := vv h3
 have HS0 := vv s0
 clear h1 h3 s0
 clear hr hw0 b0 hm hNm
 go_enter Tryz.func135, Tryz.ntmps135
 go_wp2
 rw [<- HW0.out]
 clear hmq c0 l0
 go_loopw [15] (fun t wr => ∃ (i : Nat) (U : List Nat), t = .int .i64 i /\ i <= n /\ Own8 wr (w.heap.size + 1) 5 U /\ U.length = m /\ (∀ j, m - 4 * i <= j -> j < m -> nth U j = bt N (m - 1 - j)) /\ Below (w.heap.size + 1) w0 wr) (fun t _ => n - (intOf t).toNat)
 case atStart => exact ⟨0, List.replicate m 0, rfl, Nat.zero_le _, H1.out, List.length_replicate, fun j h1 h2 => absurd h1 (by omega), H3.out⟩
 case round =>
  obtain ⟨i, U, rfl, hil, hOwn, hlU, hvU, hB⟩ := hrel
  have HOwn := vv hOwn
  have HlU := vv hlU
  have HvU := vv hvU
  have HB := vv hB
  by_cases him : i < n
  ·obtain ⟨b, off, e, hbl, hcs⟩ := HR.out.cell (by omega)
   subst e
   have hb0 : b < w.heap.size + 1 := by omega
   have hbc := (hB.cell (p := ⟨b, off + i, none⟩) hb0).trans ((HB0.out.cell (p := ⟨b, off + i, none⟩) hbl).trans (hcs i him))
   have hxl : nth (toL N) i < 4294967296 := HR.out.nth_lt i
   have hb_0 := word_byte (Lim_toL N) i 0 (by omega)
   have hb_1 := word_byte (Lim_toL N) i 1 (by omega)
   have hb_2 := word_byte (Lim_toL N) i 2 (by omega)
   have hb_3 := word_byte (Lim_toL N) i 3 (by omega)
   rw [val_toL] at hb_0 hb_1 hb_2 hb_3
   rw [Nat.pow_zero, Nat.div_one] at hb_0
   rw [Nat.pow_one] at hb_1
   rw [show 256 ^ 2 = 65536 from rfl] at hb_2
   rw [show 256 ^ 3 = 16777216 from rfl] at hb_3
   obtain ⟨x, hx⟩ := yx (nth (toL N) i)
   obtain ⟨C0, hC0⟩ := yx (bt N (4 * i + 0))
   obtain ⟨C1, hC1⟩ := yx (bt N (4 * i + 1))
   obtain ⟨C2, hC2⟩ := yx (bt N (4 * i + 2))
   obtain ⟨C3, hC3⟩ := yx (bt N (4 * i + 3))
   rw [<- hx] at hbc hxl hb_0 hb_1 hb_2 hb_3
   rw [<- hC0] at hb_0
   rw [<- hC1] at hb_1
   rw [<- hC2] at hb_2
   rw [<- hC3] at hb_3
   have v0 : (x : Int) % 256 = (C0 : Int) := by omega
   have v1 : (x : Int) / 256 % 256 = (C1 : Int) := by omega
   have v2 : (x : Int) / 65536 % 256 = (C2 : Int) := by omega
   have v3 : (x : Int) / 16777216 = (C3 : Int) := by omega
   obtain ⟨a, ha⟩ := yx (m - 4 * i)
   have ha4 : 4 <= a := by have := HM.out; omega
   have ham : a <= m := by omega
   obtain ⟨p, hp⟩ := yx (a - 4)
   have hai : (m : Int) - 4 * (i : Int) = (a : Int) := by have := HM.out; omega
   have q1 : (a : Int) - 1 = ((p + 3 : Nat) : Int) := by omega
   have q2 : (a : Int) - 2 = ((p + 2 : Nat) : Int) := by omega
   have q3 : (a : Int) - 3 = ((p + 1 : Nat) : Int) := by omega
   have q4 : (a : Int) - 4 = (p : Int) := by omega
   obtain ⟨p1, hp1⟩ := yx (p + 3)
   obtain ⟨p2, hp2⟩ := yx (p + 2)
   obtain ⟨p3, hp3⟩ := yx (p + 1)
   rw [<- hp1] at q1
   rw [<- hp2] at q2
   rw [<- hp3] at q3
   have m1 : (p1 : Int) < (m : Int) := by omega
   have m2 : (p2 : Int) < (m : Int) := by omega
   have m3 : (p3 : Int) < (m : Int) := by omega
   have m4 : (p : Int) < (m : Int) := by omega
   obtain ⟨w1, hw1⟩ := yx (wr.setCell ⟨w.heap.size + 1, p1, none⟩ (.int .u8 (C0 : Int)))
   obtain ⟨w2, hw2⟩ := yx (w1.setCell ⟨w.heap.size + 1, p2, none⟩ (.int .u8 (C1 : Int)))
   obtain ⟨w3, hw3⟩ := yx (w2.setCell ⟨w.heap.size + 1, p3, none⟩ (.int .u8 (C2 : Int)))
   have o1 : Own8 w1 (w.heap.size + 1) 5 (U.set p1 C0) := by rw [hw1]; exact hOwn.set (by omega) rfl
   have o2 : Own8 w2 (w.heap.size + 1) 5 ((U.set p1 C0).set p2 C1) := by rw [hw2]; exact o1.set (by rw [List.length_set]; omega) rfl
   have o3 : Own8 w3 (w.heap.size + 1) 5 (((U.set p1 C0).set p2 C1).set p3 C2) := by rw [hw3]; exact o2.set (by simp only [List.length_set]; omega) rfl
   have HS := vv (o3.set (i := p) (x := C3) (by simp only [List.length_set]; omega) rfl)
   have c1 := hOwn.cell (i := p1) (by omega)
   have f1 := hOwn.frozen p1
   have l1 := hOwn.lt
   have c2 := o1.cell (i := p2) (by simp only [List.length_set]; omega)
   have f2 := o1.frozen p2
   have l2 := o1.lt
   have c3 := o2.cell (i := p3) (by simp only [List.length_set]; omega)
   have f3 := o2.frozen p3
   have l3 := o2.lt
   have c4 := o3.cell (i := p) (by simp only [List.length_set]; omega)
   have f4 := o3.frozen p
   have l4 := o3.lt
   have HBs : Hid (Below (w.heap.size + 1) w0 (w3.setCell ⟨w.heap.size + 1, p, none⟩ (.int .u8 (C3 : Int)))) := vv (by
    rw [hw3, hw2, hw1]
    exact (((hB.setCell (Nat.le_refl _) _).setCell (Nat.le_refl _) _).setCell (Nat.le_refl _) _).setCell (Nat.le_refl _) _)
   have HNx : Hid (∀ j, m - 4 * (i + 1) <= j -> j < m -> nth ((((U.set p1 C0).set p2 C1).set p3 C2).set p C3) j = bt N (m - 1 - j)) := vv (fun j h1 h2 => by
    rw [nth_set _ p C3 j (by simp only [List.length_set]; omega), nth_set _ p3 C2 j (by simp only [List.length_set]; omega), nth_set _ p2 C1 j (by simp only [List.length_set]; omega), nth_set _ p1 C0 j (by omega)]
    have hm := HM.out
    by_cases e4 : j = p
    ·rw [if_pos e4, hC3]; congr 1; omega
    rw [if_neg e4]
    by_cases e3 : j = p3
    ·rw [if_pos e3, hC2]; congr 1; omega
    rw [if_neg e3]
    by_cases e2 : j = p2
    ·rw [if_pos e2, hC1]; congr 1; omega
    rw [if_neg e2]
    by_cases e1 : j = p1
    ·rw [if_pos e1, hC0]; congr 1; omega
    rw [if_neg e1]
    exact HvU.out j (by omega) h2)
   obtain ⟨z1, hz1⟩ := yx (nth U p1)
   obtain ⟨z2, hz2⟩ := yx (nth (U.set p1 C0) p2)
   obtain ⟨z3, hz3⟩ := yx (nth ((U.set p1 C0).set p2 C1) p3)
   obtain ⟨z4, hz4⟩ := yx (nth (((U.set p1 C0).set p2 C1).set p3 C2) p)
   rw [<- hz1] at c1
   rw [<- hz2] at c2
   rw [<- hz3] at c3
   rw [<- hz4] at c4
   clear hz1 hz2 hz3 hz4
   have HW1 := vv hw1
   have HW2 := vv hw2
   have HW3 := vv hw3
   have hxi : (x : Int) <= 4294967295 := by omega
   have hi2 : (i : Int) < (n : Int) := by omega
   have hii : (i : Int) <= 1000000 := by omega
   have hai2 : (a : Int) <= 4000000 := by omega
   clear hbl hb0 hcs hB hOwn hvU hlU hx hC0 hC1 hC2 hC3 hb_0 hb_1 hb_2 hb_3 hxl ha hp hp1 hp2 hp3 hw1 hw2 hw3 o1 o2 o3 hil him ha4 ham
   go_wp2_with (first | rw [<- HW1.out] | rw [<- HW2.out] | rw [<- HW3.out])
   go_roundw
   case rel => exact ⟨i + 1, _, by go_num, by omega, HS.out, by simp only [List.length_set]; exact HlU.out, HNx.out, HBs.out⟩
   case measure => simp [intOf]; omega
  ·obtain rfl : i = n := by omega
   have HBd : Hid (Bd wr (some ⟨w.heap.size + 1, 0, none⟩) m m N) := vv (HOwn.out.bd HlU.out.symm (Nat.le_refl _) hmb HNm.out (fun j h => HvU.out j (by have := HM.out; omega) h))
   have HBw : Hid (Below w.heap.size w wr) := vv (HB0.out.trans (hB.mono (by omega)))
   obtain ⟨w5, hw5⟩ := yx (wr.alloc (.cells #[.bool false, .slice none 0 0] 96))
   have b5 : Below wr.heap.size wr w5 := by rw [hw5]; exact (Below.refl _ wr).alloc (Nat.le_refl _) _
   have i5 : IntAt w5 wr.heap.size 0 0 := by rw [hw5]; exact IntAt.zero wr _
   have HSb := vv (A.SetBytes wr.heap.size 0 0 _ m m N w5 i5 (HBd.out.below b5 rfl) (by omega))
   have HI5 := vv i5
   have HW5 := vv hw5
   have HB5 := vn HBw b5
   clear hOwn hvU hlU hB him hil hw5 b5 i5
   go_wp2_with fail
   rw [<- HW5.out]
   refine HSb.out.mono ?_
   rintro e w6 ⟨rfl, hI, hF⟩
   have HI6 := vv hI
   have HB6 : Hid (Below w.heap.size w w6) := vv (Fm.below HB5.out hF HB5.out.size HBw.out.size)
   clear hI hF
   go_wp2
   go_ret
   exact ⟨_, rfl, HBw.out.size, HI6.out, HB6.out⟩
end Go.Proofs.YtbfmpcfcmbjeeaaGreatDoor.Rtp
namespace Go.Proofs.YtbfmpcfcmbjeeaaGreatDoor.R3
open Go Go.RowKit R5
def formOk (E F : Int) : Bool := decide (2 <= E) && decide (E <= 11) && decide (1 <= F) && decide (F <= 52)
def chk (E F : Int) : Int := if formOk E F then 0 else 5
theorem chk_ok {E F : Int} (h : formOk E F = true) : chk E F = 0 := if_pos h
theorem chk_no {E F : Int} (h : formOk E F = false) : chk E F = 5 := by unfold chk; rw [h]; rfl
theorem formOk_nat {E F : Int} (h : formOk E F = true) : ∃ e f : Nat, E = e /\ F = f /\ 2 <= e /\ e <= 11 /\ 1 <= f /\ f <= 52 := by
 unfold formOk at h
 simp only [Bool.and_eq_true, decide_eq_true_eq] at h
 exact ⟨E.toNat, F.toNat, by omega, by omega, by omega, by omega, by omega, by omega⟩
theorem Check (E F : Int) (w : World) :
  Calls Tryz.prog 13 #[fm E F] w fun e w' => e = .returned (.int .i64 (chk E F)) /\ Below w.heap.size w w' := by
 by_cases h1 : E < 2
 ·have HV : Hid (formOk E F = false) := vv (by unfold formOk; rw [decide_eq_false (p := 2 <= E) (by omega)]; rfl)
  have d1 : decide (E < 2) = true := decide_eq_true h1
  clear h1
  go_enter Tryz.func13, Tryz.ntmps13
  go_wp2
  go_ret
  exact ⟨retI (chk_no HV.out).symm, (Below.refl _ _).alloc (Nat.le_refl _) _⟩
 have d1 : decide (E < 2) = false := decide_eq_false h1
 by_cases h2 : 11 < E
 ·have HV : Hid (formOk E F = false) := vv (by unfold formOk; rw [decide_eq_false (p := E <= 11) (by omega)]; simp)
  have d2 : decide (11 < E) = true := decide_eq_true h2
  clear h1 h2
  go_enter Tryz.func13, Tryz.ntmps13
  go_wp2
  go_ret
  exact ⟨retI (chk_no HV.out).symm, (Below.refl _ _).alloc (Nat.le_refl _) _⟩
 have d2 : decide (11 < E) = false := decide_eq_false h2
 by_cases h3 : F < 1
 ·have HV : Hid (formOk E F = false) := vv (by unfold formOk; rw [decide_eq_false (p := 1 <= F) (by omega)]; simp)
  have d3 : decide (F < 1) = true := decide_eq_true h3
  clear h1 h2 h3
  go_enter Tryz.func13, Tryz.ntmps13
  go_wp2
  go_ret
  exact ⟨retI (chk_no HV.out).symm, (Below.refl _ _).alloc (Nat.le_refl _) _⟩
 have d3 : decide (F < 1) = false := decide_eq_false h3
 by_cases h4 : 52 < F
 ·have HV : Hid (formOk E F = false) := vv (by unfold formOk; rw [decide_eq_false (p := F <= 52) (by omega)]; simp)
  have d4 : decide (52 < F) = true := decide_eq_true h4
  clear h1 h2 h3 h4
  go_enter Tryz.func13, Tryz.ntmps13
  go_wp2
  go_ret
  exact ⟨retI (chk_no HV.out).symm, (Below.refl _ _).alloc (Nat.le_refl _) _⟩
 have d4 : decide (52 < F) = false := decide_eq_false h4
 have HV : Hid (formOk E F = true) := vv (by unfold formOk; rw [decide_eq_true (p := 2 <= E) (by omega), decide_eq_true (p := E <= 11) (by omega), decide_eq_true (p := 1 <= F) (by omega), decide_eq_true (p := F <= 52) (by omega)]; rfl)
 clear h1 h2 h3 h4
 go_enter Tryz.func13, Tryz.ntmps13
 go_wp2
 go_ret
 exact ⟨retI (chk_ok HV.out).symm, (Below.refl _ _).alloc (Nat.le_refl _) _⟩
def tw (j : Nat) : Nat := 2 ^ j
theorem tw_succ (j : Nat) : tw (j + 1) = tw j * 2 := by unfold tw; rw [Nat.pow_succ]
theorem tw_le {j k : Nat} (h : j <= k) : tw j <= tw k := Nat.pow_le_pow_right (by omega) h
theorem tw_pos (j : Nat) : 0 < tw j := Nat.two_pow_pos j
theorem Pow (n : Nat) (w : World) (hn : n <= 63) :
  Calls Tryz.prog 52 #[.int .i64 (n : Int)] w fun e w' => e = .returned (.int .u64 (tw n : Nat)) /\ w = w' := by
 have hni : (n : Int) <= 63 := by omega
 go_enter Tryz.func52, Tryz.ntmps52
 go_wp2
 go_loop [3, 4] (fun a t => ∃ k : Nat, k <= n /\ t = .int .i64 k /\ a = .int .u64 (tw k : Nat)) (fun _ t => n - (intOf t).toNat)
 case atStart => exact ⟨0, Nat.zero_le _, rfl, rfl⟩
 case round =>
  obtain ⟨k, hk, rfl, rfl⟩ := hrel
  by_cases hkn : k < n
  ·have hb : ((tw k : Nat) : Int) <= 4611686018427387904 := by
    have := tw_le (j := k) (k := 62) (by omega)
    have h2 : tw 62 = 4611686018427387904 := rfl
    omega
   have HS := vv (tw_succ k)
   go_wp2
   go_round
   case rel => exact ⟨k + 1, by omega, by go_num, congrArg _ (by rw [HS.out]; omega)⟩
   case measure => simp [intOf]; omega
  ·obtain rfl : k = n := by omega
   clear hkn
   go_wp2
   go_ret
   exact ⟨rfl, rfl⟩
theorem Top (E : Nat) (F : Int) (w : World) (h1 : 2 <= E) (h2 : E <= 11) :
  Calls Tryz.prog 51 #[fm E F] w fun e w' => e = .returned (.int .i64 ((tw E - 1 : Nat) : Int)) /\ Below w.heap.size w w' := by
 have hb : ((tw E : Nat) : Int) <= 2048 := by
  have := tw_le h2
  have h3 : tw 11 = 2048 := rfl
  omega
 have hb2 : (1 : Int) <= ((tw E : Nat) : Int) := by have := tw_pos E; omega
 have HP := vv fun w => Pow E w (by omega)
 clear h1 h2
 go_enter Tryz.func51, Tryz.ntmps51
 go_wp2_with fail
 refine (HP.out _).mono ?_
 rintro e w' ⟨rfl, rfl⟩
 go_wp2
 go_ret
 exact ⟨retI (by omega), (Below.refl _ _).alloc (Nat.le_refl _) _⟩
structure PartsBox (w : World) (g : Nat) (neg : Bool) (x f : Nat) : Prop where
 c0 : w.cell? ⟨g, 0, none⟩ = some (.bool neg)
 c1 : w.cell? ⟨g, 1, none⟩ = some (.int .i64 (x : Int))
 c2 : w.cell? ⟨g, 2, none⟩ = some (.int .u64 (f : Int))
 lt : g < w.heap.size
theorem PartsBox.made (w : World) (neg : Bool) (x f : Nat) (t : TypeId) : PartsBox (w.alloc (.cells #[.bool neg, .int .i64 (x : Int), .int .u64 (f : Int)] t)) w.heap.size neg x f :=
 ⟨by simp only [World.cell?]; rw [heap_alloc_new]; rfl, by simp only [World.cell?]; rw [heap_alloc_new]; rfl, by simp only [World.cell?]; rw [heap_alloc_new]; rfl, by simp⟩
theorem PartsBox.below {w w' : World} {g : Nat} {neg : Bool} {x f : Nat} (h : PartsBox w g neg x f) (hb : Below w.heap.size w w') : PartsBox w' g neg x f :=
 ⟨(hb.cell (p := ⟨g, 0, none⟩) h.lt).trans h.c0, (hb.cell (p := ⟨g, 1, none⟩) h.lt).trans h.c1, (hb.cell (p := ⟨g, 2, none⟩) h.lt).trans h.c2, Nat.lt_of_lt_of_le h.lt hb.size⟩
set_option maxRecDepth 100000 in
set_option maxHeartbeats 1000000 in
theorem Join (E F x f : Nat) (neg : Bool) (w : World) (h1 : 2 <= E) (h2 : E <= 11) (h3 : 1 <= F) (h4 : F <= 52) (hx : x < 2 ^ E) (hf : f < 2 ^ F) :
  Calls Tryz.prog 98 #[fm E F, .agg #[.bool neg, .int .i64 (x : Int), .int .u64 (f : Int)]] w fun e w' => e = .returned (.tuple #[.int .u64 ((sgb E F neg + (x * 2 ^ F + f) : Nat) : Int), .int .i64 0]) /\ Below w.heap.size w w' := by
 have hok : formOk (E : Int) (F : Int) = true := by
  unfold formOk; rw [decide_eq_true (p := (2 : Int) <= E) (by omega), decide_eq_true (p := (E : Int) <= 11) (by omega), decide_eq_true (p := (1 : Int) <= F) (by omega), decide_eq_true (p := (F : Int) <= 52) (by omega)]; rfl
 have HCk := vv fun w => Check (E : Int) (F : Int) w
 rw [chk_ok hok] at HCk
 obtain ⟨T, hT⟩ : ∃ T : Nat, T = tw E - 1 := ⟨_, rfl⟩
 obtain ⟨P, hP⟩ : ∃ P : Nat, P = tw F := ⟨_, rfl⟩
 obtain ⟨S, hS⟩ : ∃ S : Nat, S = tw (E + F) := ⟨_, rfl⟩
 obtain ⟨M, hM⟩ : ∃ M : Nat, M = x * P := ⟨_, rfl⟩
 have hxT : x <= T := by rw [hT]; unfold tw; omega
 have hfP : f < P := by rw [hP]; exact hf
 have hMS : M + P <= S := by
  have : (x + 1) * P <= tw E * P := Nat.mul_le_mul_right _ (by unfold tw; omega)
  rw [hS, hM]
  have e : tw (E + F) = tw E * P := by rw [hP]; unfold tw; rw [Nat.pow_add]
  rw [e]
  rw [Nat.add_mul, Nat.one_mul] at this
  exact this
 have hS63 : S <= 9223372036854775808 := by rw [hS]; exact Nat.le_trans (tw_le (j := E + F) (k := 63) (by omega)) (by decide)
 have HTp := vv fun w => Top E F w h1 h2
 rw [<- hT] at HTp
 have HPf := vv fun w => Pow F w (by omega)
 rw [<- hP] at HPf
 have HPs := vv fun w => Pow (E + F) w (by omega)
 rw [<- hS] at HPs
 have HW1 : Hid (IntKind.u64.wrap ((x : Int) * (P : Int)) = (M : Int)) := vv (by
  have e : (x : Int) * (P : Int) = (M : Int) := by rw [hM, Int.natCast_mul]
  rw [e, IntKind.wrap_u64]; omega)
 have HW2 : Hid (IntKind.u64.wrap ((M : Int) + (f : Int)) = ((M + f : Nat) : Int)) := vv (by rw [IntKind.wrap_u64]; omega)
 have HW3 : Hid (IntKind.u64.wrap (((M + f : Nat) : Int) + (S : Int)) = ((S + (M + f) : Nat) : Int)) := vv (by rw [IntKind.wrap_u64]; omega)
 have HRes : Hid (sgb E F neg + (x * 2 ^ F + f) = (if neg then S else 0) + (M + f)) := vv (by unfold sgb; rw [hM, hP, hS]; rfl)
 obtain ⟨w0, hw0⟩ := yx (w.alloc (.cells #[.int .i64 (E : Int), .int .i64 (F : Int)] 23))
 obtain ⟨w1, hw1⟩ := yx (w0.alloc (.cells #[.bool neg, .int .i64 (x : Int), .int .u64 (f : Int)] 126))
 have hB0 : Below w.heap.size w w0 := by rw [hw0]; exact (Below.refl _ w).alloc (Nat.le_refl _) _
 have hB1 : Below w0.heap.size w0 w1 := by rw [hw1]; exact (Below.refl _ w0).alloc (Nat.le_refl _) _
 have hsz : w0.heap.size = w.heap.size + 1 := by rw [hw0]; simp
 have hF0 : FmAt w1 w.heap.size E F := (show FmAt w0 w.heap.size E F by rw [hw0]; exact FmAt.made w _ _ _).below hB1
 have hX0 : PartsBox w1 (w.heap.size + 1) neg x f := by rw [<- hsz, hw1]; exact PartsBox.made w0 _ _ _ _
 have HF := vv hF0
 have HX := vv hX0
 have HB := vv (hB0.trans (hB1.mono hB0.size))
 have HW0 : Hid (w1 = (w.alloc (.cells #[.int .i64 (E : Int), .int .i64 (F : Int)] 23)).alloc (.cells #[.bool neg, .int .i64 (x : Int), .int .u64 (f : Int)] 126)) := vv (by rw [hw1, hw0])
 have dT : decide (T < x) = false := decide_eq_false (by omega)
 have dP : decide (P <= f) = false := decide_eq_false (by omega)
 have hei : (E : Int) <= 11 := by omega
 have hfi : (F : Int) <= 52 := by omega
 have hx63 : (x : Int) <= 4611686018427387904 := by
  have h5 : 2 ^ E <= 2 ^ 11 := Nat.pow_le_pow_right (by omega) h2
  omega
 have f0 := hF0.c0
 have f1 := hF0.c1
 have l0 := hF0.lt
 clear h1 h2 h3 h4 hx hf hok hT hP hS hM hxT hfP hMS hS63 hw0 hw1 hB0 hB1 hsz hF0 hX0
 go_enter Tryz.func98, Tryz.ntmps98
 go_wp2_with fail
 rw [<- HW0.out]
 refine (HCk.out _).mono ?_
 rintro e w2 ⟨rfl, hB2⟩
 have HF := vv (HF.out.below hB2)
 have HX := vv (HX.out.below hB2)
 have HB := vn HB hB2
 clear hB2 f0 f1 l0
 go_wp2_with fail
 refine wp_region_sch (fun w' => w'.cell? ⟨w.heap.size, 0, none⟩ = some (.int .i64 (E : Int)) /\ w'.cell? ⟨w.heap.size, 1, none⟩ = some (.int .i64 (F : Int)) /\ w'.cell? ⟨w.heap.size + 1, 1, none⟩ = some (.int .i64 (x : Int)) /\ w'.cell? ⟨w.heap.size + 1, 2, none⟩ = some (.int .u64 (f : Int))) 18
  (.still 0 (.still 1 (.still 2 (.still 3 (.still 4 (.still 5 (.still 6 (.one 7 (.still 8 (.still 9 (.still 10 (.still 11 (.still 12 (.still 13 (.still 14 (.one 15 (.still 16 (.still 17 .done)))))))))))))))))) (by kernel_rfl) (by kernel_rfl) (fun _ _ d _ _ h => by cases d <;> exact h) ⟨HF.out.c0, HF.out.c1, HX.out.c1, HX.out.c2⟩ (fun hS0 => ?_)
 iterate 7
  refine sch_still (v := ?_) rfl (by rfl) ?_ ?_
  rotate_left
  ·intro w hSw; go_simp; with_reducible rfl
  simp only [Act.put, List.setIfInBounds_toArray, List.set_cons_zero, List.set_cons_succ]
 refine sch_one rfl (by rfl) (fun K hK => ?_)
 go_simp
 refine (HTp.out _).mono ?_
 rintro e w3 ⟨rfl, hB3⟩
 have hB3 : Below w2.heap.size w2 w3 := ⟨hB3.os, hB3.tape, hB3.output, hB3.size, hB3.block⟩
 have HF := vv (HF.out.below hB3)
 have HX := vv (HX.out.below hB3)
 have HB := vn HB hB3
 clear hB3
 go_wp2_with fail
 refine hK.out _ _ ⟨HF.out.c0, HF.out.c1, HX.out.c1, HX.out.c2⟩ (fun hHeld => ?_)
 clear hK
 iterate 7
  refine sch_still (v := ?_) rfl (by rfl) ?_ ?_
  rotate_left
  ·intro w hSw; go_simp; with_reducible rfl
  simp only [Act.put, List.setIfInBounds_toArray, List.set_cons_zero, List.set_cons_succ]
 refine sch_one rfl (by rfl) (fun K hK => ?_)
 go_simp
 refine (HPf.out _).mono ?_
 rintro e w' ⟨rfl, rfl⟩
 go_wp2_with fail
 refine hK.out _ _ ⟨HF.out.c0, HF.out.c1, HX.out.c1, HX.out.c2⟩ (fun hHeld => ?_)
 clear hK
 iterate 2
  refine sch_still (v := ?_) rfl (by rfl) ?_ ?_
  rotate_left
  ·intro w hSw; go_simp; with_reducible rfl
  simp only [Act.put, List.setIfInBounds_toArray, List.set_cons_zero, List.set_cons_succ]
 refine sch_end rfl ?_
 clear dT dP hHeld
 go_wp2_with fail
 refine wp_region_sch (fun w' => w'.cell? ⟨w.heap.size, 0, none⟩ = some (.int .i64 (E : Int)) /\ w'.cell? ⟨w.heap.size, 1, none⟩ = some (.int .i64 (F : Int)) /\ w'.cell? ⟨w.heap.size + 1, 1, none⟩ = some (.int .i64 (x : Int)) /\ w'.cell? ⟨w.heap.size + 1, 2, none⟩ = some (.int .u64 (f : Int))) 10
  (.still 0 (.still 1 (.still 2 (.still 3 (.still 4 (.still 7 (.still 8 (.one 5 (.still 6 (.still 9 .done)))))))))) (by kernel_rfl) (by kernel_rfl) (fun _ _ d _ _ h => by cases d <;> exact h) ⟨HF.out.c0, HF.out.c1, HX.out.c1, HX.out.c2⟩ (fun hS1 => ?_)
 iterate 7
  refine sch_still (v := ?_) rfl (by rfl) ?_ ?_
  rotate_left
  ·intro w hSw; go_simp; with_reducible rfl
  simp only [Act.put, List.setIfInBounds_toArray, List.set_cons_zero, List.set_cons_succ]
 refine sch_one rfl (by rfl) (fun K hK => ?_)
 go_simp
 refine (HPf.out _).mono ?_
 rintro e w' ⟨rfl, rfl⟩
 go_wp2_with fail
 refine hK.out _ _ ⟨HF.out.c0, HF.out.c1, HX.out.c1, HX.out.c2⟩ (fun hHeld => ?_)
 clear hK
 iterate 2
  refine sch_still (v := ?_) rfl (by rfl) ?_ ?_
  rotate_left
  ·intro w hSw; go_simp; with_reducible rfl
  simp only [Act.put, List.setIfInBounds_toArray, List.set_cons_zero, List.set_cons_succ]
 refine sch_done ?_
 have x0 := HX.out.c0
 have xl := HX.out.lt
 obtain ⟨f0, f1, fl⟩ := HF.out
 clear hS0 hS1 hHeld
 cases neg
 ·go_wp2
  go_ret2
  rw [HRes.out]
  exact ⟨ret2 (by rw [HW1.out, HW2.out]; simp) rfl, below_drew HB.out⟩
 ·go_wp2_with fail
  refine (HPs.out _).mono ?_
  rintro e w' ⟨rfl, rfl⟩
  go_wp2
  go_ret2
  rw [HRes.out]
  exact ⟨ret2 (by rw [HW1.out, HW2.out, HW3.out]; simp) rfl, below_drew HB.out⟩
theorem known (E F x f : Nat) (neg : Bool) (w : World) (h1 : 2 <= E) (h2 : E <= 11) (h3 : 1 <= F) (h4 : F <= 52) (hx : x < 2 ^ E) (hf : f < 2 ^ F) :
  Calls Tryz.prog 50 #[fm E F, .bool neg, .int .i64 (x : Int), .int .u64 (f : Int)] w fun e w' => e = .returned (.tuple #[.int .u64 ((sgb E F neg + (x * 2 ^ F + f) : Nat) : Int), .int .i64 0]) /\ Below w.heap.size w w' := by
 have HJ := vv fun w => Join E F x f neg w h1 h2 h3 h4 hx hf
 obtain ⟨V, hV⟩ := yx (sgb E F neg + (x * 2 ^ F + f))
 rw [<- hV] at HJ ⊢
 clear h1 h2 h3 h4 hx hf hV
 go_enter Tryz.func50, Tryz.ntmps50
 go_wp2_with fail
 refine (HJ.out _).mono ?_
 rintro e w1 ⟨rfl, hB1⟩
 have HB : Hid (Below w.heap.size w w1) := vv (((Below.refl _ w).alloc (Nat.le_refl _) _).trans (hB1.mono (by simp)))
 clear hB1
 go_wp2
 go_ret2
 exact ⟨rfl, HB.out⟩
set_option maxRecDepth 100000 in
theorem Infinite (E F : Nat) (neg : Bool) (w : World) (h1 : 2 <= E) (h2 : E <= 11) (h3 : 1 <= F) (h4 : F <= 52) :
  Calls Tryz.prog 17 #[fm E F, .bool neg] w fun e w' => e = .returned (.tuple #[.int .u64 ((sgb E F neg + ((2 ^ E - 1) * 2 ^ F) : Nat) : Int), .int .i64 0]) /\ Below w.heap.size w w' := by
 have hok : formOk (E : Int) (F : Int) = true := by
  unfold formOk; rw [decide_eq_true (p := (2 : Int) <= E) (by omega), decide_eq_true (p := (E : Int) <= 11) (by omega), decide_eq_true (p := (1 : Int) <= F) (by omega), decide_eq_true (p := (F : Int) <= 52) (by omega)]; rfl
 have HCk := vv fun w => Check (E : Int) (F : Int) w
 rw [chk_ok hok] at HCk
 obtain ⟨T, hT⟩ : ∃ T : Nat, T = tw E - 1 := ⟨_, rfl⟩
 have HTp := vv fun w => Top E F w h1 h2
 rw [<- hT] at HTp
 have HKn := vv fun w => known E F T 0 neg w h1 h2 h3 h4 (by have := tw_pos E; unfold tw at *; omega) (Nat.two_pow_pos _)
 obtain ⟨V, hV⟩ := yx (sgb E F neg + ((2 ^ E - 1) * 2 ^ F))
 have e : sgb E F neg + (T * 2 ^ F + 0) = V := by rw [hV, hT, Nat.add_zero]; rfl
 rw [e] at HKn
 rw [<- hV]
 obtain ⟨w0, hw0⟩ := yx (w.alloc (.cells #[.int .i64 (E : Int), .int .i64 (F : Int)] 23))
 have hB0 : Below w.heap.size w w0 := by rw [hw0]; exact (Below.refl _ w).alloc (Nat.le_refl _) _
 have hF0 : FmAt w0 w.heap.size E F := by rw [hw0]; exact FmAt.made w _ _ _
 have HF := vv hF0
 have HB := vv hB0
 have HW0 := vv hw0
 have f0 := hF0.c0
 have f1 := hF0.c1
 have l0 := hF0.lt
 clear h1 h2 h3 h4 hok hT hV e hw0 hB0 hF0
 go_enter Tryz.func17, Tryz.ntmps17
 go_wp2_with fail
 rw [<- HW0.out]
 refine (HCk.out _).mono ?_
 rintro e w2 ⟨rfl, hB2⟩
 have HF := vv (HF.out.below hB2)
 have HB := vn HB hB2
 clear hB2 f0 f1 l0
 go_wp2_with fail
 refine wp_region_sch (fun w' => w'.cell? ⟨w.heap.size, 0, none⟩ = some (.int .i64 (E : Int)) /\ w'.cell? ⟨w.heap.size, 1, none⟩ = some (.int .i64 (F : Int))) 9
  (.still 0 (.still 1 (.still 2 (.one 3 (.one 4 (.still 5 (.still 6 (.still 7 (.still 8 .done))))))))) (by kernel_rfl) (by kernel_rfl) (fun _ _ d _ _ h => by cases d <;> exact h) ⟨HF.out.c0, HF.out.c1⟩ (fun hS0 => ?_)
 iterate 3
  refine sch_still (v := ?_) rfl (by rfl) ?_ ?_
  rotate_left
  ·intro w hSw; go_simp; with_reducible rfl
  simp only [Act.put, List.setIfInBounds_toArray, List.set_cons_zero, List.set_cons_succ]
 refine sch_one rfl (by rfl) (fun K hK => ?_)
 go_simp
 refine (HTp.out _).mono ?_
 rintro e w3 ⟨rfl, hB3⟩
 have hB3 : Below w2.heap.size w2 w3 := ⟨hB3.os, hB3.tape, hB3.output, hB3.size, hB3.block⟩
 have HF := vv (HF.out.below hB3)
 have HB := vn HB hB3
 clear hB3
 go_wp2_with fail
 refine hK.out _ _ ⟨HF.out.c0, HF.out.c1⟩ (fun hHeld => ?_)
 clear hK
 refine sch_one rfl (by rfl) (fun K hK => ?_)
 go_simp
 refine (HKn.out _).mono ?_
 rintro e w4 ⟨rfl, hB4⟩
 have HF := vv (HF.out.below hB4)
 have HB := vn HB hB4
 clear hB4
 go_wp2_with fail
 refine hK.out _ _ ⟨HF.out.c0, HF.out.c1⟩ (fun hHeld => ?_)
 clear hK
 iterate 4
  refine sch_still (v := ?_) rfl (by rfl) ?_ ?_
  rotate_left
  ·intro w hSw; go_simp; with_reducible rfl
  simp only [Act.put, List.setIfInBounds_toArray, List.set_cons_zero, List.set_cons_succ]
 refine sch_end rfl ?_
 go_wp2
 go_ret2
 exact ⟨rfl, HB.out⟩
set_option maxRecDepth 100000 in
theorem None_ (E F p : Nat) (neg : Bool) (w : World) (h1 : 2 <= E) (h2 : E <= 11) (h3 : 1 <= F) (h4 : F <= 52) (hp : p < 2 ^ (F - 1)) :
  Calls Tryz.prog 18 #[fm E F, .bool neg, .int .u64 (p : Int)] w fun e w' => e = .returned (.tuple #[.int .u64 ((sgb E F neg + ((2 ^ E - 1) * 2 ^ F + (2 ^ (F - 1) + p)) : Nat) : Int), .int .i64 0]) /\ Below w.heap.size w w' := by
 have hok : formOk (E : Int) (F : Int) = true := by
  unfold formOk; rw [decide_eq_true (p := (2 : Int) <= E) (by omega), decide_eq_true (p := (E : Int) <= 11) (by omega), decide_eq_true (p := (1 : Int) <= F) (by omega), decide_eq_true (p := (F : Int) <= 52) (by omega)]; rfl
 obtain ⟨G, rfl⟩ : ∃ G, F = G + 1 := ⟨F - 1, by omega⟩
 have ecast : ((G + 1 : Nat) : Int) = (G : Int) + 1 := by omega
 rw [ecast] at hok
 have HCk := vv fun w => Check (E : Int) ((G : Int) + 1) w
 rw [chk_ok hok] at HCk
 rw [Nat.add_sub_cancel] at hp ⊢
 obtain ⟨T, hT⟩ : ∃ T : Nat, T = tw E - 1 := ⟨_, rfl⟩
 obtain ⟨Q, hQ⟩ : ∃ Q : Nat, Q = tw G := ⟨_, rfl⟩
 have hpQ : p < Q := by rw [hQ]; exact hp
 have hQF : Q * 2 = 2 ^ (G + 1) := by rw [hQ, Nat.pow_succ]; rfl
 have hQ63 : Q <= 4611686018427387904 := by rw [hQ]; exact Nat.le_trans (tw_le (j := G) (k := 62) (by omega)) (by decide)
 have HTp := vv fun w => Top E ((G : Int) + 1) w h1 h2
 rw [<- hT] at HTp
 have HPw := vv fun w => Pow G w (by omega)
 rw [<- hQ] at HPw
 have HKn := fun w => known E (G + 1) T (Q + p) neg w h1 h2 h3 h4 (by have := tw_pos E; unfold tw at *; omega) (by omega)
 obtain ⟨V, hV⟩ := yx (sgb E (G + 1) neg + ((2 ^ E - 1) * 2 ^ (G + 1) + (2 ^ G + p)))
 have e : sgb E (G + 1) neg + (T * 2 ^ (G + 1) + (Q + p)) = V := by rw [hV, hT, hQ]; rfl
 simp only [e, ecast] at HKn
 have HKn := vv HKn
 rw [<- hV, ecast]
 have dQ : decide (Q <= p) = false := decide_eq_false (by omega)
 have HWQ : Hid (IntKind.u64.wrap ((Q : Int) + (p : Int)) = ((Q + p : Nat) : Int)) := vv (by rw [IntKind.wrap_u64]; omega)
 have hfi : (G : Int) <= 51 := by omega
 have HWG : Hid (IntKind.i64.wrap (G : Int) = (G : Int)) := vv (IntWalk.i64_in _ (by omega))
 obtain ⟨w0, hw0⟩ := yx (w.alloc (.cells #[.int .i64 (E : Int), .int .i64 ((G : Int) + 1)] 23))
 have hB0 : Below w.heap.size w w0 := by rw [hw0]; exact (Below.refl _ w).alloc (Nat.le_refl _) _
 have hF0 : FmAt w0 w.heap.size E ((G : Int) + 1) := by rw [hw0]; exact FmAt.made w _ _ _
 clear ecast
 have HF := vv hF0
 have HB := vv hB0
 have HW0 := vv hw0
 have f0 := hF0.c0
 have f1 := hF0.c1
 have l0 := hF0.lt
 clear h1 h2 h3 h4 hok hT hV e hw0 hB0 hF0 hQ hp hpQ hQF hQ63
 go_enter Tryz.func18, Tryz.ntmps18
 go_wp2_with fail
 rw [<- HW0.out]
 refine (HCk.out _).mono ?_
 rintro e w2 ⟨rfl, hB2⟩
 have HF := vv (HF.out.below hB2)
 have HB := vn HB hB2
 have f1 := HF.out.c1
 have l0 := HF.out.lt
 clear hB2 f0
 go_wp2_with fail
 refine (HPw.out _).mono ?_
 rintro e w' ⟨rfl, rfl⟩
 clear f1 l0
 go_wp2_with fail
 refine wp_region_sch (fun w' => w'.cell? ⟨w.heap.size, 0, none⟩ = some (.int .i64 (E : Int)) /\ w'.cell? ⟨w.heap.size, 1, none⟩ = some (.int .i64 ((G : Int) + 1))) 15
  (.still 0 (.still 1 (.still 2 (.still 4 (.still 5 (.still 6 (.still 8 (.one 3 (.one 7 (.still 9 (.one 10 (.still 11 (.still 12 (.still 13 (.still 14 .done))))))))))))))) (by kernel_rfl) (by kernel_rfl) (fun _ _ d _ _ h => by cases d <;> exact h) ⟨HF.out.c0, HF.out.c1⟩ (fun hS0 => ?_)
 iterate 7
  refine sch_still (v := ?_) rfl (by rfl) ?_ ?_
  rotate_left
  ·intro w hSw; go_simp; with_reducible rfl
  simp only [Act.put, List.setIfInBounds_toArray, List.set_cons_zero, List.set_cons_succ]
 refine sch_one rfl (by rfl) (fun K hK => ?_)
 go_simp
 refine (HTp.out _).mono ?_
 rintro e w3 ⟨rfl, hB3⟩
 have hB3 : Below w2.heap.size w2 w3 := ⟨hB3.os, hB3.tape, hB3.output, hB3.size, hB3.block⟩
 have HF := vv (HF.out.below hB3)
 have HB := vn HB hB3
 clear hB3
 go_wp2_with fail
 refine hK.out _ _ ⟨HF.out.c0, HF.out.c1⟩ (fun hHeld => ?_)
 clear hK
 refine sch_one rfl (by rfl) (fun K hK => ?_)
 go_simp
 rw [HWG.out]
 refine (HPw.out _).mono ?_
 rintro e w' ⟨rfl, rfl⟩
 go_wp2_with fail
 refine hK.out _ _ ⟨HF.out.c0, HF.out.c1⟩ (fun hHeld => ?_)
 clear hK
 iterate 1
  refine sch_still (v := ?_) rfl (by rfl) ?_ ?_
  rotate_left
  ·intro w hSw; go_simp; with_reducible rfl
  simp only [Act.put, List.setIfInBounds_toArray, List.set_cons_zero, List.set_cons_succ]
 refine sch_one rfl (by rfl) (fun K hK => ?_)
 go_simp
 rw [HWQ.out]
 refine (HKn.out _).mono ?_
 rintro e w4 ⟨rfl, hB4⟩
 have HF := vv (HF.out.below hB4)
 have HB := vn HB hB4
 clear hB4
 go_wp2_with fail
 refine hK.out _ _ ⟨HF.out.c0, HF.out.c1⟩ (fun hHeld => ?_)
 clear hK
 iterate 4
  refine sch_still (v := ?_) rfl (by rfl) ?_ ?_
  rotate_left
  ·intro w hSw; go_simp; with_reducible rfl
  simp only [Act.put, List.setIfInBounds_toArray, List.set_cons_zero, List.set_cons_succ]
 refine sch_end rfl ?_
 go_wp2
 go_ret2
 exact ⟨rfl, HB.out⟩
end Go.Proofs.YtbfmpcfcmbjeeaaGreatDoor.R3
namespace Go.Proofs.YtbfmpcfcmbjeeaaGreatDoor
open Go Go.RowKit
def digsB (s : ByteArray) : Bool := s.data.toList.all fun c => decide (48 <= c.toNat) && decide (c.toNat <= 57)
theorem digs_get (s : ByteArray) (k : Nat) (h : k < s.size) : s[k] ∈ s.data.toList := by
 have : s[k] = s.data.toList[k]'(by simpa using h) := rfl
 rw [this]; exact List.getElem_mem _
theorem digsB_true {s : ByteArray} : digsB s = true ↔ Digs s := by
 unfold digsB Digs
 rw [List.all_eq_true]
 constructor
 ·intro h k hk
  have := h _ (digs_get s k hk)
  simpa using this
 ·intro h c hc
  obtain ⟨k, hk, e⟩ := List.getElem_of_mem hc
  have hk' : k < s.size := by simpa using hk
  have := h k hk'
  have e2 : s[k] = c := e
  rw [e2] at this
  simpa using this
theorem digsB_false {s : ByteArray} {k : Nat} (hk : k < s.size) (h : ¬ (48 <= s[k].toNat /\ s[k].toNat <= 57)) : digsB s = false := by
 rcases Bool.eq_false_or_eq_true (digsB s) with e | e
 ·exact absurd (digsB_true.1 e k hk) h
 ·exact e
def byteAt (s : ByteArray) (k : Nat) : Nat := if h : k < s.size then s[k].toNat else 0
theorem byteAt_eq {s : ByteArray} {k : Nat} (h : k < s.size) : byteAt s k = s[k].toNat := dif_pos h
def decMay (s : ByteArray) (x : Int) : Bool :=
 decide (x <= 1073741824) && decide (-1073741824 <= x) && decide (s.size <= 65536) &&
  (if s.size = 0 then decide (x = 0) else digsB s && !decide (byteAt s 0 = 48) && !decide (byteAt s (s.size - 1) = 48))
structure DecBox (w : World) (g : Nat) (neg : Bool) (s : ByteArray) (x : Int) : Prop where
 c0 : w.cell? ⟨g, 0, none⟩ = some (.bool neg)
 c1 : w.cell? ⟨g, 1, none⟩ = some (.string s)
 c2 : w.cell? ⟨g, 2, none⟩ = some (.int .i64 x)
 lt : g < w.heap.size
theorem DecBox.made (w : World) (neg : Bool) (s : ByteArray) (x : Int) (t : TypeId) : DecBox (w.alloc (.cells #[.bool neg, .string s, .int .i64 x] t)) w.heap.size neg s x :=
 ⟨by simp only [World.cell?]; rw [heap_alloc_new]; rfl, by simp only [World.cell?]; rw [heap_alloc_new]; rfl, by simp only [World.cell?]; rw [heap_alloc_new]; rfl, by simp⟩
theorem DecBox.below {w w' : World} {g : Nat} {neg : Bool} {s : ByteArray} {x : Int} (h : DecBox w g neg s x) (hb : Below w.heap.size w w') : DecBox w' g neg s x :=
 ⟨(hb.cell (p := ⟨g, 0, none⟩) h.lt).trans h.c0, (hb.cell (p := ⟨g, 1, none⟩) h.lt).trans h.c1, (hb.cell (p := ⟨g, 2, none⟩) h.lt).trans h.c2, Nat.lt_of_lt_of_le h.lt hb.size⟩
abbrev decV (neg : Bool) (s : ByteArray) (x : Int) : Value := .agg #[.bool neg, .string s, .int .i64 x]
end Go.Proofs.YtbfmpcfcmbjeeaaGreatDoor
namespace Go.Proofs.YtbfmpcfcmbjeeaaGreatDoor.R11
open Go Go.RowKit R5
def noTwoB (neg : Bool) (n : Nat) (x : Int) : Bool := decide (n = 0) && decide (x = 0) && !neg
theorem noTwo (neg : Bool) (A : Option Addr) (n c : Nat) (x : Int) (w : World) :
  Calls Tryz.prog 37 #[dyadV neg A n c x] w fun e w' => e = .returned (.bool (noTwoB neg n x)) /\ Below w.heap.size w w' := by
 by_cases h0 : n = 0
 ·subst h0
  by_cases hx : x = 0
  ·subst hx
   have HV : Hid (noTwoB neg 0 0 = !neg) := vv (by unfold noTwoB; simp)
   go_enter Tryz.func37, Tryz.ntmps37
   go_wp2
   go_ret
   exact ⟨retB HV.out.symm, (Below.refl _ _).alloc (Nat.le_refl _) _⟩
  ·have HV : Hid (noTwoB neg 0 x = false) := vv (by unfold noTwoB; rw [decide_eq_false hx]; simp)
   have t : (x == 0) = false := by rw [beq_eq_false_iff_ne]; exact hx
   clear hx
   go_enter Tryz.func37, Tryz.ntmps37
   go_wp2
   go_ret
   exact ⟨retB HV.out.symm, (Below.refl _ _).alloc (Nat.le_refl _) _⟩
 ·have HV : Hid (noTwoB neg n x = false) := vv (by unfold noTwoB; rw [decide_eq_false h0]; rfl)
  have t : ((n : Int) == 0) = false := by rw [beq_eq_false_iff_ne]; omega
  clear h0
  go_enter Tryz.func37, Tryz.ntmps37
  go_wp2
  go_ret
  exact ⟨retB HV.out.symm, (Below.refl _ _).alloc (Nat.le_refl _) _⟩
theorem DecMay_no (neg : Bool) (s : ByteArray) (x : Int) (w : World) (h : 1073741824 < x \/ x < -1073741824 \/ 65536 < s.size) :
  Calls Tryz.prog 35 #[decV neg s x] w fun e w' => e = .returned (.bool (decMay s x)) /\ Below w.heap.size w w' := by
 have HV : Hid (decMay s x = false) := vv (by
  unfold decMay
  rcases h with h | h | h
  ·rw [decide_eq_false (p := x <= 1073741824) (by omega)]; rfl
  ·rw [decide_eq_false (p := -1073741824 <= x) (by omega)]; simp
  ·rw [decide_eq_false (p := s.size <= 65536) (by omega)]; simp)
 by_cases h1 : 1073741824 < x
 ·have d1 : decide (1073741824 < x) = true := decide_eq_true h1
  clear h h1
  go_enter Tryz.func35, Tryz.ntmps35
  go_wp2
  go_ret
  exact ⟨retB HV.out.symm, (Below.refl _ _).alloc (Nat.le_refl _) _⟩
 have d1 : decide (1073741824 < x) = false := decide_eq_false h1
 by_cases h2 : x < -1073741824
 ·have d2 : decide (x < -1073741824) = true := decide_eq_true h2
  clear h h1 h2
  go_enter Tryz.func35, Tryz.ntmps35
  go_wp2
  go_ret
  exact ⟨retB HV.out.symm, (Below.refl _ _).alloc (Nat.le_refl _) _⟩
 have d2 : decide (x < -1073741824) = false := decide_eq_false h2
 have d3 : decide ((65536 : Int) < (s.size : Int)) = true := decide_eq_true (by omega)
 clear h h1 h2
 go_enter Tryz.func35, Tryz.ntmps35
 go_wp2
 go_ret
 exact ⟨retB HV.out.symm, (Below.refl _ _).alloc (Nat.le_refl _) _⟩
end Go.Proofs.YtbfmpcfcmbjeeaaGreatDoor.R11
namespace Go.Proofs.YtbfmpcfcmbjeeaaGreatDoor
open Go Go.RowKit
theorem str_some {s : ByteArray} (h : 0 < s.size) : s.toList.isEmpty = false := by
 rw [ByteArray.toList_eq]
 have e : s.data.toList.length = s.size := Array.length_toList
 cases hl : s.data.toList with
 | nil => rw [hl] at e; simp at e; omega
 | cons _ _ => rfl
end Go.Proofs.YtbfmpcfcmbjeeaaGreatDoor
namespace Go.Proofs.YtbfmpcfcmbjeeaaGreatDoor.R11
open Go Go.RowKit R5
theorem decMay_in {s : ByteArray} {x : Int} (h1 : x <= 1073741824) (h2 : -1073741824 <= x) (h3 : s.size <= 65536) :
  decMay s x = (if s.size = 0 then decide (x = 0) else digsB s && !decide (byteAt s 0 = 48) && !decide (byteAt s (s.size - 1) = 48)) := by
 unfold decMay
 rw [decide_eq_true h1, decide_eq_true h2, decide_eq_true h3]; simp
theorem decMay_some {s : ByteArray} {x : Int} (h1 : x <= 1073741824) (h2 : -1073741824 <= x) (h3 : s.size <= 65536) (h : 0 < s.size) :
  decMay s x = (digsB s && !decide (byteAt s 0 = 48) && !decide (byteAt s (s.size - 1) = 48)) := by
 rw [decMay_in h1 h2 h3, if_neg (by omega)]
theorem DecMay_none (neg : Bool) (x : Int) (w : World) (h1 : x <= 1073741824) (h2 : -1073741824 <= x) :
  Calls Tryz.prog 35 #[decV neg ⟨#[]⟩ x] w fun e w' => e = .returned (.bool (decMay ⟨#[]⟩ x)) /\ Below w.heap.size w w' := by
 have HV : Hid (decMay ⟨#[]⟩ x = (x == 0)) := vv (by
  rw [decMay_in h1 h2 (by decide), if_pos (by decide)]
  by_cases h : x = 0
  ·subst h; rfl
  ·rw [decide_eq_false h]; symm; rw [beq_eq_false_iff_ne]; exact h)
 have d1 : decide (1073741824 < x) = false := decide_eq_false (by omega)
 have d2 : decide (x < -1073741824) = false := decide_eq_false (by omega)
 clear h1 h2
 go_enter Tryz.func35, Tryz.ntmps35
 go_wp2
 go_ret
 exact ⟨retB HV.out.symm, (Below.refl _ _).alloc (Nat.le_refl _) _⟩
theorem DecMay_some (neg : Bool) (s : ByteArray) (x : Int) (w : World) (h1 : x <= 1073741824) (h2 : -1073741824 <= x) (h3 : s.size <= 65536) (h0 : 0 < s.size) :
  Calls Tryz.prog 35 #[decV neg s x] w fun e w' => e = .returned (.bool (decMay s x)) /\ Below w.heap.size w w' := by
 have HV := vv (decMay_some h1 h2 h3 h0)
 have d1 : decide (1073741824 < x) = false := decide_eq_false (by omega)
 have d2 : decide (x < -1073741824) = false := decide_eq_false (by omega)
 have d3 : decide ((65536 : Int) < (s.size : Int)) = false := decide_eq_false (by omega)
 have hsz : (s.size : Int) <= 65536 := by omega
 have hne := str_some h0
 clear h1 h2 h3
 go_enter Tryz.func35, Tryz.ntmps35
 go_wp2
 clear d1 d2 d3 hne
 obtain ⟨w1, hw1⟩ := yx (w.alloc (.cells #[.bool neg, .string s, .int .i64 x] 25))
 have hB1 : Below w.heap.size w w1 := by rw [hw1]; exact (Below.refl _ _).alloc (Nat.le_refl _) _
 have hD : DecBox w1 w.heap.size neg s x := by rw [hw1]; exact DecBox.made w _ _ _ _
 rw [<- hw1]
 have HB := vv hB1
 have HDb := vv hD
 have k1 := hD.c1
 have kl := hD.lt
 clear hB1 hD hw1
 go_loop [3] (fun t => ∃ k : Nat, k <= s.size /\ t = .int .i64 k /\ (∀ j (h : j < s.size), j < k -> 48 <= s[j].toNat /\ s[j].toNat <= 57)) (fun t => s.size - (intOf t).toNat)
 case atStart => exact ⟨0, Nat.zero_le _, rfl, fun j _ h => absurd h (by omega)⟩
 case round =>
  obtain ⟨k, hk, rfl, hall⟩ := hrel
  have HA := vv hall
  clear hall
  by_cases hks : k < s.size
  ·by_cases hd : 48 <= s[k].toNat /\ s[k].toNat <= 57
   ·obtain ⟨g1, g2⟩ := hd
    go_wp2
    go_round
    case rel =>
     refine ⟨k + 1, by omega, by go_num, fun j h hj => ?_⟩
     rcases (by omega : j < k \/ j = k) with h | rfl
     ·exact HA.out j _ h
     ·exact ⟨g1, g2⟩
    case measure => simp [intOf]; omega
   ·have HF : Hid (decMay s x = false) := vv (by rw [HV.out, digsB_false hks hd]; rfl)
    rcases (by omega : s[k].toNat < 48 \/ 48 <= s[k].toNat /\ 57 < s[k].toNat) with g | ⟨g, g'⟩
    ·clear hd
     go_wp2
     go_ret
     exact ⟨retB HF.out.symm, HB.out⟩
    ·clear hd
     go_wp2
     go_ret
     exact ⟨retB HF.out.symm, HB.out⟩
  ·have hks' : k = s.size := by omega
   subst hks'
   have HG : Hid (decMay s x = (!decide (byteAt s 0 = 48) && !decide (byteAt s (s.size - 1) = 48))) := vv (by
    rw [HV.out, digsB_true.2 (fun j h => HA.out j h h)]; rfl)
   clear hk hks
   rw [byteAt_eq h0, byteAt_eq (by omega : s.size - 1 < s.size)] at HG
   by_cases e0 : s[0].toNat = 48
   ·have HH : Hid (decMay s x = false) := vv (by rw [HG.out, decide_eq_true e0]; rfl)
    clear HG
    go_wp2
    go_ret
    exact ⟨retB HH.out.symm, HB.out⟩
   ·have hm : s.size - 1 < s.size := by omega
    have HH : Hid (decMay s x = !decide (s[s.size - 1].toNat = 48)) := vv (by rw [HG.out, decide_eq_false e0]; rfl)
    clear HG
    by_cases e1 : s[s.size - 1].toNat = 48
    ·have HI : Hid (decMay s x = false) := vv (by rw [HH.out, decide_eq_true e1]; rfl)
     clear HH
     go_wp2
     go_ret
     exact ⟨retB HI.out.symm, HB.out⟩
    ·have HI : Hid (decMay s x = true) := vv (by rw [HH.out, decide_eq_false e1]; rfl)
     clear HH
     go_wp2
     go_ret
     exact ⟨retB (by rw [HI.out, Bool.and_eq_true, bne_iff_ne, bne_iff_ne]; exact ⟨by omega, by omega⟩), HB.out⟩
theorem DecMay (neg : Bool) (s : ByteArray) (x : Int) (w : World) :
  Calls Tryz.prog 35 #[decV neg s x] w fun e w' => e = .returned (.bool (decMay s x)) /\ Below w.heap.size w w' := by
 by_cases h1 : x <= 1073741824
 ·by_cases h2 : -1073741824 <= x
  ·by_cases h3 : s.size <= 65536
   ·by_cases h0 : 0 < s.size
    ·exact DecMay_some neg s x w h1 h2 h3 h0
    ·have e : s = ⟨#[]⟩ := by
      have : s.data.size = 0 := by have : s.data.size = s.size := rfl; omega
      have := Array.eq_empty_of_size_eq_zero this
      cases s; simp_all
     rw [e]; exact DecMay_none neg x w h1 h2
   ·exact DecMay_no neg s x w (by omega)
  ·exact DecMay_no neg s x w (by omega)
 ·exact DecMay_no neg s x w (by omega)
end Go.Proofs.YtbfmpcfcmbjeeaaGreatDoor.R11
namespace Go.Proofs.YtbfmpcfcmbjeeaaGreatDoor
open Go Go.RowKit
abbrev numV (kind : Nat) (neg dneg : Bool) (s : ByteArray) (x : Int) (hneg : Bool) (A : Option Addr) (n c : Nat) (hx : Int) (p : Nat) : Value :=
 .agg #[.int .u8 (kind : Int), .bool neg, .bool dneg, .string s, .int .i64 x, .bool hneg, .slice A n c, .int .i64 hx, .int .u64 (p : Int)]
structure NumBox (w : World) (g : Nat) (kind : Nat) (neg dneg : Bool) (s : ByteArray) (x : Int) (hneg : Bool) (A : Option Addr) (n c : Nat) (hx : Int) (p : Nat) : Prop where
 c0 : w.cell? ⟨g, 0, none⟩ = some (.int .u8 (kind : Int))
 c1 : w.cell? ⟨g, 1, none⟩ = some (.bool neg)
 c2 : w.cell? ⟨g, 2, none⟩ = some (.bool dneg)
 c3 : w.cell? ⟨g, 3, none⟩ = some (.string s)
 c4 : w.cell? ⟨g, 4, none⟩ = some (.int .i64 x)
 c5 : w.cell? ⟨g, 5, none⟩ = some (.bool hneg)
 c6 : w.cell? ⟨g, 6, none⟩ = some (.slice A n c)
 c7 : w.cell? ⟨g, 7, none⟩ = some (.int .i64 hx)
 c8 : w.cell? ⟨g, 8, none⟩ = some (.int .u64 (p : Int))
 lt : g < w.heap.size
theorem NumBox.made (w : World) (kind : Nat) (neg dneg : Bool) (s : ByteArray) (x : Int) (hneg : Bool) (A : Option Addr) (n c : Nat) (hx : Int) (p : Nat) (t : TypeId) :
  NumBox (w.alloc (.cells #[.int .u8 (kind : Int), .bool neg, .bool dneg, .string s, .int .i64 x, .bool hneg, .slice A n c, .int .i64 hx, .int .u64 (p : Int)] t)) w.heap.size kind neg dneg s x hneg A n c hx p := by
 constructor <;> first | (simp only [World.cell?]; rw [heap_alloc_new]; rfl) | simp
theorem NumBox.below {w w' : World} {g kind : Nat} {neg dneg : Bool} {s : ByteArray} {x : Int} {hneg : Bool} {A : Option Addr} {n c : Nat} {hx : Int} {p : Nat} (h : NumBox w g kind neg dneg s x hneg A n c hx p) (hb : Below w.heap.size w w') : NumBox w' g kind neg dneg s x hneg A n c hx p :=
 ⟨(hb.cell (p := ⟨g, 0, none⟩) h.lt).trans h.c0, (hb.cell (p := ⟨g, 1, none⟩) h.lt).trans h.c1, (hb.cell (p := ⟨g, 2, none⟩) h.lt).trans h.c2, (hb.cell (p := ⟨g, 3, none⟩) h.lt).trans h.c3, (hb.cell (p := ⟨g, 4, none⟩) h.lt).trans h.c4, (hb.cell (p := ⟨g, 5, none⟩) h.lt).trans h.c5, (hb.cell (p := ⟨g, 6, none⟩) h.lt).trans h.c6, (hb.cell (p := ⟨g, 7, none⟩) h.lt).trans h.c7, (hb.cell (p := ⟨g, 8, none⟩) h.lt).trans h.c8, Nat.lt_of_lt_of_le h.lt hb.size⟩
def emptyB (neg : Bool) (s : ByteArray) (x : Int) : Bool := !neg && s.toList.isEmpty && (x == 0)
def numOk (kind : Nat) (neg dneg : Bool) (s : ByteArray) (x : Int) (hneg : Bool) (n : Nat) (xs : List Nat) (hx : Int) (p : Nat) : Bool :=
 if kind = 1 then decMay s x && (dneg == neg) && R11.noTwoB hneg n hx && decide (p = 0)
 else if kind = 2 then R5.twoOk hneg n xs hx && emptyB dneg s x && decide (p = 0) && ((hneg == neg) || decide (n = 0))
 else if kind = 3 then emptyB dneg s x && R11.noTwoB hneg n hx && decide (p = 0)
 else if kind = 4 then emptyB dneg s x && R11.noTwoB hneg n hx && decide (p <= 2251799813685247)
 else false
def numErr (b : Bool) : Int := if b then 0 else 110
theorem numErr_true : numErr true = 0 := rfl
theorem numErr_false : numErr false = 110 := rfl
end Go.Proofs.YtbfmpcfcmbjeeaaGreatDoor
namespace Go.Proofs.YtbfmpcfcmbjeeaaGreatDoor.R11
open Go Go.RowKit R5
set_option maxHeartbeats 20000000 in
theorem Check (kind : Nat) (neg dneg : Bool) (s : ByteArray) (x : Int) (hneg : Bool) (A : Option Addr) (n c : Nat) (xs : List Nat) (hx : Int) (p : Nat) (w : World) (hr : Rd w A n c xs) :
  Calls Tryz.prog 14 #[numV kind neg dneg s x hneg A n c hx p] w fun e w' => e = .returned (.int .i64 (numErr (numOk kind neg dneg s x hneg n xs hx p))) /\ Below w.heap.size w w' := by
 obtain ⟨dec, hdec⟩ := yx (decMay s x)
 obtain ⟨two, htwo⟩ := yx (twoOk hneg n xs hx)
 obtain ⟨none, hnone⟩ := yx (noTwoB hneg n hx)
 obtain ⟨V, hV⟩ := yx (numOk kind neg dneg s x hneg n xs hx p)
 have HD := vv fun w => DecMay dneg s x w
 rw [<- hdec] at HD
 have HT := vv fun w' (h : Below w.heap.size w w') => Two hneg A n c xs hx w' (hr.below h rfl)
 rw [<- htwo] at HT
 have HO := vv fun w => noTwo hneg A n c hx w
 rw [<- hnone] at HO
 rw [<- hV]
 unfold numOk at hV
 rw [<- hdec, <- htwo, <- hnone] at hV
 have HV := vv hV
 clear hdec htwo hnone hV
 obtain ⟨w0, hw0⟩ := yx (w.alloc (.cells #[.int .u8 (kind : Int), .bool neg, .bool dneg, .string s, .int .i64 x, .bool hneg, .slice A n c, .int .i64 hx, .int .u64 (p : Int)] 33))
 have hB0 : Below w.heap.size w w0 := by rw [hw0]; exact (Below.refl _ w).alloc (Nat.le_refl _) _
 have hN0 : NumBox w0 w.heap.size kind neg dneg s x hneg A n c hx p := by rw [hw0]; exact NumBox.made w _ _ _ _ _ _ _ _ _ _ _ _
 have HN := vv hN0
 have HB := vv hB0
 have HW0 := vv hw0
 clear hw0 hB0 hN0 hr
 go_enter Tryz.func14, Tryz.ntmps14
 go_wp2_with fail
 rw [<- HW0.out]
 refine (HD.out _).mono ?_
 rintro e w1 ⟨rfl, hB1⟩
 have HN := vv (HN.out.below hB1)
 have HB := vn HB hB1
 clear hB1
 have k1 := HN.out.c5
 have k2 := HN.out.c6
 have k3 := HN.out.c7
 have kl := HN.out.lt
 go_wp2_with fail
 refine (HT.out _ HB.out).mono ?_
 rintro e w2 ⟨rfl, hB2⟩
 have HN := vv (HN.out.below hB2)
 have HB := vn HB hB2
 clear hB2
 have k1 := HN.out.c5
 have k2 := HN.out.c6
 have k3 := HN.out.c7
 have kl := HN.out.lt
 go_wp2_with fail
 refine (HO.out _).mono ?_
 rintro e w3 ⟨rfl, hB3⟩
 have HN := vv (HN.out.below hB3)
 have HB := vn HB hB3
 clear hB3
 obtain ⟨k0, k1, k2, k3, k4, k5, k6, k7, k8, kl⟩ := HN.out
 cases dneg
 ·cases he : s.toList.isEmpty
  ·have HE : Hid (emptyB false s x = false) := vv (by unfold emptyB; rw [he]; rfl)
   rcases (by omega : kind = 1 \/ kind = 2 \/ kind = 3 \/ kind = 4 \/ (kind ≠ 1 /\ kind ≠ 2 /\ kind ≠ 3 /\ kind ≠ 4)) with rfl | rfl | rfl | rfl | ⟨q1, q2, q3, q4⟩
   ·cases dec
    ·have HF : Hid (V = false) := vv (by rw [HV.out, HE.out]; simp)
     go_wp2
     go_ret
     exact ⟨retI (by rw [HF.out]; rfl), HB.out⟩
    ·cases neg
     ·cases none
      ·have HF : Hid (V = false) := vv (by rw [HV.out, HE.out]; simp)
       go_wp2
       go_ret
       exact ⟨retI (by rw [HF.out]; rfl), HB.out⟩
      ·by_cases hp : p = 0
       ·have tp : ((p : Int) == 0) = true := by rw [hp]; rfl
        ·have HF : Hid (V = true) := vv (by rw [HV.out, HE.out]; simp [hp])
         go_wp2
         go_ret
         exact ⟨retI (by rw [HF.out]; rfl), HB.out⟩
       ·have tp : ((p : Int) == 0) = false := by rw [beq_eq_false_iff_ne]; omega
        ·have HF : Hid (V = false) := vv (by rw [HV.out, HE.out]; simp [hp])
         go_wp2
         go_ret
         exact ⟨retI (by rw [HF.out]; rfl), HB.out⟩
     ·have HF : Hid (V = false) := vv (by rw [HV.out, HE.out]; simp)
      go_wp2
      go_ret
      exact ⟨retI (by rw [HF.out]; rfl), HB.out⟩
   ·cases two
    ·have HF : Hid (V = false) := vv (by rw [HV.out, HE.out]; simp)
     go_wp2
     go_ret
     exact ⟨retI (by rw [HF.out]; rfl), HB.out⟩
    ·have HF : Hid (V = false) := vv (by rw [HV.out, HE.out]; simp)
     go_wp2
     go_ret
     exact ⟨retI (by rw [HF.out]; rfl), HB.out⟩
   ·have HF : Hid (V = false) := vv (by rw [HV.out, HE.out]; simp)
    go_wp2
    go_ret
    exact ⟨retI (by rw [HF.out]; rfl), HB.out⟩
   ·have HF : Hid (V = false) := vv (by rw [HV.out, HE.out]; simp)
    go_wp2
    go_ret
    exact ⟨retI (by rw [HF.out]; rfl), HB.out⟩
   ·have t1 : ((kind : Int) == 1) = false := by rw [beq_eq_false_iff_ne]; omega
    have t2 : ((kind : Int) == 2) = false := by rw [beq_eq_false_iff_ne]; omega
    have t3 : ((kind : Int) == 3) = false := by rw [beq_eq_false_iff_ne]; omega
    have t4 : ((kind : Int) == 4) = false := by rw [beq_eq_false_iff_ne]; omega
    ·have HF : Hid (V = false) := vv (by rw [HV.out, HE.out]; simp [q1, q2, q3, q4])
     go_wp2
     go_ret
     exact ⟨retI (by rw [HF.out]; rfl), HB.out⟩
  ·cases tx : (x == 0)
   ·have HE : Hid (emptyB false s x = false) := vv (by unfold emptyB; rw [he, tx]; rfl)
    rcases (by omega : kind = 1 \/ kind = 2 \/ kind = 3 \/ kind = 4 \/ (kind ≠ 1 /\ kind ≠ 2 /\ kind ≠ 3 /\ kind ≠ 4)) with rfl | rfl | rfl | rfl | ⟨q1, q2, q3, q4⟩
    ·cases dec
     ·have HF : Hid (V = false) := vv (by rw [HV.out, HE.out]; simp)
      go_wp2
      go_ret
      exact ⟨retI (by rw [HF.out]; rfl), HB.out⟩
     ·cases neg
      ·cases none
       ·have HF : Hid (V = false) := vv (by rw [HV.out, HE.out]; simp)
        go_wp2
        go_ret
        exact ⟨retI (by rw [HF.out]; rfl), HB.out⟩
       ·by_cases hp : p = 0
        ·have tp : ((p : Int) == 0) = true := by rw [hp]; rfl
         ·have HF : Hid (V = true) := vv (by rw [HV.out, HE.out]; simp [hp])
          go_wp2
          go_ret
          exact ⟨retI (by rw [HF.out]; rfl), HB.out⟩
        ·have tp : ((p : Int) == 0) = false := by rw [beq_eq_false_iff_ne]; omega
         ·have HF : Hid (V = false) := vv (by rw [HV.out, HE.out]; simp [hp])
          go_wp2
          go_ret
          exact ⟨retI (by rw [HF.out]; rfl), HB.out⟩
      ·have HF : Hid (V = false) := vv (by rw [HV.out, HE.out]; simp)
       go_wp2
       go_ret
       exact ⟨retI (by rw [HF.out]; rfl), HB.out⟩
    ·cases two
     ·have HF : Hid (V = false) := vv (by rw [HV.out, HE.out]; simp)
      go_wp2
      go_ret
      exact ⟨retI (by rw [HF.out]; rfl), HB.out⟩
     ·have HF : Hid (V = false) := vv (by rw [HV.out, HE.out]; simp)
      go_wp2
      go_ret
      exact ⟨retI (by rw [HF.out]; rfl), HB.out⟩
    ·have HF : Hid (V = false) := vv (by rw [HV.out, HE.out]; simp)
     go_wp2
     go_ret
     exact ⟨retI (by rw [HF.out]; rfl), HB.out⟩
    ·have HF : Hid (V = false) := vv (by rw [HV.out, HE.out]; simp)
     go_wp2
     go_ret
     exact ⟨retI (by rw [HF.out]; rfl), HB.out⟩
    ·have t1 : ((kind : Int) == 1) = false := by rw [beq_eq_false_iff_ne]; omega
     have t2 : ((kind : Int) == 2) = false := by rw [beq_eq_false_iff_ne]; omega
     have t3 : ((kind : Int) == 3) = false := by rw [beq_eq_false_iff_ne]; omega
     have t4 : ((kind : Int) == 4) = false := by rw [beq_eq_false_iff_ne]; omega
     ·have HF : Hid (V = false) := vv (by rw [HV.out, HE.out]; simp [q1, q2, q3, q4])
      go_wp2
      go_ret
      exact ⟨retI (by rw [HF.out]; rfl), HB.out⟩
   ·have HE : Hid (emptyB false s x = true) := vv (by unfold emptyB; rw [he, tx]; rfl)
    rcases (by omega : kind = 1 \/ kind = 2 \/ kind = 3 \/ kind = 4 \/ (kind ≠ 1 /\ kind ≠ 2 /\ kind ≠ 3 /\ kind ≠ 4)) with rfl | rfl | rfl | rfl | ⟨q1, q2, q3, q4⟩
    ·cases dec
     ·have HF : Hid (V = false) := vv (by rw [HV.out, HE.out]; simp)
      go_wp2
      go_ret
      exact ⟨retI (by rw [HF.out]; rfl), HB.out⟩
     ·cases neg
      ·cases none
       ·have HF : Hid (V = false) := vv (by rw [HV.out, HE.out]; simp)
        go_wp2
        go_ret
        exact ⟨retI (by rw [HF.out]; rfl), HB.out⟩
       ·by_cases hp : p = 0
        ·have tp : ((p : Int) == 0) = true := by rw [hp]; rfl
         ·have HF : Hid (V = true) := vv (by rw [HV.out, HE.out]; simp [hp])
          go_wp2
          go_ret
          exact ⟨retI (by rw [HF.out]; rfl), HB.out⟩
        ·have tp : ((p : Int) == 0) = false := by rw [beq_eq_false_iff_ne]; omega
         ·have HF : Hid (V = false) := vv (by rw [HV.out, HE.out]; simp [hp])
          go_wp2
          go_ret
          exact ⟨retI (by rw [HF.out]; rfl), HB.out⟩
      ·have HF : Hid (V = false) := vv (by rw [HV.out, HE.out]; simp)
       go_wp2
       go_ret
       exact ⟨retI (by rw [HF.out]; rfl), HB.out⟩
    ·cases two
     ·have HF : Hid (V = false) := vv (by rw [HV.out, HE.out]; simp)
      go_wp2
      go_ret
      exact ⟨retI (by rw [HF.out]; rfl), HB.out⟩
     ·by_cases hp : p = 0
      ·have tp : ((p : Int) == 0) = true := by rw [hp]; rfl
       ·cases hneg
        ·cases neg
         ·have HF : Hid (V = true) := vv (by rw [HV.out, HE.out]; simp [hp])
          go_wp2
          go_ret
          exact ⟨retI (by rw [HF.out]; rfl), HB.out⟩
         ·by_cases hn : n = 0
          ·have tn : ((n : Int) == 0) = true := by rw [hn]; rfl
           ·have HF : Hid (V = true) := vv (by rw [HV.out, HE.out]; simp [hp, hn])
            go_wp2
            go_ret
            exact ⟨retI (by rw [HF.out]; rfl), HB.out⟩
          ·have tn : ((n : Int) == 0) = false := by rw [beq_eq_false_iff_ne]; omega
           ·have HF : Hid (V = false) := vv (by rw [HV.out, HE.out]; simp [hp, hn])
            go_wp2
            go_ret
            exact ⟨retI (by rw [HF.out]; rfl), HB.out⟩
        ·cases neg
         ·by_cases hn : n = 0
          ·have tn : ((n : Int) == 0) = true := by rw [hn]; rfl
           ·have HF : Hid (V = true) := vv (by rw [HV.out, HE.out]; simp [hp, hn])
            go_wp2
            go_ret
            exact ⟨retI (by rw [HF.out]; rfl), HB.out⟩
          ·have tn : ((n : Int) == 0) = false := by rw [beq_eq_false_iff_ne]; omega
           ·have HF : Hid (V = false) := vv (by rw [HV.out, HE.out]; simp [hp, hn])
            go_wp2
            go_ret
            exact ⟨retI (by rw [HF.out]; rfl), HB.out⟩
         ·have HF : Hid (V = true) := vv (by rw [HV.out, HE.out]; simp [hp])
          go_wp2
          go_ret
          exact ⟨retI (by rw [HF.out]; rfl), HB.out⟩
      ·have tp : ((p : Int) == 0) = false := by rw [beq_eq_false_iff_ne]; omega
       ·have HF : Hid (V = false) := vv (by rw [HV.out, HE.out]; simp [hp])
        go_wp2
        go_ret
        exact ⟨retI (by rw [HF.out]; rfl), HB.out⟩
    ·cases none
     ·have HF : Hid (V = false) := vv (by rw [HV.out, HE.out]; simp)
      go_wp2
      go_ret
      exact ⟨retI (by rw [HF.out]; rfl), HB.out⟩
     ·by_cases hp : p = 0
      ·have tp : ((p : Int) == 0) = true := by rw [hp]; rfl
       ·have HF : Hid (V = true) := vv (by rw [HV.out, HE.out]; simp [hp])
        go_wp2
        go_ret
        exact ⟨retI (by rw [HF.out]; rfl), HB.out⟩
      ·have tp : ((p : Int) == 0) = false := by rw [beq_eq_false_iff_ne]; omega
       ·have HF : Hid (V = false) := vv (by rw [HV.out, HE.out]; simp [hp])
        go_wp2
        go_ret
        exact ⟨retI (by rw [HF.out]; rfl), HB.out⟩
    ·cases none
     ·have HF : Hid (V = false) := vv (by rw [HV.out, HE.out]; simp)
      go_wp2
      go_ret
      exact ⟨retI (by rw [HF.out]; rfl), HB.out⟩
     ·by_cases hp : p <= 2251799813685247
      ·have tp : decide ((p : Int) <= 2251799813685247) = true := decide_eq_true (by omega)
       ·have HF : Hid (V = true) := vv (by rw [HV.out, HE.out]; simp [hp])
        go_wp2
        go_ret
        exact ⟨retI (by rw [HF.out]; rfl), HB.out⟩
      ·have tp : decide ((p : Int) <= 2251799813685247) = false := decide_eq_false (by omega)
       ·have HF : Hid (V = false) := vv (by rw [HV.out, HE.out]; simp [hp])
        go_wp2
        go_ret
        exact ⟨retI (by rw [HF.out]; rfl), HB.out⟩
    ·have t1 : ((kind : Int) == 1) = false := by rw [beq_eq_false_iff_ne]; omega
     have t2 : ((kind : Int) == 2) = false := by rw [beq_eq_false_iff_ne]; omega
     have t3 : ((kind : Int) == 3) = false := by rw [beq_eq_false_iff_ne]; omega
     have t4 : ((kind : Int) == 4) = false := by rw [beq_eq_false_iff_ne]; omega
     ·have HF : Hid (V = false) := vv (by rw [HV.out, HE.out]; simp [q1, q2, q3, q4])
      go_wp2
      go_ret
      exact ⟨retI (by rw [HF.out]; rfl), HB.out⟩
 ·have HE : Hid (emptyB true s x = false) := vv (by unfold emptyB; rfl)
  rcases (by omega : kind = 1 \/ kind = 2 \/ kind = 3 \/ kind = 4 \/ (kind ≠ 1 /\ kind ≠ 2 /\ kind ≠ 3 /\ kind ≠ 4)) with rfl | rfl | rfl | rfl | ⟨q1, q2, q3, q4⟩
  ·cases dec
   ·have HF : Hid (V = false) := vv (by rw [HV.out, HE.out]; simp)
    go_wp2
    go_ret
    exact ⟨retI (by rw [HF.out]; rfl), HB.out⟩
   ·cases neg
    ·have HF : Hid (V = false) := vv (by rw [HV.out, HE.out]; simp)
     go_wp2
     go_ret
     exact ⟨retI (by rw [HF.out]; rfl), HB.out⟩
    ·cases none
     ·have HF : Hid (V = false) := vv (by rw [HV.out, HE.out]; simp)
      go_wp2
      go_ret
      exact ⟨retI (by rw [HF.out]; rfl), HB.out⟩
     ·by_cases hp : p = 0
      ·have tp : ((p : Int) == 0) = true := by rw [hp]; rfl
       ·have HF : Hid (V = true) := vv (by rw [HV.out, HE.out]; simp [hp])
        go_wp2
        go_ret
        exact ⟨retI (by rw [HF.out]; rfl), HB.out⟩
      ·have tp : ((p : Int) == 0) = false := by rw [beq_eq_false_iff_ne]; omega
       ·have HF : Hid (V = false) := vv (by rw [HV.out, HE.out]; simp [hp])
        go_wp2
        go_ret
        exact ⟨retI (by rw [HF.out]; rfl), HB.out⟩
  ·cases two
   ·have HF : Hid (V = false) := vv (by rw [HV.out, HE.out]; simp)
    go_wp2
    go_ret
    exact ⟨retI (by rw [HF.out]; rfl), HB.out⟩
   ·have HF : Hid (V = false) := vv (by rw [HV.out, HE.out]; simp)
    go_wp2
    go_ret
    exact ⟨retI (by rw [HF.out]; rfl), HB.out⟩
  ·have HF : Hid (V = false) := vv (by rw [HV.out, HE.out]; simp)
   go_wp2
   go_ret
   exact ⟨retI (by rw [HF.out]; rfl), HB.out⟩
  ·have HF : Hid (V = false) := vv (by rw [HV.out, HE.out]; simp)
   go_wp2
   go_ret
   exact ⟨retI (by rw [HF.out]; rfl), HB.out⟩
  ·have t1 : ((kind : Int) == 1) = false := by rw [beq_eq_false_iff_ne]; omega
   have t2 : ((kind : Int) == 2) = false := by rw [beq_eq_false_iff_ne]; omega
   have t3 : ((kind : Int) == 3) = false := by rw [beq_eq_false_iff_ne]; omega
   have t4 : ((kind : Int) == 4) = false := by rw [beq_eq_false_iff_ne]; omega
   ·have HF : Hid (V = false) := vv (by rw [HV.out, HE.out]; simp [q1, q2, q3, q4])
    go_wp2
    go_ret
    exact ⟨retI (by rw [HF.out]; rfl), HB.out⟩
end Go.Proofs.YtbfmpcfcmbjeeaaGreatDoor.R11
namespace Go.Proofs.YtbfmpcfcmbjeeaaGreatDoor.R1
open Go Go.RowKit
theorem two_words (w : World) (x y : Nat) (hx : x < 4294967296) (hy : y < 4294967296) (t : TypeId) : Rd (w.alloc (.cells #[.int .u32 (x : Int), .int .u32 (y : Int)] t)) (some ⟨w.heap.size, 0, none⟩) 2 2 [x, y] /\ Below w.heap.size w (w.alloc (.cells #[.int .u32 (x : Int), .int .u32 (y : Int)] t)) :=
 ⟨(Own.lit (t := t) [x, y] (Lim_cons.2 ⟨hx, Lim_cons.2 ⟨hy, Lim_nil⟩⟩) (by simp [u32s])).rd rfl (Nat.le_refl _) (by omega), (Below.refl _ _).alloc (Nat.le_refl _) _⟩
theorem Of1 (w : World) :
  Calls Tryz.prog 38 #[.int .u64 1] w fun e w' => ∃ A n c, e = .returned (.agg #[.slice A n c]) /\ Rd w' A n c (toL 1) /\ Below w.heap.size w w' := by
 go_enter Tryz.func38, Tryz.ntmps38
 go_wp2_with fail
 obtain ⟨o1, o2⟩ := two_words (w.alloc (.cells #[.slice none 0 0] 28)) 1 0 (by omega) (by omega) 34
 have hN := (NatCell.made w 28).below o2
 have hB := (Below.refl w.heap.size w).alloc (o := .cells #[.slice none 0 0] 28) (Nat.le_refl _)
 have HN := vv hN
 have HB := vv (hB.trans (o2.mono (by simp)))
 have hs : (w.alloc (.cells #[.slice none 0 0] 28)).heap.size = w.heap.size + 1 := by simp
 rw [hs] at o1
 clear o2 hN hB hs
 refine (Trim (some ⟨w.heap.size + 1, 0, none⟩) 2 2 [1, 0] _ o1).mono ?_
 rintro e w' ⟨m', rfl, rfl, hR'⟩
 have HR := vv hR'
 clear hR' o1
 go_wp2_with fail
 refine (nat_ _ m' 2 _).mono ?_
 rintro e w1 ⟨rfl, hB1⟩
 have HR1 : Hid (Rd w1 (some ⟨w.heap.size + 1, 0, none⟩) m' 2 (toL 1)) := vv (HR.out.below hB1 rfl)
 have HN1 := vv (HN.out.below hB1)
 have HB1 := vn HB hB1
 have c0 := HN1.out.c0
 have fz := HN1.out.fz
 have lt := HN1.out.lt
 have HFin : Hid (Rd (w1.setCell ⟨w.heap.size, 0, none⟩ (.slice (some ⟨w.heap.size + 1, 0, none⟩) m' 2)) (some ⟨w.heap.size + 1, 0, none⟩) m' 2 (toL 1)) := vv (HR1.out.other _ _ _ (fun a e => by cases e; simp))
 have HBel : Hid (Below w.heap.size w (w1.setCell ⟨w.heap.size, 0, none⟩ (.slice (some ⟨w.heap.size + 1, 0, none⟩) m' 2))) := vv (HB1.out.setCell (Nat.le_refl _) _)
 have hcell : (w1.setCell ⟨w.heap.size, 0, none⟩ (.slice (some ⟨w.heap.size + 1, 0, none⟩) m' 2)).cell? ⟨w.heap.size, 0, none⟩ = some (.slice (some ⟨w.heap.size + 1, 0, none⟩) m' 2) := cell_eq c0
 clear hB1
 go_wp2
 exact bodyPost_ret (v := .agg #[.slice (some ⟨w.heap.size + 1, 0, none⟩) m' 2]) (by simp [results, Tryz.results38, go_sem, hcell]) rfl ⟨_, _, _, rfl, HFin.out, HBel.out⟩
end Go.Proofs.YtbfmpcfcmbjeeaaGreatDoor.R1
namespace Go.Proofs.YtbfmpcfcmbjeeaaGreatDoor.R11
open Go Go.RowKit R5
theorem decimal_none (E F : Nat) (neg : Bool) (mode : Nat) (x : Int) (w : World) (h1 : 2 <= E) (h2 : E <= 11) (h3 : 1 <= F) (h4 : F <= 52) (hm : mode <= 4)
  (hx1 : -4611686018427387904 <= x) (hx2 : x <= 4611686018427387904) (hst : Std w) :
  Calls Tryz.prog 15 #[fm E F, decV neg ⟨#[]⟩ x, .int .u8 (mode : Int)] w (BfePost (signedS E F false neg mode 0 (t10 (-x))) w) := by
 have HS := vv fun (A : Option Addr) n c (B' : Option Addr) m d w' (ha : Rd w' A n c (toL 0)) (hb : Rd w' B' m d (toL 1)) (hn : n <= 16384) (hs : Std w') => Scaled1 E F false neg mode A n c B' m d 0 x w' h1 h2 h3 h4 hm ha hb hn (fun _ => rfl) hx1 hx2 hs
 rw [Nat.zero_mul] at HS
 obtain ⟨O, hO⟩ := yx (signedS E F false neg mode 0 (t10 (-x)))
 rw [<- hO] at HS ⊢
 have HST := vv hst
 obtain ⟨w0, hw0⟩ := yx (w.alloc (.cells #[.int .i64 (E : Int), .int .i64 (F : Int)] 23))
 obtain ⟨w1, hw1⟩ := yx (w0.alloc (.cells #[.bool neg, .string ⟨#[]⟩, .int .i64 x] 25))
 have hB0 : Below w.heap.size w w0 := by rw [hw0]; exact (Below.refl _ w).alloc (Nat.le_refl _) _
 have hB1 : Below w0.heap.size w0 w1 := by rw [hw1]; exact (Below.refl _ w0).alloc (Nat.le_refl _) _
 have hsz : w0.heap.size = w.heap.size + 1 := by rw [hw0]; simp
 have hF0 : FmAt w1 w.heap.size E F := (show FmAt w0 w.heap.size E F by rw [hw0]; exact FmAt.made w _ _ _).below hB1
 have hX0 : DecBox w1 (w.heap.size + 1) neg ⟨#[]⟩ x := by rw [<- hsz, hw1]; exact DecBox.made w0 _ _ _ _
 have hB : Below w.heap.size w w1 := hB0.trans (hB1.mono hB0.size)
 have HF := vv hF0
 have HX := vv hX0
 have HB := vv hB
 have HW1 : Hid (w1 = (w.alloc (.cells #[.int .i64 (E : Int), .int .i64 (F : Int)] 23)).alloc (.cells #[.bool neg, .string ⟨#[]⟩, .int .i64 x] 25)) := vv (by rw [hw1, hw0])
 have hmi : (mode : Int) <= 4 := by omega
 clear hw0 hw1 hB0 hB1 hsz hF0 hX0 hB hO hst h1 h2 h3 h4 hm
 go_enter Tryz.func15, Tryz.ntmps15
 go_wp2_with fail
 rw [<- HW1.out]
 refine (R1.Of1 _).mono ?_
 rintro e w2 ⟨A, n, c, rfl, hR2, hB2⟩
 have HR2 := vv hR2
 have HF := vv (HF.out.below hB2)
 have HX := vv (HX.out.below hB2)
 have HB := vn HB hB2
 obtain ⟨x0, x1, x2, xl⟩ := HX.out
 obtain ⟨f0, f1, fl⟩ := HF.out
 clear hR2 hB2
 go_wp2_with fail
 have o2 := (Below.refl w2.heap.size w2).alloc (o := .cells #[.bool false, .slice none 0 0, .slice A n c] 53) (Nat.le_refl _)
 refine (HS.out none 0 0 A n c _ (by rw [toL_zero]; exact Rd.nil _) (HR2.out.below o2 rfl) (by omega) (HST.out.fs (Fs.of_nil (HB.out.trans (o2.mono HB.out.size))))).mono ?_
 have HB2 := vn HB o2
 clear o2
 rintro e w3 ⟨rfl, hB3⟩
 have HB3 := vn HB2 hB3
 clear hB3
 go_wp2
 go_ret3
 exact ⟨rfl, HB3.out⟩
theorem digs_words {s : ByteArray} (hd : Digs s) (m : Nat) (h : s.size <= 8 * m) : words (dvk s s.size) <= m := by
 refine words_le (Nat.lt_of_lt_of_le (dvk_lt s hd s.size (Nat.le_refl _)) ?_)
 have h2 : (10 : Nat) ^ s.size <= 10 ^ (8 * m) := Nat.pow_le_pow_right (by omega) h
 rw [Nat.pow_mul] at h2
 exact Nat.le_trans h2 (Nat.pow_le_pow_left (by decide) m)
theorem digs_bound {s : ByteArray} (hd : Digs s) (h : s.size <= 65536) : words (dvk s s.size) <= 16384 := digs_words hd 16384 (by omega)
theorem dvk_pos (s : ByteArray) (hd : Digs s) (h0 : 0 < s.size) (hf : byteAt s 0 ≠ 48) : 0 < dvk s s.size := by
 have h1 := dvk_succ s 0 h0
 rw [dvk_zero] at h1
 rw [byteAt_eq h0] at hf
 have h2 := (hd 0 h0).1
 have h3 := dvk_add s 1 (s.size - 1) (by omega)
 have e : 1 + (s.size - 1) = s.size := by omega
 rw [e] at h3
 have h4 : dvk s 1 ≠ 0 := by rw [h1]; omega
 have h5 : 0 < dvk s 1 * 10 ^ (s.size - 1) := Nat.mul_pos (by omega) (Nat.pow_pos (by omega))
 omega
set_option maxHeartbeats 1000000 in
theorem decimal_some (E F : Nat) (neg : Bool) (mode : Nat) (s : ByteArray) (x : Int) (w : World) (h1 : 2 <= E) (h2 : E <= 11) (h3 : 1 <= F) (h4 : F <= 52) (hm : mode <= 4)
  (hd : Digs s) (h0 : 0 < s.size) (hsz : s.size <= 65536) (hf : byteAt s 0 ≠ 48) (hx1 : -4611686018427387904 <= x) (hx2 : x <= 4611686018427387904) (hst : Std w) :
  Calls Tryz.prog 15 #[fm E F, decV neg s x, .int .u8 (mode : Int)] w (BfePost (signedS E F neg neg mode (dvk s s.size * t10 x) (t10 (-x))) w) := by
 have hwd := digs_bound hd hsz
 have hps := dvk_pos s hd h0 hf
 have HPa := vv fun w => R1.Parse s w hd h0 hsz
 obtain ⟨N, hN⟩ := yx (dvk s s.size)
 rw [<- hN] at HPa hwd hps ⊢
 have HS := vv fun (A : Option Addr) n c (B' : Option Addr) m d w' (ha : Rd w' A n c (toL N)) (hb : Rd w' B' m d (toL 1)) (hs : Std w') => Scaled1 E F neg neg mode A n c B' m d N x w' h1 h2 h3 h4 hm ha hb (by rw [<- ha.words]; exact hwd) (fun h => absurd h (by omega)) hx1 hx2 hs
 obtain ⟨O, hO⟩ := yx (signedS E F neg neg mode (N * t10 x) (t10 (-x)))
 rw [<- hO] at HS ⊢
 have HST := vv hst
 have hne := str_some h0
 obtain ⟨w0, hw0⟩ := yx (w.alloc (.cells #[.int .i64 (E : Int), .int .i64 (F : Int)] 23))
 obtain ⟨w1, hw1⟩ := yx (w0.alloc (.cells #[.bool neg, .string s, .int .i64 x] 25))
 have hB0 : Below w.heap.size w w0 := by rw [hw0]; exact (Below.refl _ w).alloc (Nat.le_refl _) _
 have hB1 : Below w0.heap.size w0 w1 := by rw [hw1]; exact (Below.refl _ w0).alloc (Nat.le_refl _) _
 have hsz1 : w0.heap.size = w.heap.size + 1 := by rw [hw0]; simp
 have hF0 : FmAt w1 w.heap.size E F := (show FmAt w0 w.heap.size E F by rw [hw0]; exact FmAt.made w _ _ _).below hB1
 have hX0 : DecBox w1 (w.heap.size + 1) neg s x := by rw [<- hsz1, hw1]; exact DecBox.made w0 _ _ _ _
 have hB : Below w.heap.size w w1 := hB0.trans (hB1.mono hB0.size)
 have HF := vv hF0
 have HX := vv hX0
 have HB := vv hB
 have HW1 : Hid (w1 = (w.alloc (.cells #[.int .i64 (E : Int), .int .i64 (F : Int)] 23)).alloc (.cells #[.bool neg, .string s, .int .i64 x] 25)) := vv (by rw [hw1, hw0])
 have hmi : (mode : Int) <= 4 := by omega
 clear hw0 hw1 hB0 hB1 hsz1 hF0 hX0 hB hO hst h1 h2 h3 h4 hm hd hf hN hwd hps h0 hsz
 go_enter Tryz.func15, Tryz.ntmps15
 go_wp2_with fail
 rw [<- HW1.out]
 refine (R1.Of1 _).mono ?_
 rintro e w2 ⟨A, n, c, rfl, hR2, hB2⟩
 have HR2 := vv hR2
 have HF := vv (HF.out.below hB2)
 have HX := vv (HX.out.below hB2)
 have HB := vn HB hB2
 obtain ⟨x0, x1, xl⟩ := HX.out
 clear hR2 hB2
 go_wp2_with fail
 have o2 := (Below.refl w2.heap.size w2).alloc (o := .cells #[.bool neg, .slice none 0 0, .slice A n c] 53) (Nat.le_refl _)
 have hz : (w2.alloc (.cells #[.bool neg, .slice none 0 0, .slice A n c] 53)).frozen? ⟨w2.heap.size, 1, none⟩ = false := by simp only [World.frozen?]; rw [heap_alloc_new]; simp
 have hq := RatioBox.made w2 neg none 0 0 A n c 53
 obtain ⟨w3, hw3⟩ := yx (w2.alloc (.cells #[.bool neg, .slice none 0 0, .slice A n c] 53))
 rw [<- hw3] at o2 hz hq ⊢
 have HQ := vv hq
 have HZ := vv hz
 have HR3 := vv (HR2.out.below o2 rfl)
 have e2 := HX.out.lt
 have e1 : w.heap.size < w2.heap.size := by omega
 have HF := vv (HF.out.below o2)
 have HX := vv (HX.out.below o2)
 have HB := vn HB o2
 have hfr : ∀ a, A = some a -> a.block ≠ w2.heap.size := fun a e => by
  have h1 : words 1 = n := HR2.out.words
  have h2 : words 1 = 1 := rfl
  have := HR2.out.block_lt (by omega) a e
  omega
 clear o2 hz hq hw3 HR2 x0 x1 xl hne
 refine (HPa.out _).mono ?_
 rintro e w4 ⟨A4, n4, c4, rfl, hR4, hF4, hB4⟩
 have HR3 := vv (HR3.out.below hB4 rfl)
 have HR4 := vv hR4
 have HF := vv (HF.out.below hB4)
 have HX := vv (HX.out.below hB4)
 have HB := vn HB hB4
 have q0 := HQ.out.below hB4
 have fz := (hB4.frozen (p := ⟨w2.heap.size, 1, none⟩) HQ.out.lt).trans HZ.out
 have q2 := q0.c2
 have q1 := q0.c1
 have ql := q0.lt
 have hfr4 : ∀ a, A4 = some a -> a.block ≠ w2.heap.size := fun a e => by have := (hF4 a e).1; have := HQ.out.lt; omega
 have q0 := q0.c0
 clear hR4 hF4 hB4
 obtain ⟨f0, f1, fl⟩ := HF.out
 obtain ⟨x0, x1, x2, xl⟩ := HX.out
 have HBel := vv (HB.out.setCell (p := ⟨w2.heap.size, 1, none⟩) (by have := e1; show w.heap.size <= w2.heap.size; omega) (.slice A4 n4 c4))
 have HRa : Hid (Rd (w4.setCell ⟨w2.heap.size, 1, none⟩ (.slice A4 n4 c4)) A4 n4 c4 (toL N)) := vv (HR4.out.other _ _ _ hfr4)
 have HRb : Hid (Rd (w4.setCell ⟨w2.heap.size, 1, none⟩ (.slice A4 n4 c4)) A n c (toL 1)) := vv (HR3.out.other _ _ _ hfr)
 clear hfr hfr4
 go_wp2_with fail
 refine (HS.out A4 n4 c4 A n c _ HRa.out HRb.out (HST.out.fs (Fs.of_nil HBel.out))).mono ?_
 rintro e w5 ⟨rfl, hB5⟩
 have HB5 := vn HBel hB5
 clear hB5
 go_wp2
 go_ret3
 exact ⟨rfl, HB5.out⟩
end Go.Proofs.YtbfmpcfcmbjeeaaGreatDoor.R11
