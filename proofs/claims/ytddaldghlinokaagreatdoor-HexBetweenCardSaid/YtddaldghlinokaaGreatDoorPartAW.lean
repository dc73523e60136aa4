/- Lemmas. -/
import Derived.Test.YtddaldghlinokaaGreatDoorPartAV
import Derived.Laws.IdiomStrings
import Derived.Test.YtddaldghlinokaaGreatDoorPartAN
import Derived.Test.YtddaldghlinokaaGreatDoorPartAU
import Derived.Test.YtddaldghlinokaaGreatDoorPartAK
import Derived.Test.YtddaldghlinokaaGreatDoorPartAI
import Derived.Test.YtddaldghlinokaaGreatDoorPartAJ
import Derived.Test.YtddaldghlinokaaGreatDoorPartAT
set_option linter.all false
namespace Go.Proofs.YtddaldghlinokaaGreatDoor
open Go Go.RowKit
theorem u32s_set (U : List Nat) (i x : Nat) : u32s (U.set i x) = (u32s U).set i (.int .u32 (x : Int)) := by
 unfold u32s; rw [List.map_set]
theorem row_set {w : World} {base : Nat} {e : TypeId} {g n cap : Nat} {U : List Nat} (h : w.ownsRow base e 1 (.slice (some ⟨g, 0, none⟩) n cap) n (u32s U)) (i x : Nat) :
  (w.setCell ⟨g, i, none⟩ (.int .u32 (x : Int))).ownsRow base e 1 (.slice (some ⟨g, 0, none⟩) n cap) n (u32s (U.set i x)) := by
 obtain ⟨h1, h2⟩ := h
 rcases h2 with ⟨h, _⟩ | ⟨g', cap', cur, hv, hb, hg, hc, hm, hs, ht⟩
 ·cases h
 ·cases hv
  refine ⟨by simpa [u32s] using h1, .inr ⟨g, cap, cur.setIfInBounds i (.int .u32 (x : Int)), rfl, hb, ?_, hc, hm, by simpa using hs, ?_⟩⟩
  ·simp [World.setCell, Array.getElem?_modify, hg]
  ·rw [u32s_set, <- ht]
   rw [Array.toList_setIfInBounds, List.take_set]
theorem row_cell {w : World} {base : Nat} {e : TypeId} {g n cap : Nat} {U : List Nat} (h : w.ownsRow base e 1 (.slice (some ⟨g, 0, none⟩) n cap) n (u32s U)) {i : Nat} (hi : i < n) :
  w.cell? ⟨g, i, none⟩ = some (.int .u32 ((nth U i : Nat) : Int)) /\ w.frozen? ⟨g, i, none⟩ = false /\ base <= g /\ g < w.heap.size := by
 have hlen : U.length = n := by have := h.1; simpa [u32s] using this
 rcases h.2 with ⟨h, _⟩ | ⟨g', cap', cur, hv, hb, hg, hc, hm, hs, ht⟩
 ·cases h
 ·cases hv
  refine ⟨?_, by simp [World.frozen?, hg], hb, (Array.getElem?_eq_some_iff.1 hg).1⟩
  have e1 := u32s_get U (i := i) (by omega)
  rw [<- ht, Nat.mul_one, List.getElem?_take, if_pos hi] at e1
  simp only [World.cell?, hg]
  rw [<- e1]
  simp
theorem row_slice {w : World} {base : Nat} {e : TypeId} {v : Value} {n : Nat} {U : List Nat} (h : w.ownsRow base e 1 v n (u32s U)) (hn : 0 < n) : ∃ g cap, v = .slice (some ⟨g, 0, none⟩) n cap /\ base <= g := by
 rcases h.2 with ⟨_, h0⟩ | ⟨g, cap, cur, hv, hb, _⟩
 ·omega
 ·exact ⟨g, cap, hv, hb⟩
theorem row_any {w : World} {base : Nat} {e : TypeId} {v : Value} {n : Nat} {U : List Nat} (h : w.ownsRow base e 1 v n (u32s U)) : ∃ A cap, v = .slice A n cap := by
 rcases h.2 with ⟨h2, rfl⟩ | ⟨g, cap, cur, hv, _⟩
 ·exact ⟨none, 0, h2⟩
 ·exact ⟨_, _, hv⟩
theorem row_below {w w' : World} {base B : Nat} {e : TypeId} {v : Value} {n : Nat} {U : List Nat} (h : w.ownsRow base e 1 v n (u32s U)) (hb : Below B w w') (hB : B = w.heap.size) : w'.ownsRow base e 1 v n (u32s U) := by
 refine ⟨h.1, ?_⟩
 rcases h.2 with h2 | ⟨g, cap, cur, hv, hbg, hg, hc, hm, hs, ht⟩
 ·exact .inl h2
 ·exact .inr ⟨g, cap, cur, hv, hbg, (hb.block g (by rw [hB]; exact (Array.getElem?_eq_some_iff.1 hg).1)).trans hg, hc, hm, hs, ht⟩
def mS (U : List Nat) (P y0 k : Nat) : Nat := val (U.take k) * P + y0
theorem mS_zero (U : List Nat) (P y0 : Nat) : mS U P y0 0 = y0 := by simp [mS, val]
theorem mS_succ (U : List Nat) (P y0 k : Nat) : mS U P y0 (k + 1) = mS U P y0 k + 4294967296 ^ k * (nth U k * P) := by
 unfold mS; rw [val_take_nth, Nat.add_mul, Nat.mul_assoc]; omega
theorem mS_carry (U : List Nat) (P y0 k : Nat) : mS U P y0 k / 4294967296 ^ k + nth U k * P = mS U P y0 (k + 1) / 4294967296 ^ k := by
 rw [mS_succ, Nat.add_mul_div_left _ _ (Nat.pow_pos (by omega))]
theorem mS_mod (U : List Nat) (P y0 k : Nat) : mS U P y0 (k + 1) % 4294967296 ^ k = mS U P y0 k % 4294967296 ^ k := by
 rw [mS_succ, Nat.add_mul_mod_self_left]
theorem mS_next (U : List Nat) (P y0 k : Nat) : mS U P y0 (k + 1) % 4294967296 ^ (k + 1) = mS U P y0 k % 4294967296 ^ k + 4294967296 ^ k * (mS U P y0 (k + 1) / 4294967296 ^ k % 4294967296) := by
 rw [Nat.pow_succ, Nat.mod_mul, mS_mod]
theorem mS_div (U : List Nat) (P y0 k : Nat) : mS U P y0 (k + 1) / 4294967296 ^ k / 4294967296 = mS U P y0 (k + 1) / 4294967296 ^ (k + 1) := by
 rw [Nat.pow_succ, Nat.div_div_eq_div_mul]
theorem mS_small (U : List Nat) (hl : Lim U) {P y0 : Nat} (hy : y0 < P) : ∀ k, mS U P y0 k / 4294967296 ^ k < P
 | 0 => by rw [mS_zero]; simpa using hy
 | k + 1 => by
  have h1 := mS_small U hl hy k
  have h2 := mS_carry U P y0 k
  have h3 : nth U k < 4294967296 := Lim_getD hl k
  rw [<- mS_div, <- h2]
  apply Nat.div_lt_of_lt_mul
  have h4 : nth U k * P <= 4294967295 * P := Nat.mul_le_mul_right _ (by omega)
  omega
theorem mS_all (U : List Nat) (P y0 : Nat) : mS U P y0 U.length = val U * P + y0 := by unfold mS; rw [List.take_length]
structure MulAt (U L : List Nat) (P y0 k : Nat) : Prop where
 len : L.length = U.length
 lim : Lim L
 low : val (L.take k) = mS U P y0 k % 4294967296 ^ k
 high : ∀ j, k <= j -> nth L j = nth U j
theorem MulAt.start {U : List Nat} (hl : Lim U) (P y0 : Nat) : MulAt U U P y0 0 := ⟨rfl, hl, by simp [val, Nat.mod_one], fun _ _ => rfl⟩
theorem MulAt.step {U L : List Nat} {P y0 k : Nat} (h : MulAt U L P y0 k) (hk : k < U.length) : MulAt U (L.set k (mS U P y0 (k + 1) / 4294967296 ^ k % 4294967296)) P y0 (k + 1) := by
 refine ⟨by rw [List.length_set]; exact h.len, Lim_set h.lim k (Nat.mod_lt _ (by omega)), ?_, fun j hj => ?_⟩
 ·rw [val_take_set _ _ _ (by rw [h.len]; exact hk), h.low, mS_next]
 ·rw [nth_set_ne _ _ (by omega)]
  exact h.high j (by omega)
theorem MulAt.fin {U L : List Nat} {P y0 : Nat} (h : MulAt U L P y0 U.length) : val L = (val U * P + y0) % 4294967296 ^ U.length := by
 have := h.low
 rw [<- h.len, List.take_length, h.len, mS_all] at this
 exact this
end Go.Proofs.YtddaldghlinokaaGreatDoor
namespace Go.Proofs.YtddaldghlinokaaGreatDoor.Pnt
open Go Go.RowKit R5
def OwnPost (N L : Nat) (w : World) (e : Ending) (w' : World) : Prop :=
 ∃ V, e = .returned (.slice (some ⟨w.heap.size, 0, none⟩) L L) /\ Own w' w.heap.size 34 V /\ V.length = L /\ val V = N /\ Below w.heap.size w w'
set_option maxHeartbeats 1000000 in
theorem shifted (A : Option Addr) (n c : Nat) (xs : List Nat) (s : Nat) (w : World) (ha : Rd w A n c xs) (hs : s < 32) (hn : n <= 16384) :
  Calls Tryz.prog 141 #[.slice A n c, .int .i64 (s : Int)] w (OwnPost (val xs * 2 ^ s) (n + 1) w) := by
 have hlen := ha.len
 have hmk := Go.Proofs.YtddaldghlinokaaGreatDoor.A.mk1 n (by omega)
 have HL0 := vv hlen
 have hni : (n : Int) <= 16384 := by omega
 have hsi : (s : Int) <= 31 := by omega
 clear hlen
 go_enter Tryz.func141, Tryz.ntmps141
 go_wp2
 go_loopw [15] (fun i wr => ∃ (j h : Nat) (V : List Nat), i = .int .i64 j /\ j <= n /\ V.length = n + 0 + 1 /\ Own wr w.heap.size 34 V /\ nth V (j + 0) = h /\ h < 2 ^ s /\
   val (V.take (j + 0)) + 4294967296 ^ (j + 0) * h = 4294967296 ^ 0 * (2 ^ s * val (xs.take j)) /\ Below w.heap.size w wr) (fun i _ => n - (intOf i).toNat)
 case atStart => exact ⟨0, 0, List.replicate (n + 1) 0, rfl, Nat.zero_le _, by simp, Own.made _ _ _, nth_replicate _ _, Nat.two_pow_pos _, by simp [val, List.take_replicate, val_replicate], (Below.refl _ _).alloc (Nat.le_refl _) _⟩
 case round =>
  obtain ⟨j, h, V, rfl, hj, hVl, hown, hh, hhs, hval, hbel⟩ := hrel
  have HV := vv hval
  have HL := vv hVl
  have HH := vv hh
  have HO := vv hown
  have HHS := vv hhs
  clear hval hVl hh hhs
  have hg := hown.lt
  by_cases hjn : j < n
  ·obtain ⟨b, off, rfl, hbl, hcell⟩ := ha.cell (by omega)
   have hx : wr.cell? ⟨b, off + j, none⟩ = some (.int .u32 ((nth xs j : Nat) : Int)) := (hbel.cell (p := ⟨b, off + j, none⟩) hbl).trans (hcell j hjn)
   clear hcell
   have hxl := ha.nth_lt j
   have ho := hown.cell (i := j) (by rw [HL.out]; omega)
   have hf := hown.frozen j
   have ho1 := hown.cell (i := j + 1) (by rw [HL.out]; omega)
   have hf1 := hown.frozen (j + 1)
   rw [show nth V j = h from HH.out] at ho
   have hh32 : h < 4294967296 := by have h1 := HHS.out; have h2 : 2 ^ s <= 2 ^ 31 := Nat.pow_le_pow_right (by omega) (by omega); omega
   have UP := vv (up_parts hxl hs)
   have UW := vv (up_word (h := h) UP.out.2.2 hh32)
   have ST := vv (up_step (k := 0) (by rw [HL.out]; omega) HH.out HHS.out rfl hxl hs HV.out)
   clear hown
   go_wp2
   go_roundw
   case rel =>
    have hor : h ||| (nth xs j * 2 ^ s) % 4294967296 < 4294967296 := Nat.or_lt_two_pow (n := 32) hh32 (Nat.mod_lt _ (by omega))
    refine ⟨j + 1, (nth xs j * 2 ^ s) / 4294967296, (V.set (j + 0) (h ||| (nth xs j * 2 ^ s) % 4294967296)).set (j + 0 + 1) ((nth xs j * 2 ^ s) / 4294967296), by go_num, by omega, by rw [List.length_set, List.length_set]; exact HL.out,
     (HO.out.set (by rw [HL.out]; omega) hor UW.out.1).set (by rw [List.length_set, HL.out]; omega) (by have := UP.out.2.2; omega) UW.out.2, ?_, UP.out.2.1, ST.out, (hbel.setCell (Nat.le_refl _) _).setCell (Nat.le_refl _) _⟩
    rw [show j + 1 + 0 = j + 0 + 1 by omega, nth_set _ _ _ _ (by rw [List.length_set, HL.out]; omega), if_pos rfl]
   case measure => simp [intOf]; omega
  ·obtain rfl : j = n := by omega
   have hv := up_done HL.out (by rw [HL0.out]; exact Nat.le_refl _) HH.out HV.out
   rw [Nat.mul_zero, Nat.zero_add] at hv
   have HVV := vv hv
   clear hv
   have HO2 := vv hown
   clear hown
   go_wp2
   go_ret
   exact ⟨V, rfl, HO2.out, HL.out, HVV.out, hbel⟩
set_option maxHeartbeats 1000000 in
theorem lowered (A : Option Addr) (n c : Nat) (xs : List Nat) (s : Nat) (w : World) (ha : Rd w A n c xs) (hs : s < 32) (hn : n <= 16384) :
  Calls Tryz.prog 174 #[.slice A n c, .int .i64 (s : Int)] w (OwnPost (val xs / 2 ^ s) n w) := by
 have hlen := ha.len
 have hmk := Go.Proofs.YtddaldghlinokaaGreatDoor.A.mk n (by omega)
 have HL0 := vv hlen
 have hni : (n : Int) <= 16384 := by omega
 have hsi : (s : Int) <= 31 := by omega
 have HE0 : Hid (nth xs n = 0) := vv (nth_ge xs n (by rw [hlen]; exact Nat.le_refl _))
 clear hlen
 go_enter Tryz.func174, Tryz.ntmps174
 go_wp2
 go_loopw [6, 7] (fun y i wr => ∃ (j : Nat) (V : List Nat), i = .int .i64 ((j : Int) - 1) /\ y = .int .u64 ((nth xs j : Nat) : Int) /\ j <= n /\ V.length = n /\ Own wr w.heap.size 34 V /\ (∀ p, j <= p -> p < n -> nth V p = (val xs / 2 ^ s) / 4294967296 ^ p % 4294967296) /\ Below w.heap.size w wr) (fun _ i _ => (intOf i + 1).toNat)
 case atStart => exact ⟨n, List.replicate n 0, rfl, by rw [HE0.out]; rfl, Nat.le_refl _, by simp, Own.made _ _ _, fun p hp hp2 => absurd hp (by omega), (Below.refl _ _).alloc (Nat.le_refl _) _⟩
 case round =>
  obtain ⟨j, V, rfl, rfl, hj, hVl, hown, hd, hbel⟩ := hrel
  have HL := vv hVl
  have HO := vv hown
  have HD := vv hd
  clear hVl hd
  have hg := hown.lt
  rcases Nat.eq_zero_or_pos j with rfl | hjp
  ·have hv : val V = val xs / 2 ^ s := by
    have h1 := val_of_digits (U := V) (Q := val xs / 2 ^ s) fun i hi => HD.out i (Nat.zero_le _) (by rw [HL.out] at hi; exact hi)
    have h2 := ha.lt
    rw [h1, HL.out, Nat.mod_eq_of_lt (Nat.lt_of_le_of_lt (Nat.div_le_self _ _) h2)]
   have HVV := vv hv
   have HO2 := vv hown
   clear hv hown
   go_wp2
   go_ret
   exact ⟨V, rfl, HO2.out, HL.out, HVV.out, hbel⟩
  ·obtain ⟨i, rfl⟩ : ∃ i, j = i + 1 := ⟨j - 1, by omega⟩
   have hji : ((i + 1 : Nat) : Int) - 1 = (i : Int) := by omega
   rw [hji]
   obtain ⟨b, off, rfl, hbl, hcell⟩ := ha.cell (by omega)
   have hx : wr.cell? ⟨b, off + i, none⟩ = some (.int .u32 ((nth xs i : Nat) : Int)) := (hbel.cell (p := ⟨b, off + i, none⟩) hbl).trans (hcell i (by omega))
   clear hcell
   have hxl := ha.nth_lt i
   have hyl := ha.nth_lt (i + 1)
   have ho := hown.cell (i := i) (by rw [HL.out]; omega)
   have hf := hown.frozen i
   have HDg := vv (down_digit ha.lim i s hs)
   have hin : (i : Int) < (n : Int) := by omega
   have HM : Hid (((i : Int) - 1 + 1).toNat < ((i : Int) + 1).toNat) := vv (by omega)
   obtain ⟨x, hxe⟩ := yx (nth xs i)
   obtain ⟨y, hye⟩ := yx (nth xs (i + 1))
   rw [<- hxe] at hx hxl HDg
   rw [<- hye] at hyl HDg ⊢
   have HX := vv hxe
   have DW : Hid (bits .or .u64 ((y : Int) * 4294967296) (x : Int) / 2 ^ s % 4294967296 = (((x + 4294967296 * y) / 2 ^ s % 4294967296 : Nat) : Int)) := vv (by
    rw [or32 x y hxl hyl, nat_shr]
    generalize (x + 4294967296 * y) / 2 ^ s = Q
    omega)
   have hxi : (x : Int) <= 4294967295 := by omega
   have hyi : (y : Int) <= 4294967295 := by omega
   clear hown hxe hye hji
   go_wp2
   go_roundw
   case rel =>
    refine ⟨i, V.set i ((x + 4294967296 * y) / 2 ^ s % 4294967296), rfl, by rw [HX.out], by omega, by rw [List.length_set]; exact HL.out, HO.out.set (by rw [HL.out]; omega) (Nat.mod_lt _ (by omega)) DW.out, fun p hp hp2 => ?_, hbel.setCell (Nat.le_refl _) _⟩
    by_cases hpi : p = i
    ·subst hpi
     rw [nth_set V p _ p (by rw [HL.out]; omega), if_pos rfl]
     exact HDg.out
    ·rw [nth_set_ne _ _ hpi]
     exact HD.out p (by omega) hp2
   case measure => exact HM.out
end Go.Proofs.YtddaldghlinokaaGreatDoor.Pnt
namespace Go.Proofs.YtddaldghlinokaaGreatDoor
open Go Go.RowKit
theorem ba_len (t : ByteArray) : t.data.toList.length = t.size := Array.length_toList
theorem piece (t : ByteArray) (a b : Nat) : (t.extract a b).data.toList = (t.data.toList.take b).drop a := by
 rw [ByteArray.data_extract, Array.toList_extract, List.extract_eq_drop_take']
end Go.Proofs.YtddaldghlinokaaGreatDoor
namespace Go.Proofs.YtddaldghlinokaaGreatDoor.A
open Go Go.RowKit
set_option maxRecDepth 100000 in
set_option maxHeartbeats 1000000 in
theorem mulSmall (B : Nat) (v : Value) (U : List Nat) (m c : Nat) (w : World) (hr : w.ownsRow B 34 1 v U.length (u32s U)) (hl : Lim U) (hm : m < 4294967296) (hc : c < m) (hU : U.length <= 1000000000) (hB : B <= w.heap.size) :
  Calls Tryz.prog 393 #[v, .int .u32 (m : Int), .int .u32 (c : Int)] w fun e w' => ∃ v' L, e = .returned v' /\ w'.ownsRow B 34 1 v' L.length (u32s L) /\ Lim L /\ val L = val U * m + c /\ L.length <= U.length + 1 /\ Below B w w' := by
 obtain ⟨i0, hi, hz0, hz1, hz2⟩ := info_parts Go.Proofs.YtddaldghlinokaaGreatDoor.B.inf
 obtain ⟨A, cap, rfl⟩ := row_any hr
 have HR := vv hr
 have HL := vv hl
 have HSm := vv (mS_small U hl hc)
 have HBs := vv hB
 have hUi : (U.length : Int) <= 1000000000 := by omega
 have hmi : (m : Int) <= 4294967295 := by omega
 have hci : (c : Int) <= 4294967295 := by omega
 have HMi := vv hm
 clear hr hl hU hB
 go_enter Tryz.func393, Tryz.ntmps393
 go_wp2
 go_loopw [7, 8] (fun y q wr => ∃ (k : Nat) (L : List Nat), k <= U.length /\ q = .int .i64 (k : Int) /\ y = .int .u64 ((mS U m c k / 4294967296 ^ k : Nat) : Int) /\ MulAt U L m c k /\ wr.ownsRow B 34 1 (.slice A U.length cap) U.length (u32s L) /\ Below B w wr) (fun _ q _ => U.length - (intOf q).toNat)
 case atStart => exact ⟨0, U, Nat.zero_le _, rfl, by rw [mS_zero, Nat.pow_zero, Nat.div_one], MulAt.start HL.out m c, HR.out, Below.refl _ _⟩
 case round =>
  obtain ⟨q, L, hq, rfl, rfl, hM, hrow, hB⟩ := hrel
  have HM := vv hM
  have HRq := vv hrow
  have HBq := vv hB
  have hys := HSm.out q
  by_cases hqn : q < U.length
  ·obtain ⟨g, cap', e, hgb⟩ := row_slice hrow (by omega)
   cases e
   obtain ⟨r1, r2, r3, r4⟩ := row_cell hrow hqn
   rw [hM.high q (Nat.le_refl _)] at r1
   have hul2 : nth U q < 4294967296 := Lim_getD HL.out q
   have hcr := mS_carry U m c q
   obtain ⟨Z, hZ⟩ := yx (mS U m c (q + 1) / 4294967296 ^ q)
   obtain ⟨y, hyy⟩ := yx (mS U m c q / 4294967296 ^ q)
   obtain ⟨v, hv⟩ := yx (nth U q)
   obtain ⟨M, hMu⟩ := yx (v * m)
   rw [<- hZ, <- hyy, <- hv, <- hMu] at hcr
   rw [<- hv] at r1 hul2
   rw [<- hyy] at hys ⊢
   have hprod : (v : Int) * (m : Int) = (M : Int) := by rw [hMu, Int.natCast_mul]
   have hsum : (M : Int) + (y : Int) = (Z : Int) := by omega
   have hMb : (M : Int) <= 18446744065119617025 := by
    have b1 : v * m <= 4294967295 * 4294967295 := Nat.mul_le_mul (by omega) (by omega)
    rw [<- hMu] at b1
    omega
   have hvb : (v : Int) <= 4294967295 := by omega
   have hyb : (y : Int) <= 4294967295 := by omega
   have hZb : (Z : Int) <= 18446744069414584320 := by omega
   have HStep := vv (hM.step hqn)
   have HZ := vv hZ
   have HRs : Hid ((wr.setCell ⟨g, q, none⟩ (.int .u32 ((Z : Int) % 4294967296))).ownsRow B 34 1 (.slice (some ⟨g, 0, none⟩) U.length cap) U.length (u32s (L.set q (Z % 4294967296)))) := vv (by
    have := row_set hrow q (Z % 4294967296)
    rw [Int.natCast_emod] at this
    exact this)
   have HBs := vv (hB.setCell (p := ⟨g, q, none⟩) (show B <= g by omega) (.int .u32 ((Z : Int) % 4294967296)))
   have hqi : (q : Int) < (U.length : Int) := by omega
   clear hM hrow hB hys hul2 hcr hZ hyy hv hMu
   go_wp2
   go_roundw
   case rel =>
    refine ⟨q + 1, L.set q (Z % 4294967296), by omega, by go_num, congrArg _ ?_, ?_, HRs.out, HBs.out⟩
    ·rw [<- mS_div, <- HZ.out]; omega
    ·rw [HZ.out]; exact HStep.out
   case measure => simp [intOf]; omega
  ·have hqe : q = U.length := by omega
   subst hqe
   obtain ⟨S, hS⟩ := yx (val U * m + c)
   have hfin := HM.out.fin
   have hall := mS_all U m c
   rw [<- hS] at hfin hall
   have HSe := vv hS
   rw [hall] at hys ⊢
   have HLl := vv HM.out.len
   have HTot := vv (Nat.div_add_mod S (4294967296 ^ U.length))
   obtain ⟨y, hyy⟩ := yx (S / 4294967296 ^ U.length)
   rw [<- hyy] at hys HTot ⊢
   rw [<- hfin] at HTot
   have HLm := vv HM.out.lim
   have hyb : (y : Int) <= 4294967295 := by omega
   clear hall hfin hyy hS hys
   by_cases hy0 : 0 < y
   ·have HUl := vv (show (U.length : Int) <= 1000000000 from hUi)
    clear hM hrow hB
    go_wp2_with (at_builtin; refine wpList_append_own _ rfl _ _ 26 rfl B 34 i0 (.int .u32 0) 1 4 Tryz.underlying26 hi hz0 hz1 hz2 rfl (by decide) _ U.length (u32s L) rfl (HRq.out.alloc _) ⟨wr.heap.size, 0, none⟩ 1 1 [.int .u32 (y : Int)] rfl rfl (cell_one_new _ _ _) (by simp [Value.oneCell']) (by unfold maxLen; omega) (by omega) (by have := HBq.out.size; have := HBs.out; simp; omega) ?_)
    intro v' w5 hown1 hgrow1 _
    have hrow1 : w5.ownsRow B 34 1 v' (U.length + 1) (u32s (L ++ [y])) := by
     have e : u32s (L ++ [y]) = u32s L ++ [.int .u32 (y : Int)] := by simp [u32s]
     rw [e]; exact hown1
    have hgb := HRq.out.lt
    have hb1 : Below B w w5 := by
     have hle : B <= wr.heap.size := Nat.le_trans HBs.out HBq.out.size
     exact (HBq.out.alloc hle _).grown hgrow1 (by simp; omega) (fun k h => (hgb k h).1)
    have HR1 := vv hrow1
    have HB1 := vv hb1
    clear hown1 hgrow1 hrow1 hb1 hgb
    go_wp2
    go_ret
    refine ⟨v', L ++ [y], rfl, ?_, Lim_append.2 ⟨HLm.out, Lim_cons.2 ⟨by omega, Lim_nil⟩⟩, ?_, by rw [List.length_append, HLl.out]; exact Nat.le_refl _, HB1.out⟩
    ·rw [List.length_append, HLl.out]; exact HR1.out
    ·rw [val_snoc, HLl.out, Nat.add_comm, <- HSe.out]; exact HTot.out
   ·have hyz : y = 0 := by omega
    subst hyz
    clear hy0 hM hrow hB
    go_wp2
    go_ret
    refine ⟨_, L, rfl, by rw [HLl.out]; exact HRq.out, HLm.out, ?_, by rw [HLl.out]; omega, HBq.out⟩
    have := HTot.out
    rw [Nat.mul_zero, Nat.zero_add] at this
    rw [<- HSe.out]; exact this
def fig (d : Nat) : Nat := if d < 10 then 48 + d else 87 + d
theorem worth_low (c : Nat) (w : World) (h1 : 48 <= c) (h2 : c <= 57) : Calls Tryz.prog 392 #[.int .u8 (c : Int)] w fun e w' => e = .returned (.int .u32 ((c : Int) - 48)) /\ w = w' := by
 have h1i : (48 : Int) <= (c : Int) := by omega
 have h2i : (c : Int) <= 57 := by omega
 go_enter Tryz.func392, Tryz.ntmps392
 go_wp2
 go_ret
 exact ⟨rfl, rfl⟩
theorem worth_high (c : Nat) (w : World) (h1 : 97 <= c) (h2 : c <= 122) : Calls Tryz.prog 392 #[.int .u8 (c : Int)] w fun e w' => e = .returned (.int .u32 ((c : Int) - 87)) /\ w = w' := by
 have h1i : (97 : Int) <= (c : Int) := by omega
 have h2i : (c : Int) <= 122 := by omega
 go_enter Tryz.func392, Tryz.ntmps392
 go_wp2
 go_ret
 exact ⟨retI (by omega), rfl⟩
theorem worth (d : Nat) (w : World) (h : d < 16) : Calls Tryz.prog 392 #[.int .u8 ((fig d : Nat) : Int)] w fun e w' => e = .returned (.int .u32 (d : Int)) /\ w = w' := by
 unfold fig
 split
 ·refine (worth_low (48 + d) w (by omega) (by omega)).mono ?_
  rintro e w' ⟨rfl, rfl⟩
  exact ⟨retI (by omega), rfl⟩
 ·refine (worth_high (87 + d) w (by omega) (by omega)).mono ?_
  rintro e w' ⟨rfl, rfl⟩
  exact ⟨retI (by omega), rfl⟩
theorem Rsh (g o gx ox k : Nat) (v u : Int) (w : World) (h : IntAt w g o v) (hx : IntAt w gx ox u) (hu : 0 <= u) (hk : k < 1000000000000) :
  Calls Tryz.prog 266 #[.pointer (some ⟨g, o, none⟩), .pointer (some ⟨gx, ox, none⟩), .int .u64 (k : Int)] w (SetPost g o (u / 2 ^ k) w) := by
 have HI := vv h
 have hlx := hx.lt
 obtain ⟨A, n, c, h0, h1, hr, hz⟩ := hx.ex
 have hd : decide (u < 0) = false := decide_eq_false (by omega)
 rw [hd] at h0
 have hk2 : IntKind.i64.wrap (k : Int) = (k : Int) := by rw [IntKind.wrap_i64]; omega
 have HM := vv (down A n c _ k _ rfl w hr (by omega))
 have HU : Hid ((u / 2 ^ k).natAbs = u.natAbs / 2 ^ k) := vv (by
  obtain ⟨N, rfl⟩ : ∃ N : Nat, u = (N : Int) := ⟨u.toNat, by omega⟩
  have : ((N : Int) / 2 ^ k) = ((N / 2 ^ k : Nat) : Int) := by rw [Int.natCast_ediv, Int.natCast_pow]; rfl
  rw [this]; rfl)
 have HP : Hid (0 <= u / 2 ^ k) := vv (Int.ediv_nonneg hu (by
  have : (0 : Int) < 2 ^ k := by exact_mod_cast Nat.pow_pos (n := k) (show 0 < 2 by decide)
  omega))
 clear hr hz h hx hk hu hd
 go_enter Tryz.func266, Tryz.ntmps266
 go_wp2_with fail
 refine HM.out.mono ?_
 rintro e w1 ⟨A', m', c', rfl, hR, hFr, hB⟩
 have HB := vv hB
 have j0 := (hB.cell (p := ⟨gx, ox, none⟩) hlx).trans h0
 have j1 := (hB.cell (p := ⟨gx, ox + 1, none⟩) hlx).trans h1
 rw [val_toL] at hR
 have HR := vv hR
 have HF := vv hFr
 have hl1 : gx < w1.heap.size := Nat.lt_of_lt_of_le hlx hB.size
 clear hR hFr hB h0 h1 hlx
 go_wp2_with fail
 refine (set_of g o v (u / 2 ^ k) _ A' m' c' (u.natAbs / 2 ^ k) _ (HI.out.below HB.out) HR.out (fun a e => (HF.out a e).2) HU.out (sg_pos HP.out)).mono ?_
 rintro e w2 ⟨rfl, hI, hF⟩
 go_wp2
 go_ret
 exact ⟨rfl, hI, (Fm.of_below HB.out HI.out.lt).trans hF⟩
theorem TrailingZeroBits (g o : Nat) (u : Int) (w : World) (h : IntAt w g o u) (hu : u ≠ 0) (hs : Std w) :
  Calls Tryz.prog 339 #[.pointer (some ⟨g, o, none⟩)] w fun e w' => e = .returned (.int .u64 ((tz u.natAbs : Nat) : Int)) /\ w = w' := by
 have hlx := h.lt
 obtain ⟨A, n, c, h0, h1, hr, hz⟩ := h.ex
 have HZ := vv (zeros A n c u.natAbs w hr (by omega) hs)
 have hb : (tz u.natAbs : Int) < 18446744073709551616 := by
  have h1 := tz_lt_bl (n := u.natAbs) (by omega)
  have h2 := bl_words u.natAbs
  have h3 := hr.words
  have h4 := hr.sm
  omega
 have hw : IntKind.u64.wrap ((tz u.natAbs : Nat) : Int) = ((tz u.natAbs : Nat) : Int) := by rw [IntKind.wrap_u64]; omega
 clear hr hz h hs hu
 go_enter Tryz.func339, Tryz.ntmps339
 go_wp2_with fail
 refine HZ.out.mono ?_
 rintro e w1 ⟨rfl, rfl⟩
 go_wp2
 go_ret
 exact ⟨rfl, rfl⟩
def wv (l : List Nat) : Nat := l.foldl (fun n d => 16 * n + d) 0
theorem wv_from (l : List Nat) : ∀ n, l.foldl (fun n d => 16 * n + d) n = n * 16 ^ l.length + wv l := by
 induction l with
 | nil => intro n; simp [wv]
 | cons a l ih =>
  intro n
  show l.foldl _ (16 * n + a) = _
  unfold wv
  rw [ih, List.foldl_cons, ih (16 * 0 + a), List.length_cons, Nat.pow_succ]
  rw [Nat.add_mul, Nat.mul_zero, Nat.zero_add, Nat.add_assoc, Nat.mul_comm 16 n, Nat.mul_assoc, Nat.mul_comm 16]
theorem wv_append (a b : List Nat) : wv (a ++ b) = wv a * 16 ^ b.length + wv b := by
 unfold wv
 rw [List.foldl_append]
 exact wv_from b _
theorem wv_snoc (a : List Nat) (d : Nat) : wv (a ++ [d]) = 16 * wv a + d := by
 rw [wv_append, List.length_singleton, Nat.pow_one, Nat.mul_comm]
 show _ + (16 * 0 + d) = _
 omega
theorem wv_lt {l : List Nat} (h : ∀ d ∈ l, d < 16) : wv l < 16 ^ l.length := by
 have : ∀ l : List Nat, (∀ d ∈ l, d < 16) -> wv l < 16 ^ l.length := by
  intro l
  induction l with
  | nil => intro _; decide
  | cons a l ih =>
   intro h
   have h1 := ih fun d hd => h d (List.mem_cons_of_mem _ hd)
   have h2 := h a List.mem_cons_self
   have e := wv_append [a] l
   rw [List.singleton_append] at e
   rw [e, List.length_cons, Nat.pow_succ]
   have e2 : wv [a] = a := by show 16 * 0 + a = a; omega
   rw [e2]
   have h3 : a * 16 ^ l.length <= 15 * 16 ^ l.length := Nat.mul_le_mul_right _ (by omega)
   omega
 exact this l h
structure Hexs (s : ByteArray) (l : List Nat) : Prop where
 len : s.size = l.length
 at_ : ∀ i (h : i < s.size), (s[i]'h).toNat = fig (l.getD i 0)
 small : ∀ i, l.getD i 0 < 16
theorem Hexs.mem {s : ByteArray} {l : List Nat} (h : Hexs s l) : ∀ d ∈ l, d < 16 := by
 intro d hd
 obtain ⟨i, hi, rfl⟩ := List.mem_iff_getElem.1 hd
 have := h.small i
 rwa [List.getD_eq_getElem?_getD, List.getElem?_eq_getElem hi] at this
theorem Hexs.cut {s t : ByteArray} {l : List Nat} (h : Hexs s l) {a b : Nat} (ht : t.data.toList = (s.data.toList.drop a).take b) : Hexs t ((l.drop a).take b) := by
 have hs : t.size = min b (s.size - a) := by rw [<- ba_len, ht, List.length_take, List.length_drop, ba_len]
 refine ⟨by rw [hs, List.length_take, List.length_drop, h.len], fun i hi => ?_, fun i => ?_⟩
 ·have a1 : t.data.toList[i]? = s.data.toList[a + i]? := by rw [ht, List.getElem?_take, if_pos (by omega), List.getElem?_drop]
  rw [List.getElem?_eq_getElem (by rw [ba_len]; exact hi), List.getElem?_eq_getElem (by rw [ba_len]; omega)] at a1
  have a2 : t[i] = s[a + i]'(by omega) := Option.some.inj a1
  rw [a2, h.at_ (a + i) (by omega)]
  rw [List.getD_eq_getElem?_getD, List.getD_eq_getElem?_getD, List.getElem?_take, if_pos (by omega), List.getElem?_drop]
 ·rw [List.getD_eq_getElem?_getD, List.getElem?_take]
  split
  ·rw [List.getElem?_drop, <- List.getD_eq_getElem?_getD]; exact h.small _
  ·decide
theorem one_row (w : World) : Rd (w.alloc (.cells #[.int .u32 1] 34)) (some ⟨w.heap.size, 0, none⟩) 1 1 [1] :=
 (Own.lit (t := 34) [1] (Lim_cons.2 ⟨by omega, Lim_nil⟩) rfl).rd rfl (Nat.le_refl _) (by decide)
theorem and_i64 (h j : Nat) : (bits .and .i64 ((h : Int) / 2 ^ j) 1 == 1) = decide (h / 2 ^ j % 2 = 1) := by
 rw [nat_shr]
 have e : bits .and .i64 ((h / 2 ^ j : Nat) : Int) 1 = ((h / 2 ^ j % 2 : Nat) : Int) := by
  generalize h / 2 ^ j = n
  have h127 : (BitVec.ofInt 64 1).toNat = 2 ^ 1 - 1 := by decide
  have key : (BitVec.ofInt 64 (n : Int) &&& BitVec.ofInt 64 1).toNat = ((n : Int) % ((2 ^ 64 : Nat) : Int)).toNat % 2 ^ 1 := by
   rw [BitVec.toNat_and, BitVec.toNat_ofInt, h127, Nat.and_two_pow_sub_one_eq_mod]
  show IntKind.i64.wrap ((BitVec.ofInt 64 (n : Int) &&& BitVec.ofInt 64 1).toNat : Nat) = _
  rw [key, IntKind.wrap_i64]
  omega
 rw [e]
 rcases Nat.mod_two_eq_zero_or_one (h / 2 ^ j) with h | h <;> rw [h] <;> rfl
theorem sixteen_words (n : Nat) (h : n <= 131072) {A : Option Addr} {m c : Nat} {w : World} (hr : Rd w A m c (toL (16 ^ n))) : m <= 16385 := by
 obtain ⟨k, hk⟩ := yx (16385)
 rw [<- hk]
 refine hr.bound (k := k) ?_
 have e : (4294967296 : Nat) ^ k = 2 ^ (32 * k) := by rw [Nat.pow_mul]
 have e2 : (16 : Nat) ^ n = 2 ^ (4 * n) := by rw [Nat.pow_mul]
 rw [e, e2]
 exact Nat.pow_lt_pow_right (by decide) (by omega)
theorem sq_next (h j : Nat) : 16 ^ (h / 2 ^ j) = 16 ^ (h / 2 ^ (j + 1)) * 16 ^ (h / 2 ^ (j + 1)) * 16 ^ (h / 2 ^ j % 2) := by
 have e := div_pow_succ h j
 have e2 : h / 2 ^ j = h / 2 ^ (j + 1) + h / 2 ^ (j + 1) + h / 2 ^ j % 2 := by omega
 conv => lhs; rw [e2]
 rw [Nat.pow_add, Nat.pow_add]
def PwAt (h : Nat) (w : World) (v q : Value) (wr : World) : Prop :=
 ∃ (k : Nat) (A : Option Addr) (m c : Nat), q = .int .i64 ((k : Int) - 1) /\ k <= 63 /\ v = .slice A m c /\ Rd wr A m c (toL (16 ^ (h / 2 ^ k))) /\ Fr w.heap.size A /\ Below w.heap.size w wr
theorem square {A : Option Addr} {m c P : Nat} {w : World} (hR : Rd w A m c (toL P)) (hm : m <= 20000) : Calls Tryz.prog 292 #[.slice A m c, .slice A m c] w (AddPost (P * P) w) := by
 have := mulWords A A m m c c _ _ w hR hR (by omega)
 rwa [val_toL] at this
theorem by16 {A : Option Addr} {m c P : Nat} {w : World} (hR : Rd w A m c (toL P)) (hm : m <= 20000) :
  Calls Tryz.prog 292 #[.slice A m c, .slice (some ⟨w.heap.size, 0, none⟩) 1 1] (w.alloc (.cells #[.int .u32 16] 34)) (AddPost (P * 16) w) := by
 have hb : Below w.heap.size w (w.alloc (.cells #[.int .u32 16] 34)) := (Below.refl _ _).alloc (Nat.le_refl _) _
 have h2 : Rd (w.alloc (.cells #[.int .u32 16] 34)) (some ⟨w.heap.size, 0, none⟩) 1 1 [16] := (Own.lit (t := 34) [16] (Lim_cons.2 ⟨by omega, Lim_nil⟩) rfl).rd rfl (Nat.le_refl _) (by decide)
 refine (mulWords A _ m 1 c 1 _ _ _ (hR.below hb rfl) h2 (by omega)).mono ?_
 rintro e w' ⟨A', m', c', rfl, hr, hf, hB⟩
 rw [val_toL] at hr
 exact ⟨A', m', c', rfl, hr, hf.mono (by simp), hb.trans (hB.mono (by simp))⟩
set_option maxRecDepth 100000 in
set_option maxHeartbeats 4000000 in
theorem power (h : Nat) (w : World) (hh : h <= 65536) :
  Calls Tryz.prog 391 #[.int .i64 16, .int .i64 (h : Int)] w (AddPost (16 ^ h) w) := by
 have hhi : (h : Int) <= 65536 := by omega
 have HE : Hid (∀ k, h / 2 ^ k <= 65536) := vv fun k => Nat.le_trans (Nat.div_le_self _ _) hh
 have H0 : Hid (PwAt h w (.slice (some ⟨w.heap.size, 0, none⟩) 1 1) (.int .i64 62) (w.alloc (.cells #[.int .u32 1] 34))) := vv (by
  refine ⟨63, _, _, _, rfl, by decide, rfl, ?_, Fr.at_ (Nat.le_refl _), (Below.refl _ _).alloc (Nat.le_refl _) _⟩
  rw [Nat.div_eq_of_lt (Nat.lt_of_le_of_lt hh (by decide))]
  exact one_row w)
 go_enter Tryz.func391, Tryz.ntmps391
 go_wp2
 go_loopw [5, 6] (fun v q wr => PwAt h w v q wr) (fun _ q _ => (intOf q + 1).toNat)
 case atStart => exact H0.out
 case round =>
  obtain ⟨k, A, m, c, rfl, hk, rfl, hr, hF, hB⟩ := hrel
  have hms := sixteen_words _ (by have := HE.out k; omega) hr
  have HR := vv hr
  have HF := vv hF
  have HB := vv hB
  rcases Nat.eq_zero_or_pos k with rfl | hkp
  ·rw [Nat.pow_zero, Nat.div_one] at HR
   clear hr hF hB H0
   go_wp2
   go_ret
   exact ⟨_, _, _, rfl, HR.out, HF.out, HB.out⟩
  ·obtain ⟨j, rfl⟩ : ∃ j, k = j + 1 := ⟨k - 1, by omega⟩
   have hjk : ((j + 1 : Nat) : Int) - 1 = (j : Int) := by omega
   rw [hjk]
   have hj62 : (j : Int) <= 62 := by omega
   have HSq := vv (sq_next h j)
   obtain ⟨P, hP⟩ := yx (16 ^ (h / 2 ^ (j + 1)))
   rw [<- hP] at HR HSq
   have hpos : 0 < P := by rw [hP]; exact Nat.pow_pos (by decide)
   have HQ : Hid (∀ {A : Option Addr} {m c : Nat} {w : World}, Rd w A m c (toL (P * P)) -> m <= 20000) := vv fun hr => by
    rw [hP, <- Nat.pow_add] at hr
    exact Nat.le_trans (sixteen_words _ (by have := HE.out (j + 1); omega) hr) (by decide)
   have HM : Hid (((j : Int) - 1 + 1).toNat < ((j : Int) + 1).toNat) := vv (by omega)
   have HNext : Hid (∀ (A : Option Addr) (m c b : Nat) (wr : World), h / 2 ^ j % 2 = b -> Rd wr A m c (toL (P * P * 16 ^ b)) -> Fr w.heap.size A -> Below w.heap.size w wr -> PwAt h w (.slice A m c) (.int .i64 ((j : Int) - 1)) wr) := vv fun A m c b wr e hr hF hB => ⟨j, A, m, c, rfl, by omega, rfl, by rw [HSq.out, e]; exact hr, hF, hB⟩
   have HBit := vv (and_i64 h j)
   have hm0 : 0 < m := by
    rcases Nat.eq_zero_or_pos m with e | e
    ·subst e
     have := HR.out.words
     rw [words_eq_zero] at this; omega
    ·exact e
   obtain ⟨b, off, rfl, hbl, hcell⟩ := HR.out.cell hm0
   have hc0 := hcell 0 hm0
   rw [Nat.add_zero] at hc0
   have hbit : (h / 2 ^ j % 2 = 0 /\ (bits .and .i64 ((h : Int) / 2 ^ j) 1 == 1) = false) \/ (h / 2 ^ j % 2 = 1 /\ (bits .and .i64 ((h : Int) / 2 ^ j) 1 == 1) = true) := by
    rw [HBit.out]
    rcases Nat.mod_two_eq_zero_or_one (h / 2 ^ j) with e | e <;> rw [e]
    ·exact .inl ⟨rfl, rfl⟩
    ·exact .inr ⟨rfl, rfl⟩
   have hcase : (P = 1 /\ m = 1 /\ nth (toL P) 0 = 1) \/ (m = 1 /\ 1 < nth (toL P) 0) \/ 1 < m := by
    rcases (by omega : 1 < m \/ m = 1) with e | e
    ·exact .inr (.inr e)
    ·have hw := HR.out.words
     rw [e] at hw
     have hn : nth (toL P) 0 = P := by
      have h1 := val_toL P
      have h2 : (toL P).length = 1 := HR.out.len.trans e
      obtain ⟨x, hx⟩ : ∃ x, toL P = [x] := List.length_eq_one_iff.1 h2
      rw [hx] at h1 ⊢
      have : val [x] = x := by simp [val]
      rw [this] at h1
      rw [h1]; rfl
     rcases (by omega : P = 1 \/ 1 < P) with e1 | e1
     ·exact .inl ⟨e1, e, hn.trans e1⟩
     ·exact .inr (.inl ⟨e, by omega⟩)
   clear hr hF hB hcell hP H0 hpos hm0
   have HSqr := vv (square HR.out (by omega))
   rcases hcase with ⟨rfl, rfl, hn⟩ | ⟨rfl, hn⟩ | hm1
   ·rw [hn] at hc0
    have HR2 : Hid (Rd wr (some ⟨b, off, none⟩) 1 c (toL (1 * 1))) := HR
    clear hn
    rcases hbit with ⟨hb0, hb1⟩ | ⟨hb0, hb1⟩
    ·have HB0 := vv hb0
     clear hb0
     go_wp2
     go_roundw
     case rel => exact HNext.out _ _ _ 0 _ HB0.out HR2.out HF.out HB.out
     case measure => exact HM.out
    ·have HB0 := vv hb0
     have HMul := vv (by16 HR2.out (by omega))
     clear hb0
     go_wp2_with fail
     refine HMul.out.mono ?_
     rintro e w1 ⟨A1, m1, c1, rfl, hR1, hF1, hB1⟩
     have H1 := vv (HNext.out _ _ _ 1 _ HB0.out hR1 (hF1.mono HB.out.size) (HB.out.trans (hB1.mono HB.out.size)))
     clear hR1 hF1 hB1
     go_wp2
     go_roundw
     case rel => exact H1.out
     case measure => exact HM.out
   all_goals
    first
     | (have hi2 : (1 : Int) < ((nth (toL P) 0 : Nat) : Int) := by omega)
     | (have hi2 : (1 : Int) < (m : Int) := by omega)
    rcases hbit with ⟨hb0, hb1⟩ | ⟨hb0, hb1⟩
    ·have HB0 := vv hb0
     clear hb0
     go_wp2_with fail
     refine HSqr.out.mono ?_
     rintro e w1 ⟨A1, m1, c1, rfl, hR1, hF1, hB1⟩
     have H1 := vv (HNext.out _ _ _ 0 _ HB0.out (by rw [Nat.pow_zero, Nat.mul_one]; exact hR1) (hF1.mono HB.out.size) (HB.out.trans (hB1.mono HB.out.size)))
     clear hR1 hF1 hB1
     go_wp2
     go_roundw
     case rel => exact H1.out
     case measure => exact HM.out
    ·have HB0 := vv hb0
     clear hb0
     go_wp2_with fail
     refine HSqr.out.mono ?_
     rintro e w1 ⟨A1, m1, c1, rfl, hR1, hF1, hB1⟩
     have HF1 := vv (hF1.mono HB.out.size)
     have HB1 := vn HB hB1
     have HMul := vv (by16 hR1 (HQ.out hR1))
     clear hR1 hF1 hB1
     go_wp2_with fail
     refine HMul.out.mono ?_
     rintro e w2 ⟨A2, m2, c2, rfl, hR2, hF2, hB2⟩
     have H1 := vv (HNext.out _ _ _ 1 _ HB0.out hR2 (hF2.mono HB1.out.size) (HB1.out.trans (hB2.mono HB1.out.size)))
     clear hR2 hF2 hB2
     go_wp2
     go_roundw
     case rel => exact H1.out
     case measure => exact HM.out
theorem wv_take_snoc (l : List Nat) (k : Nat) (h : k < l.length) : wv (l.take (k + 1)) = 16 * wv (l.take k) + nth l k := by
 rw [List.take_succ_eq_append_getElem h, wv_snoc]
 unfold nth
 rw [List.getD_eq_getElem?_getD, List.getElem?_eq_getElem h]; rfl
theorem row_rd {w : World} {base : Nat} {e : TypeId} {A : Option Addr} {n c : Nat} {L : List Nat} (h : w.ownsRow base e 1 (.slice A n c) n (u32s L)) (hl : Lim L) (hn : n <= 1099511627776) : Rd w A n c L /\ Fr base A := by
 have hlen : L.length = n := by have := h.1; simpa [u32s] using this
 rcases h.2 with ⟨h2, rfl⟩ | ⟨g, cap, cur, hv, hb, hg, hc, hm, hs, ht⟩
 ·cases h2
  exact ⟨⟨hlen, Nat.le_refl _, hn, hl, fun h => absurd h (by omega)⟩, Fr.none_ _⟩
 ·cases hv
  exact ⟨⟨hlen, hc, hn, hl, fun _ => ⟨g, 0, rfl, (Array.getElem?_eq_some_iff.1 hg).1, fun j hj => by rw [Nat.zero_add]; exact (row_cell h hj).1⟩⟩, Fr.at_ hb⟩
def RdInv (l : List Nat) (n : Nat) (B : Nat) (w : World) (v t c i : Value) (wr : World) : Prop :=
 ∃ (k T C : Nat) (L : List Nat), i = .int .i64 (k : Int) /\ k <= n /\ t = .int .u32 (T : Int) /\ c = .int .u32 (C : Int) /\ 1 <= T /\ (T <= 1048576 \/ T = 16777216) /\ C < T /\ (∃ j, T = 16 ^ j) /\ (k = n -> T = 1) /\
  wr.ownsRow B 34 1 v L.length (u32s L) /\ Lim L /\ val L * T + C = wv (l.take k) /\ L.length <= k /\ Below B w wr
theorem pow16_next {T j : Nat} (h : T = 16 ^ j) (hT : T <= 1048576) : 16 * T <= 1048576 \/ 16 * T = 16777216 := by
 subst h
 have : j <= 5 := by
  rcases Nat.lt_or_ge 5 j with h | h
  ·have := Nat.pow_le_pow_right (n := 16) (by decide) h
   have e : 16 ^ (5 + 1) = 16777216 := by decide
   omega
  ·exact h
 rcases (by omega : j = 0 \/ j = 1 \/ j = 2 \/ j = 3 \/ j = 4 \/ j = 5) with rfl | rfl | rfl | rfl | rfl | rfl <;> decide
def ReadPost (N n : Nat) (w : World) (e : Ending) (w' : World) : Prop :=
 ∃ A m c xs, e = .returned (.tuple #[.slice A m c, .bool true]) /\ Rd w' A m c xs /\ val xs = N /\ m <= n /\ Fr w.heap.size A /\ Below w.heap.size w w'
set_option maxRecDepth 100000 in
set_option maxHeartbeats 4000000 in
theorem read_short (s : ByteArray) (l : List Nat) (w : World) (h : Hexs s l) (hs : s.size <= 300) :
  Calls Tryz.prog 377 #[.string s, .int .i64 16] w (ReadPost (wv l) s.size w) := by
 have H := vv h
 have hsi : (s.size : Int) <= 300 := by omega
 have hs0 : decide ((300 : Int) < (s.size : Int)) = false := decide_eq_false (by omega)
 have HL := vv h.len
 have H0 : Hid (RdInv l s.size w.heap.size w (.slice none 0 0) (.int .u32 1) (.int .u32 0) (.int .i64 0) w) := vv ⟨0, 1, 0, [], rfl, Nat.zero_le _, rfl, rfl, Nat.le_refl _, .inl (by decide), by decide, ⟨0, rfl⟩, fun _ => rfl, World.ownsRow_nil _ _ _ _, Lim_nil, rfl, Nat.zero_le _, Below.refl _ _⟩
 clear h hs
 go_enter Tryz.func377, Tryz.ntmps377
 go_wp2
 go_loopw [11, 12, 13, 14] (fun v t c i wr => RdInv l s.size w.heap.size w v t c i wr) (fun _ _ _ i _ => s.size - (intOf i).toNat)
 case atStart => exact H0.out
 case round =>
  clear H0
  obtain ⟨k, T, C, L, rfl, hk, rfl, rfl, hT1, hT, hC, hj, hend, hrow, hlim, hval, hlen, hB⟩ := hrel
  have HRow := vv hrow
  have HLim := vv hlim
  have HVal := vv hval
  have HB := vv hB
  have HJ := vv hj
  have HEnd := vv hend
  have hBs := hB.size
  clear hrow hlim hval hB hj hend
  by_cases hks : k < s.size
  ·have hf := H.out.at_ k hks
   have hd16 := H.out.small k
   have hsn := wv_take_snoc l k (by have := HL.out; omega)
   obtain ⟨d, hd⟩ := yx (nth l k)
   rw [show l.getD k 0 = d from hd.symm] at hf hd16
   rw [<- hd] at hsn
   have HW := vv fun w => worth d w hd16
   rw [<- hf] at HW
   have HSn := vv hsn
   have hdi : (d : Int) <= 15 := by omega
   have hTi : (T : Int) <= 16777216 := by omega
   have hT1i : (1 : Int) <= (T : Int) := by omega
   have hCi : (C : Int) < (T : Int) := by omega
   have hki : (k : Int) < (s.size : Int) := by omega
   clear hf hsn hd hd16
   have HFl : Hid (∀ (v' : Value) (L' : List Nat) (w' : World), w'.ownsRow w.heap.size 34 1 v' L'.length (u32s L') -> Lim L' -> val L' = val L * (16 * T) + (16 * C + d) -> L'.length <= L.length + 1 -> Below w.heap.size wr w' -> RdInv l s.size w.heap.size w v' (.int .u32 1) (.int .u32 0) (.int .i64 ((k : Int) + 1)) w') := vv fun v' L' w' h1 h2 h3 h4 h5 =>
    ⟨k + 1, 1, 0, L', by go_num, by omega, rfl, rfl, Nat.le_refl _, .inl (by decide), by decide, ⟨0, rfl⟩, fun _ => rfl, h1, h2, by
     rw [HSn.out, <- HVal.out, h3, Nat.mul_add, Nat.mul_one, Nat.add_zero, Nat.mul_left_comm]; omega, by omega, HB.out.trans h5⟩
   obtain ⟨M, hM⟩ := yx (T * 16)
   obtain ⟨N, hN⟩ := yx (C * 16 + d)
   have hMN : N < M := by omega
   have hM2 : M <= 268435456 := by omega
   have HM := vv (mulSmall w.heap.size _ L M N wr HRow.out HLim.out (by omega) hMN (by omega) hBs)
   have HFl2 : Hid (∀ (v' : Value) (L' : List Nat) (w' : World), w'.ownsRow w.heap.size 34 1 v' L'.length (u32s L') -> Lim L' -> val L' = val L * M + N -> L'.length <= L.length + 1 -> Below w.heap.size wr w' -> RdInv l s.size w.heap.size w v' (.int .u32 1) (.int .u32 0) (.int .i64 ((k : Int) + 1)) w') := vv fun v' L' w' h1 h2 h3 h4 h5 => HFl.out v' L' w' h1 h2 (by rw [h3, hM, hN, Nat.mul_comm T, Nat.mul_comm C]) h4 h5
   have hMe : (T : Int) * 16 = (M : Int) := by omega
   have hNe : (C : Int) * 16 + (d : Int) = (N : Int) := by omega
   have hMi : (M : Int) <= 268435456 := by omega
   have hNi : (N : Int) < (M : Int) := by omega
   have hM6 : T = 16777216 /\ M = 268435456 \/ M <= 16777216 := by omega
   have HNxt : Hid (M <= 268435455 -> k + 1 < s.size -> RdInv l s.size w.heap.size w u11 (.int .u32 (M : Int)) (.int .u32 (N : Int)) (.int .i64 ((k : Int) + 1)) wr) := vv fun h1 h2 =>
    ⟨k + 1, M, N, L, by go_num, by omega, rfl, rfl, by omega, by
     obtain ⟨j, hj⟩ := HJ.out
     have := pow16_next hj (by omega)
     omega, hMN, by
     obtain ⟨j, hj⟩ := HJ.out
     exact ⟨j + 1, by rw [hM, hj, Nat.pow_succ]⟩, fun e => by omega, HRow.out, HLim.out, by
     rw [HSn.out, <- HVal.out, hM, hN, Nat.mul_add, <- Nat.mul_assoc, Nat.mul_comm _ 16]; omega, by omega, HB.out⟩
   clear hT hT1 hM hN hMN HFl
   have hfl : (268435455 < M) \/ (M <= 268435455 /\ k + 1 = s.size) \/ (M <= 268435455 /\ k + 1 < s.size) := by omega
   rcases hfl with h | h | h
   ·have h1 : (268435455 : Int) < (M : Int) := by omega
    clear h hM6 hM2
    go_wp2_with fail
    refine (HW.out _).mono ?_
    rintro e w1 ⟨rfl, rfl⟩
    go_wp2_with fail
    refine HM.out.mono ?_
    rintro e w2 ⟨v', L', rfl, h1, h2, h3, h4, h5⟩
    have HI := vv (HFl2.out v' L' w2 h1 h2 h3 h4 h5)
    clear h1 h2 h3 h4 h5
    go_wp2
    go_roundw
    case rel => exact HI.out
    case measure => simp [intOf]; omega
   ·have h1 : (M : Int) <= 268435455 := by omega
    have h2 : ((k : Int) == (s.size : Int) - 1) = true := by rw [beq_iff_eq]; omega
    clear h hM6 hM2
    go_wp2_with fail
    refine (HW.out _).mono ?_
    rintro e w1 ⟨rfl, rfl⟩
    go_wp2_with fail
    refine HM.out.mono ?_
    rintro e w2 ⟨v', L', rfl, h1, h2, h3, h4, h5⟩
    have HI := vv (HFl2.out v' L' w2 h1 h2 h3 h4 h5)
    clear h1 h2 h3 h4 h5
    go_wp2
    go_roundw
    case rel => exact HI.out
    case measure => simp [intOf]; omega
   ·have h1 : (M : Int) <= 268435455 := by omega
    have h2 : ((k : Int) == (s.size : Int) - 1) = false := by rw [beq_eq_false_iff_ne]; omega
    have HI := vv (HNxt.out h.1 h.2)
    clear h hM6 hM2
    go_wp2_with fail
    refine (HW.out _).mono ?_
    rintro e w1 ⟨rfl, rfl⟩
    go_wp2
    go_roundw
    case rel => exact HI.out
    case measure => simp [intOf]; omega
  ·have hke : k = s.size := by omega
   subst hke
   have hT1' := HEnd.out rfl
   subst hT1'
   have hC0 : C = 0 := by omega
   subst hC0
   obtain ⟨A, cap, rfl⟩ := row_any HRow.out
   have HRd := vv (row_rd HRow.out HLim.out (by omega))
   go_wp2
   go_ret2
   exact ⟨A, L.length, cap, L, rfl, HRd.out.1, by
    have := HVal.out
    rw [HL.out, List.take_length, Nat.mul_one, Nat.add_zero] at this
    exact this, hlen, HRd.out.2, HB.out⟩
theorem Hexs.high {s : ByteArray} {l : List Nat} (h : Hexs s l) {k : Nat} (hk : k <= s.size) : Hexs (s.extract 0 k) (l.take k) := by
 have := h.cut (t := s.extract 0 k) (a := 0) (b := k) (by rw [piece, List.drop_zero, List.drop_zero])
 rwa [List.drop_zero] at this
theorem Hexs.low {s : ByteArray} {l : List Nat} (h : Hexs s l) {k : Nat} (hk : k <= s.size) : Hexs (s.extract k s.size) (l.drop k) := by
 have := h.cut (t := s.extract k s.size) (a := k) (b := s.size - k) (by
  rw [piece, List.drop_take])
 rwa [List.take_of_length_le (by rw [List.length_drop, <- h.len]; omega)] at this
set_option maxRecDepth 100000 in
set_option maxHeartbeats 4000000 in
theorem read (n : Nat) : ∀ (s : ByteArray) (l : List Nat) (w : World), s.size <= n -> Hexs s l -> s.size <= 131072 ->
  Calls Tryz.prog 377 #[.string s, .int .i64 16] w (ReadPost (wv l) s.size w) := by
 induction n with
 | zero => intro s l w hn h hs; exact read_short s l w h (by omega)
 | succ n ih =>
  intro s l w hn h hs
  rcases Nat.lt_or_ge 300 s.size with hb | hb
  ·obtain ⟨k, hk⟩ := yx (s.size / 2)
   obtain ⟨c, hc⟩ := yx (s.size - k)
   have hh := h.high (k := c) (by omega)
   have hl := h.low (k := c) (by omega)
   obtain ⟨X, hX⟩ := yx (s.extract 0 c)
   obtain ⟨Y, hY⟩ := yx (s.extract c s.size)
   rw [<- hX] at hh
   rw [<- hY] at hl
   have hXs : X.size = c := by rw [hX, ByteArray.size_extract]; omega
   have hYs : Y.size = k := by rw [hY, ByteArray.size_extract]; omega
   have HX := vv fun w => ih X (l.take c) w (by omega) hh (by omega)
   have HY := vv fun w => ih Y (l.drop c) w (by omega) hl (by omega)
   have HP := vv fun w => power k w (by omega)
   have HV : Hid (wv (l.take c) * 16 ^ k + wv (l.drop c) = wv l) := vv (by
    have := wv_append (l.take c) (l.drop c)
    rw [List.take_append_drop, List.length_drop, <- h.len] at this
    rw [this, show s.size - c = k by omega])
   have HW : Hid (wv l < 4294967296 ^ s.size) := vv (Nat.lt_of_lt_of_le (wv_lt h.mem) (by rw [h.len]; exact Nat.pow_le_pow_left (by decide) _))
   rw [hXs] at HX
   rw [hYs] at HY
   have e1 : s.extract 0 c = X := hX.symm
   have e2 : s.extract c s.size = Y := hY.symm
   have hki : (s.size : Int) / 2 = (k : Int) := by omega
   have hci : (s.size : Int) - (k : Int) = (c : Int) := by omega
   have hsi : (s.size : Int) <= 131072 := by omega
   have hkb : (k : Int) <= 65536 := by omega
   have hcb : (c : Int) <= (s.size : Int) := by omega
   have hb1 : (300 : Int) < (s.size : Int) := by omega
   clear hX hY hXs hYs hh hl hk hc hn h ih
   go_enter Tryz.func377, Tryz.ntmps377
   go_wp2_with fail
   refine (HX.out _).mono ?_
   rintro e w1 ⟨A1, m1, c1, x1, rfl, hR1, hv1, hm1, hF1, hB1⟩
   have HR1 := vv hR1
   have HV1 := vv hv1
   have HB1 := vv hB1
   clear hR1 hv1 hF1 hB1
   go_wp2_with fail
   refine (HY.out _).mono ?_
   rintro e w2 ⟨A2, m2, c2, x2, rfl, hR2, hv2, hm2, hF2, hB2⟩
   have HR1 := vv (HR1.out.below hB2 rfl)
   have HR2 := vv hR2
   have HV2 := vv hv2
   have HB2 := vn HB1 hB2
   clear hR2 hv2 hF2 hB2
   go_wp2_with fail
   refine (HP.out _).mono ?_
   rintro e w3 ⟨A3, m3, c3, rfl, hR3, hF3, hB3⟩
   have hm3 := sixteen_words _ (by omega) hR3
   have HR1 := vv (HR1.out.below hB3 rfl)
   have HR2 := vv (HR2.out.below hB3 rfl)
   have HR3 := vv hR3
   have HB3 := vn HB2 hB3
   have HM := vv (mulWords A1 A3 m1 m3 c1 c3 _ _ w3 HR1.out HR3.out (by omega))
   clear hR3 hF3 hB3
   go_wp2_with fail
   refine HM.out.mono ?_
   rintro e w4 ⟨A4, m4, c4, rfl, hR4, hF4, hB4⟩
   have hm4 : m4 <= m1 + m3 := hR4.bound (by rw [Nat.pow_add]; exact Nat.mul_lt_mul'' HR1.out.lt HR3.out.lt)
   have HR2 := vv (HR2.out.below hB4 rfl)
   have HB4 := vn HB3 hB4
   have HAd := vv (addWords A4 A2 m4 m2 c4 c2 _ _ w4 hR4 HR2.out (by omega) (by omega))
   clear hR4 hF4 hB4
   go_wp2_with fail
   refine HAd.out.mono ?_
   rintro e w5 ⟨A5, m5, c5, rfl, hR5, hF5, hB5⟩
   rw [val_toL, val_toL, HV1.out, HV2.out, HV.out] at hR5
   have HR5 := vv hR5
   have HF5 := vv (hF5.mono HB4.out.size)
   have HB5 := vn HB4 hB5
   clear hR5 hF5 hB5
   go_wp2
   go_ret2
   exact ⟨A5, m5, c5, _, rfl, HR5.out, val_toL _, HR5.out.bound HW.out, HF5.out, HB5.out⟩
  ·exact read_short s l w h hb
set_option maxHeartbeats 1000000 in
theorem SetString (g o : Nat) (v : Int) (s : ByteArray) (l : List Nat) (w : World) (h : IntAt w g o v) (hh : Hexs s l) (h0 : 0 < s.size) (hs : s.size <= 131072) :
  Calls Tryz.prog 338 #[.pointer (some ⟨g, o, none⟩), .string s, .int .i64 16] w fun e w' => e = .returned (.tuple #[.pointer (some ⟨g, o, none⟩), .bool true]) /\ IntAt w' g o (wv l : Int) /\ Fm g o w w' := by
 have HR := vv fun w => read s.size s l w (Nat.le_refl _) hh hs
 have hf := hh.at_ 0 h0
 have hd16 := hh.small 0
 obtain ⟨c, hc⟩ := yx ((s[0]).toNat)
 have hc48 : c ≠ 45 /\ c ≠ 43 := by
  rw [hc, hf]; unfold fig
  split <;> omega
 have t1 : ((c : Int) == 45) = false := by rw [beq_eq_false_iff_ne]; omega
 have t2 : ((c : Int) == 43) = false := by rw [beq_eq_false_iff_ne]; omega
 have hce : (s[0]).toNat = c := hc.symm
 have hs1 : (1 : Int) <= (s.size : Int) := by omega
 have hs2 : (s.size : Int) <= 131072 := by omega
 have hs3 : ((0 : Int) == (s.size : Int)) = false := by rw [beq_eq_false_iff_ne]; omega
 have hx : s.extract 0 s.size = s := ByteArray.extract_zero_size
 have HI := vv h
 clear h hh hf hd16 hc hc48
 go_enter Tryz.func338, Tryz.ntmps338
 go_wp2_with fail
 refine (HR.out _).mono ?_
 rintro e w1 ⟨A, m, c', xs, rfl, hR, hv, hm, hF, hB⟩
 have HB := vv hB
 have HS := vv (set_ g o v (wv l : Int) false A m c' xs w1 (HI.out.below hB) hR (fun a e => (hF a e).2) (by rw [Int.natAbs_natCast, hv]) (by rw [decide_eq_false (by omega)]; rfl))
 clear hR hv hm hF hB
 go_wp2_with fail
 refine HS.out.mono ?_
 rintro e w2 ⟨rfl, hI, hFm⟩
 go_wp2
 go_ret2
 exact ⟨rfl, hI, (Fm.of_below HB.out HI.out.lt).trans hFm⟩
theorem SetString_nil (g o : Nat) (w : World) :
  Calls Tryz.prog 338 #[.pointer (some ⟨g, o, none⟩), .string ⟨#[]⟩, .int .i64 16] w fun e w' => e = .returned (.tuple #[.pointer none, .bool false]) /\ w = w' := by
 go_enter Tryz.func338, Tryz.ntmps338
 go_wp2
 go_ret2
 exact ⟨rfl, rfl⟩
end Go.Proofs.YtddaldghlinokaaGreatDoor.A
namespace Go.Proofs.YtddaldghlinokaaGreatDoor.Nat_
open Go Go.RowKit R5
end Go.Proofs.YtddaldghlinokaaGreatDoor.Nat_
