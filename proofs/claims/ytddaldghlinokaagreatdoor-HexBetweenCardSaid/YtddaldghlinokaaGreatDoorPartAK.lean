/- Lemmas. -/
import Derived.Test.YtddaldghlinokaaGreatDoorPartAI
import Derived.Deep.RegionHeld3
import Derived.Test.YtddaldghlinokaaGreatDoorPartAG
set_option linter.all false
namespace Go.Proofs.YtddaldghlinokaaGreatDoor.B
open Go Go.RowKit
end Go.Proofs.YtddaldghlinokaaGreatDoor.B
namespace Go.Proofs.YtddaldghlinokaaGreatDoor.A
open Go Go.RowKit
theorem mul_long (A B : Option Addr) (n m c d : Nat) (xs ys : List Nat) (w : World)
  (ih : ∀ (A B : Option Addr) (n' m' c d : Nat) (xs ys : List Nat) (w : World), n' + m' < n + m -> Rd w A n' c xs -> Rd w B m' d ys -> Calls Tryz.prog 292 #[.slice A n' c, .slice B m' d] w (AddPost (val xs * val ys) w))
  (ha : Rd w A n c xs) (hb : Rd w B m d ys) (hs : n + m < 1099511627776) (h40 : 40 <= m) (h2 : 2 * m <= n) :
  Calls Tryz.prog 292 #[.slice A n c, .slice B m d] w (AddPost (val xs * val ys) w) := by
 have hmk := mk1 (n + m) hs
 have ec : ((n + m : Nat) : Int) = (n : Int) + (m : Int) := by omega
 rw [ec] at hmk
 clear ec
 have hnc := ha.le
 obtain ⟨b, off, rfl, hbl, _⟩ := ha.cell (by omega)
 have IH := vv ih
 clear ih
 have t1 : decide (n < m) = false := by simp; omega
 have t2 : decide ((m : Int) < 40) = false := by simp; omega
 have t3 : decide (2 * (m : Int) <= (n : Int)) = true := by simp; omega
 go_enter Tryz.func292, Tryz.ntmps292
 go_wp2_with fail
 go_loopw [6] (fun i wr => ∃ (p : Nat) (V : List Nat), i = .int .i64 p /\ p <= n + m /\ V.length = n + m + 1 /\ Own wr w.heap.size 34 V /\ val V = val (xs.take p) * val ys /\ Below w.heap.size w wr) (fun i _ => n + m - (intOf i).toNat)
 case atStart => exact ⟨0, List.replicate (n + m + 1) 0, rfl, Nat.zero_le _, by simp, Own.made _ _ _, by simp [val, val_replicate], (Below.refl _ _).alloc (Nat.le_refl _) _⟩
 case round =>
  obtain ⟨p, V, rfl, hp, hVl, hown, hval, hbel⟩ := hrel
  have HV := vv hval
  have HL := vv hVl
  have HO := vv hown
  have hg := hown.lt
  have hown' := HO
  clear hval hVl hown
  by_cases hpn : p < n
  ·obtain ⟨q, hq1, hq2, hq3⟩ : ∃ q, q <= m /\ p + q <= n /\ (xs.drop p).take m = (xs.drop p).take q /\ (p + m <= n -> q = m) /\ (n < p + m -> q = n - p) := by
    by_cases h : p + m <= n
    ·exact ⟨m, Nat.le_refl _, h, rfl, fun _ => rfl, fun h' => absurd h' (by omega)⟩
    ·refine ⟨n - p, by omega, by omega, ?_, fun h' => absurd h' h, fun _ => rfl⟩
     rw [take_all (by rw [List.length_drop, ha.len]; omega), take_all (by rw [List.length_drop, ha.len]; omega)]
   have hC := vv ((((ha.below hbel rfl).drop (k := p) (by omega)).take (k := q) (by omega)))
   have HQ := vv hq3
   clear hq3
   have fin : ∀ (m' : Nat) (w1 : World) (A1 : Option Addr) (n1 c1 : Nat), Rd w1 A1 n1 c1 (toL (val (toL (val ((xs.drop p).take q))) * val ys)) -> val V + 4294967296 ^ p * (val (toL (val ((xs.drop p).take q))) * val ys) = val (xs.take (p + m)) * val ys /\
     val V + 4294967296 ^ p * (val (toL (val ((xs.drop p).take q))) * val ys) < 4294967296 ^ (n + m + 1) := by
    intro m' w1 A1 n1 c1 _
    have e : val V + 4294967296 ^ p * (val (toL (val ((xs.drop p).take q))) * val ys) = val (xs.take (p + m)) * val ys := by
     rw [HV.out, val_toL, val_take_add, HQ.out.1, Nat.add_mul, Nat.mul_assoc]
    refine ⟨e, ?_⟩
    rw [e]
    have h1 := Nat.mul_le_mul_right (val ys) (val_take_le xs (p + m))
    have h2 := prod_lt ha.lim hb.lim
    rw [ha.len, hb.len] at h2
    have h3 : 4294967296 ^ (n + m) <= 4294967296 ^ (n + m + 1) := Nat.pow_le_pow_right (by omega) (by omega)
    omega
   have Fin := vv fin
   clear fin
   have HB := vv (hb.below hbel rfl)
   by_cases hpm : p + m <= n
   all_goals
    go_wp2_with fail
    first | (have e : m = q := (HQ.out.2.1 hpm).symm) | (have e : n - p = q := (HQ.out.2.2 (by omega)).symm)
    subst e
    refine (trim _ _ _ _ _ hC.out).mono ?_
    rintro e w' ⟨m', rfl, rfl, hR'⟩
    have hm' := hR'.words
    have hm'' : m' <= m := by
     have h1 := hC.out.lt
     have h2 := words_le h1
     omega
    clear hm'
    have HR' := vv hR'
    clear hR'
    go_wp2_with fail
    refine (IH.out _ _ m' m _ _ _ _ _ (by omega) HR'.out HB.out).mono ?_
    rintro e w1 ⟨A1, n1, c1, rfl, hR1, hF1, hB1⟩
    have HO1 := vv (HO.out.below hB1 hg)
    have HB1 := vv (hbel.trans (hB1.mono hbel.size))
    have HF1 := vv (Fin.out m' w1 A1 n1 c1 hR1)
    have hne : ∀ a, A1 = some a -> a.block ≠ w.heap.size := fun a e => by have := hF1 a e; omega
    have HNE := vv hne
    have HR1 := vv hR1
    clear hR1 hF1 hB1 hne
    go_wp2_with fail
    refine (addAt w.heap.size (n + m + 1) (n + m + 1) V A1 n1 c1 p _ _ rfl w1 HO1.out HL.out (by omega) HR1.out HNE.out (by omega) HF1.out.2).mono ?_
    rintro e w2 ⟨rfl, ⟨V2, hO2, hL2, hv2⟩, hG2⟩
    have HO2 := vv hO2
    have HL2 := vv hL2
    have HV2 := vv (hv2.trans HF1.out.1)
    have HB2 := vv (only_below HB1.out hG2 (by have := HB1.out.size; omega) (Nat.le_refl _))
    clear hO2 hL2 hv2 hG2
    go_wp2
    go_roundw
    case rel => exact ⟨p + m, V2, by go_num, by omega, HL2.out, HO2.out, HV2.out, HB2.out⟩
    case measure => simp [intOf]; omega
  ·have hR := vv (hown'.out.rd (n := n + m + 1) (c := n + m + 1) HL.out.symm (Nat.le_refl _) (by omega))
   go_wp2_with fail
   refine (trim _ _ _ _ _ hR.out).mono ?_
   rintro e w' ⟨m', rfl, rfl, hR'⟩
   go_wp2
   go_ret
   refine ⟨_, m', n + m + 1, rfl, ?_, Fr.at_ (Nat.le_refl _), hbel⟩
   have e := HV.out
   rw [take_all (xs := xs) (by rw [ha.len]; omega)] at e
   rw [<- e]
   exact hR'
theorem mul_short (A B : Option Addr) (n m c d : Nat) (xs ys : List Nat) (w : World) (ha : Rd w A n c xs) (hb : Rd w B m d ys) (hs : n + m < 1099511627776) (h40 : m < 40) (h2 : m <= n) :
  Calls Tryz.prog 292 #[.slice A n c, .slice B m d] w (AddPost (val xs * val ys) w) := by
 go_enter Tryz.func292, Tryz.ntmps292
 go_wp2_with fail
 refine (plain A B n m c d xs ys w ha hb (by omega)).mono ?_
 rintro e w1 ⟨A1, n1, c1, rfl, hR1, hF1, hB1⟩
 go_wp2
 go_ret
 exact ⟨A1, n1, c1, rfl, hR1, hF1, hB1⟩
theorem mul_half (A B : Option Addr) (n m c d : Nat) (xs ys : List Nat) (w : World)
  (ih : ∀ (A B : Option Addr) (n' m' c d : Nat) (xs ys : List Nat) (w : World), n' + m' < n + m -> Rd w A n' c xs -> Rd w B m' d ys -> Calls Tryz.prog 292 #[.slice A n' c, .slice B m' d] w (AddPost (val xs * val ys) w))
  (ha : Rd w A n c xs) (hb : Rd w B m d ys) (hs : n + m < 1099511627776) (h40 : 40 <= m) (h2 : n < 2 * m) (hmn : m <= n) :
  Calls Tryz.prog 292 #[.slice A n c, .slice B m d] w (AddPost (val xs * val ys) w) := by
 have hmk := mk1 (n + m) hs
 have ec : ((n + m : Nat) : Int) = (n : Int) + (m : Int) := by omega
 rw [ec] at hmk
 clear ec
 have hnc := ha.le
 have hmd := hb.le
 obtain ⟨b, off, rfl, hbl, _⟩ := ha.cell (by omega)
 obtain ⟨b', off', rfl, hbl', _⟩ := hb.cell (by omega)
 have IH := vv ih
 clear ih
 have hA0 : Below w.heap.size w (w.alloc (.cells (madeCells #[.int .u32 0] (n + m + 1)) 34)) := (Below.refl _ _).alloc (Nat.le_refl _) _
 have HA := vv (ha.below hA0 rfl)
 have HB := vv (hb.below hA0 rfl)
 have HO := vv (Own.made w (n + m + 1) 34)
 have HA0 := vv hA0
 clear hA0
 obtain ⟨h, hh, h3, h4⟩ : ∃ h : Nat, ((n : Int) + 1) / 2 = (h : Int) /\ 2 * h <= n + 1 /\ n <= 2 * h := ⟨(n + 1) / 2, by omega, by omega, by omega⟩
 have i1 : (0 : Int) <= (h : Int) := by omega
 have i2 : (h : Int) <= (c : Int) := by omega
 have i3 : (h : Int) <= (d : Int) := by omega
 go_enter Tryz.func292, Tryz.ntmps292
 go_wp2_with fail
 have HAt := vv (HA.out.take (k := h) (by omega))
 have HBt := vv (HB.out.take (k := h) (by omega))
 have LA := vv ha.lim
 have LB := vv hb.lim
 have LNA := vv ha.len
 have LNB := vv hb.len
 have LXL := vv ((HAt.out).lt)
 have LYL := vv ((HBt.out).lt)
 have LXH : Hid (val (xs.drop h) < 4294967296 ^ h) := vv (lt_pow_le (val_lt (Lim_drop ha.lim h)) (by rw [List.length_drop, ha.len]; omega))
 have LYH : Hid (val (ys.drop h) < 4294967296 ^ h) := vv (lt_pow_le (val_lt (Lim_drop hb.lim h)) (by rw [List.length_drop, hb.len]; omega))
 go_region_held3 (fun _ => True) (trivial) (first
  | (go_at_call 294; (with_reducible refine (trim _ _ _ _ _ (HAt.out.drew)).mono ?_); rintro e w' ⟨ma, rfl, rfl, hRa⟩; have hma : ma <= h := hRa.trim_le (Lim_take LA.out _) (by rw [List.length_take]; omega))
  | (go_at_call 294; (with_reducible refine (trim _ _ _ _ _ (HBt.out.drew)).mono ?_); rintro e w' ⟨mb, rfl, rfl, hRb⟩; have hmb : mb <= h := hRb.trim_le (Lim_take LB.out _) (by rw [List.length_take]; omega))
  | (go_at_call 292; (with_reducible refine (IH.out _ _ _ _ _ _ _ _ _ (by omega) hRa hRb).mono ?_); intro e w1 hp1; obtain ⟨A1, n1, c1, rfl, hR1, hF1, hB1⟩ := hp1.val2))
 have HA1 := vv (HA.out.drew.below hB1 rfl)
 have HB1 := vv (HB.out.drew.below hB1 rfl)
 have HO1 := vv (HO.out.drew.below hB1 (by simp))
 have HW1 := vv ((below_drew HA0.out).trans (hB1.mono (by simp)))
 have HR1 := vv hR1
 have HF1 := vv (hF1.mono (B := w.heap.size + 1) (by simp))
 clear hRa hRb hR1 hF1 hB1 HAt HBt
 go_wp2_with fail
 have j1 : (h : Int) <= (n : Int) := by omega
 have j2 : (h : Int) <= (m : Int) := by omega
 have HAd := vv ((HA1.out.drop (k := h) (by omega)).drew)
 have hch : ¬ c = h := by omega
 obtain ⟨Ab, hAb, hBd2⟩ : ∃ Ab : Option Addr, (if d = h then some (⟨b', off', none⟩ : Addr) else some ⟨b', off' + h, none⟩) = Ab /\ ∀ w', Rd w' (some ⟨b', off', none⟩) m d ys -> Rd w' Ab (m - h) (d - h) (ys.drop h) := by
  by_cases hdh : d = h
  ·exact ⟨_, if_pos hdh, fun w' hh' => hh'.drop0 hdh.symm _⟩
  ·exact ⟨_, if_neg hdh, fun w' hh' => hh'.drop (by omega)⟩
 have HBD2 := vv hBd2
 have HBd := vv ((hBd2 _ HB1.out).drew)
 clear hBd2
 go_region_held3 (fun _ => True) (trivial) (first
  | (go_at_call 292; (with_reducible refine (IH.out _ _ _ _ _ _ _ _ _ (by omega) HAd.out HBd.out).mono ?_); rintro e w2 ⟨A2, n2, c2, rfl, hR2, hF2, hB2⟩))
 have HA2 := vv (HA1.out.drew.below hB2 rfl)
 have HB2 := vv (HB1.out.drew.below hB2 rfl)
 have HO2 := vv (HO1.out.drew.below hB2 HO1.out.lt)
 have HW2 := vv ((below_drew HW1.out).trans (hB2.mono (by have := HW1.out.size; simpa using this)))
 have HL2 := vv (HR1.out.drew.below hB2 rfl)
 have HR2 := vv hR2
 have HF2 := vv (hF2.mono (B := w.heap.size + 1) (by have := HO1.out.lt; rw [World.size_drew]; omega))
 clear HAd HBd hR2 hF2 hB2 HA1 HB1 HO1 HW1 HR1
 go_wp2_with fail
 have HAt := vv ((HA2.out.take (k := h) (by omega)).drew)
 have HBt := vv ((HB2.out.take (k := h) (by omega)).drew)
 have HAd := vv ((HA2.out.drop (k := h) (by omega)).drew)
 have HBd := vv ((HBD2.out _ HB2.out).drew)
 go_region_held3 (fun _ => True) (trivial) (first
  | (go_at_call 294; (with_reducible refine (trim _ _ _ _ _ HAt.out).mono ?_); rintro e w' ⟨mc, rfl, rfl, hRc⟩; have hmc : mc <= h := hRc.trim_le (Lim_take LA.out _) (by rw [List.length_take]; omega))
  | (go_at_call 324; (with_reducible refine (addWords _ _ _ _ _ _ _ _ _ hRc HAd.out (by omega) (by omega)).mono ?_); intro e w3 hp3; obtain ⟨A3, n3, c3, rfl, hR3, hF3, hB3⟩ := hp3.add2; have hn3 : n3 <= h + 1 := hR3.bound (two_lt LXL.out LXH.out))
  | (go_at_call 294; (with_reducible refine (trim _ _ _ _ _ (HBt.out.below hB3 rfl)).mono ?_); rintro e w' ⟨md, rfl, rfl, hRd⟩; have hmd' : md <= h := hRd.trim_le (Lim_take LB.out _) (by rw [List.length_take]; omega))
  | (go_at_call 324; (with_reducible refine (addWords _ _ _ _ _ _ _ _ _ hRd (HBd.out.below hB3 rfl) (by omega) (by omega)).mono ?_); intro e w4 hp4; obtain ⟨A4, n4, c4, rfl, hR4, hF4, hB4⟩ := hp4.add2; have hn4 : n4 <= h + 1 := hR4.bound (two_lt LYL.out LYH.out))
  | (go_at_call 292; (with_reducible refine (IH.out _ _ _ _ _ _ _ _ _ (by omega) (hR3.below hB4 rfl) hR4).mono ?_); intro e w5 hp5; obtain ⟨A5, n5, c5, rfl, hR5, hF5, hB5⟩ := hp5.val2))
 have HO5 := vv ((((HO2.out.drew.below hB3 HO2.out.lt).below hB4 (Nat.lt_of_lt_of_le HO2.out.lt hB3.size)).below hB5 (Nat.lt_of_lt_of_le (Nat.lt_of_lt_of_le HO2.out.lt hB3.size) hB4.size)))
 have HW5 := vv ((((below_drew HW2.out).trans (hB3.mono HW2.out.size)).trans (hB4.mono (Nat.le_trans HW2.out.size hB3.size))).trans (hB5.mono (Nat.le_trans (Nat.le_trans HW2.out.size hB3.size) hB4.size)))
 have HL5 := vv (((HL2.out.drew.below hB3 rfl).below hB4 rfl).below hB5 rfl)
 have HH5 := vv (((HR2.out.drew.below hB3 rfl).below hB4 rfl).below hB5 rfl)
 have HR5 := vv hR5
 clear HAt HBt HAd HBd hRc hR3 hF3 hB3 hRd hR4 hF4 hB4 hR5 hF5 hB5 HA2 HB2 HO2 HW2 HL2 HR2 HA HB HO HA0 HBD2 IH
 clear hp1 hp3 hp4 hp5
 have K1 := vv (kara_le1 (val (xs.take h)) (val (xs.drop h)) (val (ys.take h)) (val (ys.drop h)))
 have K2 := vv (kara_le2 (val (xs.take h)) (val (xs.drop h)) (val (ys.take h)) (val (ys.drop h)))
 have K3 : Hid (val (xs.take h) * val (ys.take h) + 4294967296 ^ h * ((val (xs.take h) + val (xs.drop h)) * (val (ys.take h) + val (ys.drop h)) - val (xs.take h) * val (ys.take h) - val (xs.drop h) * val (ys.drop h)) + 4294967296 ^ (2 * h) * (val (xs.drop h) * val (ys.drop h)) = val xs * val ys) := vv (by
  have e := kara (val (xs.take h)) (val (xs.drop h)) (val (ys.take h)) (val (ys.drop h)) (4294967296 ^ h)
  rw [<- val_split xs h (by rw [LNA.out]; omega), <- val_split ys h (by rw [LNB.out]; omega), <- Nat.pow_add, <- Nat.two_mul] at e
  exact e)
 have K4 : Hid (val xs * val ys < 4294967296 ^ (n + m + 1)) := vv (by
  have e := prod_lt LA.out LB.out
  rw [LNA.out, LNB.out] at e
  have : 4294967296 ^ (n + m) <= 4294967296 ^ (n + m + 1) := Nat.pow_le_pow_right (by omega) (by omega)
  omega)
 generalize hL : val (xs.take h) * val (ys.take h) = L at *
 generalize hH : val (xs.drop h) * val (ys.drop h) = H at *
 generalize hM : (val (xs.take h) + val (xs.drop h)) * (val (ys.take h) + val (ys.drop h)) = M at *
 clear hL hH hM
 have HLT := vv HO5.out.lt
 go_wp2_with fail
 refine (subWords _ _ _ _ _ _ _ _ _ HR5.out HL5.out (by rw [val_toL, val_toL]; exact K1.out) (HL5.out.le_of HR5.out K1.out)).mono ?_
 intro e w6 hp6
 obtain ⟨A6, n6, c6, rfl, hR6, hF6, hB6⟩ := hp6.sub2
 have HH6 := vv (HH5.out.below hB6 rfl)
 have HL6 := vv (HL5.out.below hB6 rfl)
 have HO6 := vv (HO5.out.below hB6 HLT.out)
 have HW6 := vn HW5 hB6
 have HR6 := vv hR6
 have S6 := vv (Nat.le_trans HLT.out hB6.size)
 clear hp6 hR6 hF6 hB6 HH5 HL5 HO5 HW5 HR5
 go_wp2_with fail
 refine (subWords _ _ _ _ _ _ _ _ _ HR6.out HH6.out (by rw [val_toL, val_toL]; exact K2.out) (HH6.out.le_of HR6.out K2.out)).mono ?_
 intro e w7 hp7
 obtain ⟨A7, n7, c7, rfl, hR7, hF7, hB7⟩ := hp7.sub2
 have HH7 := vv (HH6.out.below hB7 rfl)
 have HL7 := vv (HL6.out.below hB7 rfl)
 have HO7 := vv (HO6.out.below hB7 S6.out)
 have HW7 := vn HW6 hB7
 have HR7 := vv hR7
 have HF7 := vv (hF7.mono (B := w.heap.size + 1) S6.out)
 clear hp7 hR7 hF7 hB7 HH6 HL6 HO6 HW6 HR6
 have hne : ∀ (A : Option Addr), Fr (w.heap.size + 1) A -> ∀ a, A = some a -> a.block ≠ w.heap.size := fun _ hf a e => by have := hf a e; omega
 have HNE := vv hne
 clear hne
 go_wp2_with fail
 refine (addAt w.heap.size (n + m + 1) (n + m + 1) (List.replicate (n + m + 1) 0) A1 n1 c1 0 L 0 rfl w7 HO7.out (by simp) (by omega) HL7.out (HNE.out _ HF1.out) (by omega) (by rw [val_replicate, Nat.pow_zero]; have := K3.out; have := K4.out; omega)).mono ?_
 rintro e w8 ⟨rfl, ⟨V8, hO8, hL8, hv8⟩, hG8⟩
 rw [val_replicate, Nat.pow_zero, Nat.zero_add, Nat.one_mul] at hv8
 have HO8 := vv hO8
 have HL8 := vv hL8
 have HV8 := vv hv8
 have HM8 := vv (HR7.out.only hG8 (HNE.out _ HF7.out))
 have HH8 := vv (HH7.out.only hG8 (HNE.out _ HF2.out))
 have HW8 := vv (only_below HW7.out hG8 HW7.out.size (Nat.le_refl _))
 clear hO8 hL8 hv8 hG8 HO7 HL7 HR7 HH7 HW7
 go_wp2_with fail
 refine (addAt w.heap.size (n + m + 1) (n + m + 1) V8 A7 n7 c7 h (M - L - H) _ rfl w8 HO8.out HL8.out (by omega) HM8.out (HNE.out _ HF7.out) (by omega) (by rw [HV8.out]; have := K3.out; have := K4.out; omega)).mono ?_
 rintro e w9 ⟨rfl, ⟨V9, hO9, hL9, hv9⟩, hG9⟩
 rw [HV8.out] at hv9
 have HO9 := vv hO9
 have HL9 := vv hL9
 have HV9 := vv hv9
 have HH9 := vv (HH8.out.only hG9 (HNE.out _ HF2.out))
 have HW9 := vv (only_below HW8.out hG9 HW8.out.size (Nat.le_refl _))
 clear hO9 hL9 hv9 hG9 HO8 HL8 HM8 HH8 HW8
 go_wp2_with fail
 refine (addAt w.heap.size (n + m + 1) (n + m + 1) V9 A2 n2 c2 (2 * h) H _ (by omega) w9 HO9.out HL9.out (by omega) HH9.out (HNE.out _ HF2.out) (by omega) (by rw [HV9.out, K3.out]; exact K4.out)).mono ?_
 rintro e w10 ⟨rfl, ⟨V10, hO10, hL10, hv10⟩, hG10⟩
 rw [HV9.out, K3.out] at hv10
 have HW10 := vv (only_below HW9.out hG10 HW9.out.size (Nat.le_refl _))
 have HV10 := vv hv10
 have hR := vv (hO10.rd (n := n + m + 1) (c := n + m + 1) hL10.symm (Nat.le_refl _) (by omega))
 clear hO10 hL10 hv10 hG10
 go_wp2_with fail
 refine (trim _ _ _ _ _ hR.out).mono ?_
 rintro e w' ⟨m', rfl, rfl, hR'⟩
 go_wp2
 go_ret
 refine ⟨_, m', n + m + 1, rfl, ?_, Fr.at_ (Nat.le_refl _), HW10.out⟩
 rw [HV10.out] at hR'
 exact hR'
theorem mul_long_sw (A B : Option Addr) (n m c d : Nat) (xs ys : List Nat) (w : World)
  (ih : ∀ (A B : Option Addr) (n' m' c d : Nat) (xs ys : List Nat) (w : World), n' + m' < n + m -> Rd w A n' c xs -> Rd w B m' d ys -> Calls Tryz.prog 292 #[.slice A n' c, .slice B m' d] w (AddPost (val xs * val ys) w))
  (ha : Rd w A n c xs) (hb : Rd w B m d ys) (hs : n + m < 1099511627776) (h40 : 40 <= m) (h2 : 2 * m <= n) :
  Calls Tryz.prog 292 #[.slice B m d, .slice A n c] w (AddPost (val xs * val ys) w) := by
 have hmk := mk1 (n + m) hs
 have ec : ((n + m : Nat) : Int) = (n : Int) + (m : Int) := by omega
 rw [ec] at hmk
 clear ec
 have hnc := ha.le
 obtain ⟨b, off, rfl, hbl, _⟩ := ha.cell (by omega)
 have IH := vv ih
 clear ih
 have t1 : decide (n < m) = false := by simp; omega
 have t2 : decide ((m : Int) < 40) = false := by simp; omega
 have t3 : decide (2 * (m : Int) <= (n : Int)) = true := by simp; omega
 have t1' : decide (m < n) = true := by simp; omega
 go_enter Tryz.func292, Tryz.ntmps292
 go_wp2_with fail
 go_loopw [6] (fun i wr => ∃ (p : Nat) (V : List Nat), i = .int .i64 p /\ p <= n + m /\ V.length = n + m + 1 /\ Own wr w.heap.size 34 V /\ val V = val (xs.take p) * val ys /\ Below w.heap.size w wr) (fun i _ => n + m - (intOf i).toNat)
 case atStart => exact ⟨0, List.replicate (n + m + 1) 0, rfl, Nat.zero_le _, by simp, Own.made _ _ _, by simp [val, val_replicate], (Below.refl _ _).alloc (Nat.le_refl _) _⟩
 case round =>
  obtain ⟨p, V, rfl, hp, hVl, hown, hval, hbel⟩ := hrel
  have HV := vv hval
  have HL := vv hVl
  have HO := vv hown
  have hg := hown.lt
  have hown' := HO
  clear hval hVl hown
  by_cases hpn : p < n
  ·obtain ⟨q, hq1, hq2, hq3⟩ : ∃ q, q <= m /\ p + q <= n /\ (xs.drop p).take m = (xs.drop p).take q /\ (p + m <= n -> q = m) /\ (n < p + m -> q = n - p) := by
    by_cases h : p + m <= n
    ·exact ⟨m, Nat.le_refl _, h, rfl, fun _ => rfl, fun h' => absurd h' (by omega)⟩
    ·refine ⟨n - p, by omega, by omega, ?_, fun h' => absurd h' h, fun _ => rfl⟩
     rw [take_all (by rw [List.length_drop, ha.len]; omega), take_all (by rw [List.length_drop, ha.len]; omega)]
   have hC := vv ((((ha.below hbel rfl).drop (k := p) (by omega)).take (k := q) (by omega)))
   have HQ := vv hq3
   clear hq3
   have fin : ∀ (m' : Nat) (w1 : World) (A1 : Option Addr) (n1 c1 : Nat), Rd w1 A1 n1 c1 (toL (val (toL (val ((xs.drop p).take q))) * val ys)) -> val V + 4294967296 ^ p * (val (toL (val ((xs.drop p).take q))) * val ys) = val (xs.take (p + m)) * val ys /\
     val V + 4294967296 ^ p * (val (toL (val ((xs.drop p).take q))) * val ys) < 4294967296 ^ (n + m + 1) := by
    intro m' w1 A1 n1 c1 _
    have e : val V + 4294967296 ^ p * (val (toL (val ((xs.drop p).take q))) * val ys) = val (xs.take (p + m)) * val ys := by
     rw [HV.out, val_toL, val_take_add, HQ.out.1, Nat.add_mul, Nat.mul_assoc]
    refine ⟨e, ?_⟩
    rw [e]
    have h1 := Nat.mul_le_mul_right (val ys) (val_take_le xs (p + m))
    have h2 := prod_lt ha.lim hb.lim
    rw [ha.len, hb.len] at h2
    have h3 : 4294967296 ^ (n + m) <= 4294967296 ^ (n + m + 1) := Nat.pow_le_pow_right (by omega) (by omega)
    omega
   have Fin := vv fin
   clear fin
   have HB := vv (hb.below hbel rfl)
   by_cases hpm : p + m <= n
   all_goals
    go_wp2_with fail
    first | (have e : m = q := (HQ.out.2.1 hpm).symm) | (have e : n - p = q := (HQ.out.2.2 (by omega)).symm)
    subst e
    refine (trim _ _ _ _ _ hC.out).mono ?_
    rintro e w' ⟨m', rfl, rfl, hR'⟩
    have hm' := hR'.words
    have hm'' : m' <= m := by
     have h1 := hC.out.lt
     have h2 := words_le h1
     omega
    clear hm'
    have HR' := vv hR'
    clear hR'
    go_wp2_with fail
    refine (IH.out _ _ m' m _ _ _ _ _ (by omega) HR'.out HB.out).mono ?_
    rintro e w1 ⟨A1, n1, c1, rfl, hR1, hF1, hB1⟩
    have HO1 := vv (HO.out.below hB1 hg)
    have HB1 := vv (hbel.trans (hB1.mono hbel.size))
    have HF1 := vv (Fin.out m' w1 A1 n1 c1 hR1)
    have hne : ∀ a, A1 = some a -> a.block ≠ w.heap.size := fun a e => by have := hF1 a e; omega
    have HNE := vv hne
    have HR1 := vv hR1
    clear hR1 hF1 hB1 hne
    go_wp2_with fail
    refine (addAt w.heap.size (n + m + 1) (n + m + 1) V A1 n1 c1 p _ _ rfl w1 HO1.out HL.out (by omega) HR1.out HNE.out (by omega) HF1.out.2).mono ?_
    rintro e w2 ⟨rfl, ⟨V2, hO2, hL2, hv2⟩, hG2⟩
    have HO2 := vv hO2
    have HL2 := vv hL2
    have HV2 := vv (hv2.trans HF1.out.1)
    have HB2 := vv (only_below HB1.out hG2 (by have := HB1.out.size; omega) (Nat.le_refl _))
    clear hO2 hL2 hv2 hG2
    go_wp2
    go_roundw
    case rel => exact ⟨p + m, V2, by go_num, by omega, HL2.out, HO2.out, HV2.out, HB2.out⟩
    case measure => simp [intOf]; omega
  ·have hR := vv (hown'.out.rd (n := n + m + 1) (c := n + m + 1) HL.out.symm (Nat.le_refl _) (by omega))
   go_wp2_with fail
   refine (trim _ _ _ _ _ hR.out).mono ?_
   rintro e w' ⟨m', rfl, rfl, hR'⟩
   go_wp2
   go_ret
   refine ⟨_, m', n + m + 1, rfl, ?_, Fr.at_ (Nat.le_refl _), hbel⟩
   have e := HV.out
   rw [take_all (xs := xs) (by rw [ha.len]; omega)] at e
   rw [<- e]
   exact hR'
theorem mul_short_sw (A B : Option Addr) (n m c d : Nat) (xs ys : List Nat) (w : World) (ha : Rd w A n c xs) (hb : Rd w B m d ys) (hs : n + m < 1099511627776) (h40 : m < 40) (h2 : m < n) :
  Calls Tryz.prog 292 #[.slice B m d, .slice A n c] w (AddPost (val xs * val ys) w) := by
 have t1' : decide (m < n) = true := by simp; omega
 go_enter Tryz.func292, Tryz.ntmps292
 go_wp2_with fail
 refine (plain A B n m c d xs ys w ha hb (by omega)).mono ?_
 rintro e w1 ⟨A1, n1, c1, rfl, hR1, hF1, hB1⟩
 go_wp2
 go_ret
 exact ⟨A1, n1, c1, rfl, hR1, hF1, hB1⟩
theorem mul_half_sw (A B : Option Addr) (n m c d : Nat) (xs ys : List Nat) (w : World)
  (ih : ∀ (A B : Option Addr) (n' m' c d : Nat) (xs ys : List Nat) (w : World), n' + m' < n + m -> Rd w A n' c xs -> Rd w B m' d ys -> Calls Tryz.prog 292 #[.slice A n' c, .slice B m' d] w (AddPost (val xs * val ys) w))
  (ha : Rd w A n c xs) (hb : Rd w B m d ys) (hs : n + m < 1099511627776) (h40 : 40 <= m) (h2 : n < 2 * m) (hmn : m < n) :
  Calls Tryz.prog 292 #[.slice B m d, .slice A n c] w (AddPost (val xs * val ys) w) := by
 have hmk := mk1 (n + m) hs
 have ec : ((n + m : Nat) : Int) = (n : Int) + (m : Int) := by omega
 rw [ec] at hmk
 clear ec
 have hnc := ha.le
 have hmd := hb.le
 obtain ⟨b, off, rfl, hbl, _⟩ := ha.cell (by omega)
 obtain ⟨b', off', rfl, hbl', _⟩ := hb.cell (by omega)
 have IH := vv ih
 clear ih
 have hA0 : Below w.heap.size w (w.alloc (.cells (madeCells #[.int .u32 0] (n + m + 1)) 34)) := (Below.refl _ _).alloc (Nat.le_refl _) _
 have HA := vv (ha.below hA0 rfl)
 have HB := vv (hb.below hA0 rfl)
 have HO := vv (Own.made w (n + m + 1) 34)
 have HA0 := vv hA0
 clear hA0
 obtain ⟨h, hh, h3, h4⟩ : ∃ h : Nat, ((n : Int) + 1) / 2 = (h : Int) /\ 2 * h <= n + 1 /\ n <= 2 * h := ⟨(n + 1) / 2, by omega, by omega, by omega⟩
 have i1 : (0 : Int) <= (h : Int) := by omega
 have i2 : (h : Int) <= (c : Int) := by omega
 have i3 : (h : Int) <= (d : Int) := by omega
 have t1' : decide (m < n) = true := by simp; omega
 go_enter Tryz.func292, Tryz.ntmps292
 go_wp2_with fail
 have HAt := vv (HA.out.take (k := h) (by omega))
 have HBt := vv (HB.out.take (k := h) (by omega))
 have LA := vv ha.lim
 have LB := vv hb.lim
 have LNA := vv ha.len
 have LNB := vv hb.len
 have LXL := vv ((HAt.out).lt)
 have LYL := vv ((HBt.out).lt)
 have LXH : Hid (val (xs.drop h) < 4294967296 ^ h) := vv (lt_pow_le (val_lt (Lim_drop ha.lim h)) (by rw [List.length_drop, ha.len]; omega))
 have LYH : Hid (val (ys.drop h) < 4294967296 ^ h) := vv (lt_pow_le (val_lt (Lim_drop hb.lim h)) (by rw [List.length_drop, hb.len]; omega))
 go_region_held3 (fun _ => True) (trivial) (first
  | (go_at_call 294; (with_reducible refine (trim _ _ _ _ _ (HAt.out.drew)).mono ?_); rintro e w' ⟨ma, rfl, rfl, hRa⟩; have hma : ma <= h := hRa.trim_le (Lim_take LA.out _) (by rw [List.length_take]; omega))
  | (go_at_call 294; (with_reducible refine (trim _ _ _ _ _ (HBt.out.drew)).mono ?_); rintro e w' ⟨mb, rfl, rfl, hRb⟩; have hmb : mb <= h := hRb.trim_le (Lim_take LB.out _) (by rw [List.length_take]; omega))
  | (go_at_call 292; (with_reducible refine (IH.out _ _ _ _ _ _ _ _ _ (by omega) hRa hRb).mono ?_); intro e w1 hp1; obtain ⟨A1, n1, c1, rfl, hR1, hF1, hB1⟩ := hp1.val2))
 have HA1 := vv (HA.out.drew.below hB1 rfl)
 have HB1 := vv (HB.out.drew.below hB1 rfl)
 have HO1 := vv (HO.out.drew.below hB1 (by simp))
 have HW1 := vv ((below_drew HA0.out).trans (hB1.mono (by simp)))
 have HR1 := vv hR1
 have HF1 := vv (hF1.mono (B := w.heap.size + 1) (by simp))
 clear hRa hRb hR1 hF1 hB1 HAt HBt
 go_wp2_with fail
 have j1 : (h : Int) <= (n : Int) := by omega
 have j2 : (h : Int) <= (m : Int) := by omega
 have HAd := vv ((HA1.out.drop (k := h) (by omega)).drew)
 have hch : ¬ c = h := by omega
 obtain ⟨Ab, hAb, hBd2⟩ : ∃ Ab : Option Addr, (if d = h then some (⟨b', off', none⟩ : Addr) else some ⟨b', off' + h, none⟩) = Ab /\ ∀ w', Rd w' (some ⟨b', off', none⟩) m d ys -> Rd w' Ab (m - h) (d - h) (ys.drop h) := by
  by_cases hdh : d = h
  ·exact ⟨_, if_pos hdh, fun w' hh' => hh'.drop0 hdh.symm _⟩
  ·exact ⟨_, if_neg hdh, fun w' hh' => hh'.drop (by omega)⟩
 have HBD2 := vv hBd2
 have HBd := vv ((hBd2 _ HB1.out).drew)
 clear hBd2
 go_region_held3 (fun _ => True) (trivial) (first
  | (go_at_call 292; (with_reducible refine (IH.out _ _ _ _ _ _ _ _ _ (by omega) HAd.out HBd.out).mono ?_); rintro e w2 ⟨A2, n2, c2, rfl, hR2, hF2, hB2⟩))
 have HA2 := vv (HA1.out.drew.below hB2 rfl)
 have HB2 := vv (HB1.out.drew.below hB2 rfl)
 have HO2 := vv (HO1.out.drew.below hB2 HO1.out.lt)
 have HW2 := vv ((below_drew HW1.out).trans (hB2.mono (by have := HW1.out.size; simpa using this)))
 have HL2 := vv (HR1.out.drew.below hB2 rfl)
 have HR2 := vv hR2
 have HF2 := vv (hF2.mono (B := w.heap.size + 1) (by have := HO1.out.lt; rw [World.size_drew]; omega))
 clear HAd HBd hR2 hF2 hB2 HA1 HB1 HO1 HW1 HR1
 go_wp2_with fail
 have HAt := vv ((HA2.out.take (k := h) (by omega)).drew)
 have HBt := vv ((HB2.out.take (k := h) (by omega)).drew)
 have HAd := vv ((HA2.out.drop (k := h) (by omega)).drew)
 have HBd := vv ((HBD2.out _ HB2.out).drew)
 go_region_held3 (fun _ => True) (trivial) (first
  | (go_at_call 294; (with_reducible refine (trim _ _ _ _ _ HAt.out).mono ?_); rintro e w' ⟨mc, rfl, rfl, hRc⟩; have hmc : mc <= h := hRc.trim_le (Lim_take LA.out _) (by rw [List.length_take]; omega))
  | (go_at_call 324; (with_reducible refine (addWords _ _ _ _ _ _ _ _ _ hRc HAd.out (by omega) (by omega)).mono ?_); intro e w3 hp3; obtain ⟨A3, n3, c3, rfl, hR3, hF3, hB3⟩ := hp3.add2; have hn3 : n3 <= h + 1 := hR3.bound (two_lt LXL.out LXH.out))
  | (go_at_call 294; (with_reducible refine (trim _ _ _ _ _ (HBt.out.below hB3 rfl)).mono ?_); rintro e w' ⟨md, rfl, rfl, hRd⟩; have hmd' : md <= h := hRd.trim_le (Lim_take LB.out _) (by rw [List.length_take]; omega))
  | (go_at_call 324; (with_reducible refine (addWords _ _ _ _ _ _ _ _ _ hRd (HBd.out.below hB3 rfl) (by omega) (by omega)).mono ?_); intro e w4 hp4; obtain ⟨A4, n4, c4, rfl, hR4, hF4, hB4⟩ := hp4.add2; have hn4 : n4 <= h + 1 := hR4.bound (two_lt LYL.out LYH.out))
  | (go_at_call 292; (with_reducible refine (IH.out _ _ _ _ _ _ _ _ _ (by omega) (hR3.below hB4 rfl) hR4).mono ?_); intro e w5 hp5; obtain ⟨A5, n5, c5, rfl, hR5, hF5, hB5⟩ := hp5.val2))
 have HO5 := vv ((((HO2.out.drew.below hB3 HO2.out.lt).below hB4 (Nat.lt_of_lt_of_le HO2.out.lt hB3.size)).below hB5 (Nat.lt_of_lt_of_le (Nat.lt_of_lt_of_le HO2.out.lt hB3.size) hB4.size)))
 have HW5 := vv ((((below_drew HW2.out).trans (hB3.mono HW2.out.size)).trans (hB4.mono (Nat.le_trans HW2.out.size hB3.size))).trans (hB5.mono (Nat.le_trans (Nat.le_trans HW2.out.size hB3.size) hB4.size)))
 have HL5 := vv (((HL2.out.drew.below hB3 rfl).below hB4 rfl).below hB5 rfl)
 have HH5 := vv (((HR2.out.drew.below hB3 rfl).below hB4 rfl).below hB5 rfl)
 have HR5 := vv hR5
 clear HAt HBt HAd HBd hRc hR3 hF3 hB3 hRd hR4 hF4 hB4 hR5 hF5 hB5 HA2 HB2 HO2 HW2 HL2 HR2 HA HB HO HA0 HBD2 IH
 clear hp1 hp3 hp4 hp5
 have K1 := vv (kara_le1 (val (xs.take h)) (val (xs.drop h)) (val (ys.take h)) (val (ys.drop h)))
 have K2 := vv (kara_le2 (val (xs.take h)) (val (xs.drop h)) (val (ys.take h)) (val (ys.drop h)))
 have K3 : Hid (val (xs.take h) * val (ys.take h) + 4294967296 ^ h * ((val (xs.take h) + val (xs.drop h)) * (val (ys.take h) + val (ys.drop h)) - val (xs.take h) * val (ys.take h) - val (xs.drop h) * val (ys.drop h)) + 4294967296 ^ (2 * h) * (val (xs.drop h) * val (ys.drop h)) = val xs * val ys) := vv (by
  have e := kara (val (xs.take h)) (val (xs.drop h)) (val (ys.take h)) (val (ys.drop h)) (4294967296 ^ h)
  rw [<- val_split xs h (by rw [LNA.out]; omega), <- val_split ys h (by rw [LNB.out]; omega), <- Nat.pow_add, <- Nat.two_mul] at e
  exact e)
 have K4 : Hid (val xs * val ys < 4294967296 ^ (n + m + 1)) := vv (by
  have e := prod_lt LA.out LB.out
  rw [LNA.out, LNB.out] at e
  have : 4294967296 ^ (n + m) <= 4294967296 ^ (n + m + 1) := Nat.pow_le_pow_right (by omega) (by omega)
  omega)
 generalize hL : val (xs.take h) * val (ys.take h) = L at *
 generalize hH : val (xs.drop h) * val (ys.drop h) = H at *
 generalize hM : (val (xs.take h) + val (xs.drop h)) * (val (ys.take h) + val (ys.drop h)) = M at *
 clear hL hH hM
 have HLT := vv HO5.out.lt
 go_wp2_with fail
 refine (subWords _ _ _ _ _ _ _ _ _ HR5.out HL5.out (by rw [val_toL, val_toL]; exact K1.out) (HL5.out.le_of HR5.out K1.out)).mono ?_
 intro e w6 hp6
 obtain ⟨A6, n6, c6, rfl, hR6, hF6, hB6⟩ := hp6.sub2
 have HH6 := vv (HH5.out.below hB6 rfl)
 have HL6 := vv (HL5.out.below hB6 rfl)
 have HO6 := vv (HO5.out.below hB6 HLT.out)
 have HW6 := vn HW5 hB6
 have HR6 := vv hR6
 have S6 := vv (Nat.le_trans HLT.out hB6.size)
 clear hp6 hR6 hF6 hB6 HH5 HL5 HO5 HW5 HR5
 go_wp2_with fail
 refine (subWords _ _ _ _ _ _ _ _ _ HR6.out HH6.out (by rw [val_toL, val_toL]; exact K2.out) (HH6.out.le_of HR6.out K2.out)).mono ?_
 intro e w7 hp7
 obtain ⟨A7, n7, c7, rfl, hR7, hF7, hB7⟩ := hp7.sub2
 have HH7 := vv (HH6.out.below hB7 rfl)
 have HL7 := vv (HL6.out.below hB7 rfl)
 have HO7 := vv (HO6.out.below hB7 S6.out)
 have HW7 := vn HW6 hB7
 have HR7 := vv hR7
 have HF7 := vv (hF7.mono (B := w.heap.size + 1) S6.out)
 clear hp7 hR7 hF7 hB7 HH6 HL6 HO6 HW6 HR6
 have hne : ∀ (A : Option Addr), Fr (w.heap.size + 1) A -> ∀ a, A = some a -> a.block ≠ w.heap.size := fun _ hf a e => by have := hf a e; omega
 have HNE := vv hne
 clear hne
 go_wp2_with fail
 refine (addAt w.heap.size (n + m + 1) (n + m + 1) (List.replicate (n + m + 1) 0) A1 n1 c1 0 L 0 rfl w7 HO7.out (by simp) (by omega) HL7.out (HNE.out _ HF1.out) (by omega) (by rw [val_replicate, Nat.pow_zero]; have := K3.out; have := K4.out; omega)).mono ?_
 rintro e w8 ⟨rfl, ⟨V8, hO8, hL8, hv8⟩, hG8⟩
 rw [val_replicate, Nat.pow_zero, Nat.zero_add, Nat.one_mul] at hv8
 have HO8 := vv hO8
 have HL8 := vv hL8
 have HV8 := vv hv8
 have HM8 := vv (HR7.out.only hG8 (HNE.out _ HF7.out))
 have HH8 := vv (HH7.out.only hG8 (HNE.out _ HF2.out))
 have HW8 := vv (only_below HW7.out hG8 HW7.out.size (Nat.le_refl _))
 clear hO8 hL8 hv8 hG8 HO7 HL7 HR7 HH7 HW7
 go_wp2_with fail
 refine (addAt w.heap.size (n + m + 1) (n + m + 1) V8 A7 n7 c7 h (M - L - H) _ rfl w8 HO8.out HL8.out (by omega) HM8.out (HNE.out _ HF7.out) (by omega) (by rw [HV8.out]; have := K3.out; have := K4.out; omega)).mono ?_
 rintro e w9 ⟨rfl, ⟨V9, hO9, hL9, hv9⟩, hG9⟩
 rw [HV8.out] at hv9
 have HO9 := vv hO9
 have HL9 := vv hL9
 have HV9 := vv hv9
 have HH9 := vv (HH8.out.only hG9 (HNE.out _ HF2.out))
 have HW9 := vv (only_below HW8.out hG9 HW8.out.size (Nat.le_refl _))
 clear hO9 hL9 hv9 hG9 HO8 HL8 HM8 HH8 HW8
 go_wp2_with fail
 refine (addAt w.heap.size (n + m + 1) (n + m + 1) V9 A2 n2 c2 (2 * h) H _ (by omega) w9 HO9.out HL9.out (by omega) HH9.out (HNE.out _ HF2.out) (by omega) (by rw [HV9.out, K3.out]; exact K4.out)).mono ?_
 rintro e w10 ⟨rfl, ⟨V10, hO10, hL10, hv10⟩, hG10⟩
 rw [HV9.out, K3.out] at hv10
 have HW10 := vv (only_below HW9.out hG10 HW9.out.size (Nat.le_refl _))
 have HV10 := vv hv10
 have hR := vv (hO10.rd (n := n + m + 1) (c := n + m + 1) hL10.symm (Nat.le_refl _) (by omega))
 clear hO10 hL10 hv10 hG10
 go_wp2_with fail
 refine (trim _ _ _ _ _ hR.out).mono ?_
 rintro e w' ⟨m', rfl, rfl, hR'⟩
 go_wp2
 go_ret
 refine ⟨_, m', n + m + 1, rfl, ?_, Fr.at_ (Nat.le_refl _), HW10.out⟩
 rw [HV10.out] at hR'
 exact hR'
theorem mulWords_upto (s : Nat) : ∀ (A B : Option Addr) (n m c d : Nat) (xs ys : List Nat) (w : World), n + m <= s -> n + m < 1099511627776 -> Rd w A n c xs -> Rd w B m d ys ->
  Calls Tryz.prog 292 #[.slice A n c, .slice B m d] w (AddPost (val xs * val ys) w) := by
 induction s with
 | zero =>
  intro A B n m c d xs ys w h hs ha hb
  exact mul_short A B n m c d xs ys w ha hb hs (by omega) (by omega)
 | succ s ih =>
  intro A B n m c d xs ys w h hs ha hb
  have ih' : ∀ (A B : Option Addr) (n' m' c d : Nat) (xs ys : List Nat) (w : World), n' + m' < n + m -> Rd w A n' c xs -> Rd w B m' d ys -> Calls Tryz.prog 292 #[.slice A n' c, .slice B m' d] w (AddPost (val xs * val ys) w) :=
   fun A B n' m' c d xs ys w hl ha hb => ih A B n' m' c d xs ys w (by omega) (by omega) ha hb
  rcases Nat.lt_or_ge n m with hnm | hnm
  ·rw [Nat.mul_comm]
   rcases Nat.lt_or_ge n 40 with h40 | h40
   ·exact mul_short_sw B A m n d c ys xs w hb ha (by omega) h40 hnm
   ·have ih2 : ∀ (A B : Option Addr) (n' m' c d : Nat) (xs ys : List Nat) (w : World), n' + m' < m + n -> Rd w A n' c xs -> Rd w B m' d ys -> Calls Tryz.prog 292 #[.slice A n' c, .slice B m' d] w (AddPost (val xs * val ys) w) :=
     fun A B n' m' c d xs ys w hl => ih' A B n' m' c d xs ys w (by omega)
    rcases Nat.lt_or_ge m (2 * n) with h2 | h2
    ·exact mul_half_sw B A m n d c ys xs w ih2 hb ha (by omega) h40 h2 hnm
    ·exact mul_long_sw B A m n d c ys xs w ih2 hb ha (by omega) h40 h2
  ·rcases Nat.lt_or_ge m 40 with h40 | h40
   ·exact mul_short A B n m c d xs ys w ha hb hs h40 hnm
   ·rcases Nat.lt_or_ge n (2 * m) with h2 | h2
    ·exact mul_half A B n m c d xs ys w ih' ha hb hs h40 h2 hnm
    ·exact mul_long A B n m c d xs ys w ih' ha hb hs h40 h2
theorem mulWords (A B : Option Addr) (n m c d : Nat) (xs ys : List Nat) (w : World) (ha : Rd w A n c xs) (hb : Rd w B m d ys) (hs : n + m < 1099511627776) :
  Calls Tryz.prog 292 #[.slice A n c, .slice B m d] w (AddPost (val xs * val ys) w) := mulWords_upto (n + m) A B n m c d xs ys w (Nat.le_refl _) hs ha hb
end Go.Proofs.YtddaldghlinokaaGreatDoor.A
