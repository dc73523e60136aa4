/- Lemmas. -/
import Derived.Test.YtddaldghlinokaaGreatDoorPartAN
import Derived.Test.YtddaldghlinokaaGreatDoorPartAB
import Derived.Deep.DeepCutAuto
import Derived.Deep.CutBlock
set_option linter.all false
namespace Go.Proofs.YtddaldghlinokaaGreatDoor.B
open Go Go.RowKit
end Go.Proofs.YtddaldghlinokaaGreatDoor.B
namespace Go.Proofs.YtddaldghlinokaaGreatDoor.A
open Go Go.RowKit
set_option maxRecDepth 100000 in
set_option maxHeartbeats 400000 in
theorem figure (g j n cap : Nat) (U : List Nat) (B : Option Addr) (d : Nat) (vs : List Nat) (w : World) (hn2 : 2 <= n) (hv : Rd w B n d vs) (htop : 2147483648 <= nth vs (n - 1)) (ho : Own w g 34 U) (hfit : j + n + 1 <= U.length) (hcap : n + 1 <= cap) (hU : U.length <= 1099511627776)
  (hne : ∀ a, B = some a -> a.block ≠ g) (hu : val ((U.drop j).take (n + 1)) < 4294967296 * val vs) :
  Calls Tryz.prog 370 #[.slice (some ⟨g, j, none⟩) (n + 1) cap, .slice B n d] w fun e w' => e = .returned (.int .u32 ((val ((U.drop j).take (n + 1)) / val vs : Nat) : Int)) /\
   (∃ V : List Nat, Own w' g 34 V /\ V.length = U.length /\ (∀ p, p < j \/ j + n + 1 <= p -> nth V p = nth U p) /\ val ((V.drop j).take (n + 1)) = val ((U.drop j).take (n + 1)) % val vs) /\ w.grownBy w' (some g) := by
 have hsm := hv.sm
 obtain ⟨b, off, rfl, hbl, hcell⟩ := hv.cell (by omega)
 have hbg : b ≠ g := hne _ rfl
 have c1 := hcell (n - 1) (by omega)
 have c2 := hcell (n - 2) (by omega)
 have HC := vv hcell
 clear hcell
 have d0 := ho.cell (i := j + n) (by omega)
 have d1 := ho.cell (i := j + (n - 1)) (by omega)
 have d2 := ho.cell (i := j + (n - 2)) (by omega)
 have l1 := hv.nth_lt (n - 1)
 have l2 := hv.nth_lt (n - 2)
 have m0 := ho.nth_lt (j + n)
 have m1 := ho.nth_lt (j + (n - 1))
 have m2 := ho.nth_lt (j + (n - 2))
 obtain ⟨W, hW⟩ := yx (U.drop j)
 have hWl : W.length = U.length - j := by rw [hW, List.length_drop]
 have hWn : ∀ i, nth W i = nth U (j + i) := fun i => by rw [hW, nth_drop]
 have hWL : Lim W := by rw [hW]; exact Lim_drop ho.2 _
 rw [<- hW] at hu ⊢
 obtain ⟨u, hueq⟩ := yx (val (W.take (n + 1)))
 obtain ⟨v, hveq⟩ := yx (val vs)
 rw [<- hueq, <- hveq] at hu ⊢
 have hvn : vs.length = n := hv.len
 have hvL := hv.lim
 generalize hv1 : nth vs (n - 1) = v1 at *
 generalize hv2 : nth vs (n - 2) = v2 at *
 generalize hu0 : nth U (j + n) = u0 at *
 generalize hu1 : nth U (j + (n - 1)) = u1 at *
 generalize hu2 : nth U (j + (n - 2)) = u2 at *
 have eu : u = val (W.take (n - 2)) + 4294967296 ^ (n - 2) * (u2 + 4294967296 * u1 + 18446744073709551616 * u0) := by
  have e1 := val_take_nth W (n - 2)
  have e2 := val_take_nth W (n - 1)
  have e3 := val_take_nth W n
  rw [hWn, hu2] at e1
  rw [hWn, hu1] at e2
  rw [hWn, hu0] at e3
  rw [show n - 2 + 1 = n - 1 by omega] at e1
  rw [show n - 1 + 1 = n by omega, e1, show n - 1 = (n - 2) + 1 by omega, Nat.pow_succ, Nat.mul_assoc] at e2
  rw [e2, show n = (n - 2) + 1 + 1 by omega, Nat.pow_succ, Nat.pow_succ, Nat.mul_assoc, Nat.mul_assoc] at e3
  rw [show (n - 2) + 1 + 1 = n by omega] at e3
  rw [hueq, e3, Nat.mul_add, Nat.mul_add]
  have e4 : (18446744073709551616 : Nat) * u0 = 4294967296 * (4294967296 * u0) := by omega
  rw [e4]
  omega
 have ev : v = val (vs.take (n - 2)) + 4294967296 ^ (n - 2) * (v2 + 4294967296 * v1) := by
  have e1 := val_take_nth vs (n - 2)
  have e2 := val_take_nth vs (n - 1)
  rw [hv2] at e1
  rw [hv1] at e2
  rw [show n - 2 + 1 = n - 1 by omega] at e1
  rw [show n - 1 + 1 = n by omega, e1, show n - 1 = (n - 2) + 1 by omega, Nat.pow_succ, Nat.mul_assoc, take_all (by omega)] at e2
  rw [hveq, e2, Nat.mul_add]
  omega
 have hp : 0 < 4294967296 ^ (n - 2) := Nat.pow_pos (by omega)
 have hulo : val (W.take (n - 2)) < 4294967296 ^ (n - 2) := by
  have := val_lt (Lim_take hWL (n - 2)); rwa [List.length_take, Nat.min_eq_left (by omega)] at this
 have hvlo : val (vs.take (n - 2)) < 4294967296 ^ (n - 2) := by
  have := val_lt (Lim_take hvL (n - 2)); rwa [List.length_take, Nat.min_eq_left (by omega)] at this
 have bu : (u2 + 4294967296 * u1 + 18446744073709551616 * u0) * 4294967296 ^ (n - 2) <= u /\ u < (u2 + 4294967296 * u1 + 18446744073709551616 * u0 + 1) * 4294967296 ^ (n - 2) := by
  rw [eu]
  generalize u2 + 4294967296 * u1 + 18446744073709551616 * u0 = T
  rw [Nat.add_mul T 1, Nat.one_mul, Nat.mul_comm T]
  exact ⟨by omega, by omega⟩
 have bv : (v1 * 4294967296 + v2) * 4294967296 ^ (n - 2) <= v /\ v < (v1 * 4294967296 + v2 + 1) * 4294967296 ^ (n - 2) := by
  rw [ev, show v1 * 4294967296 + v2 = v2 + 4294967296 * v1 by omega]
  generalize v2 + 4294967296 * v1 = T
  rw [Nat.add_mul T 1, Nat.one_mul, Nat.mul_comm T]
  exact ⟨by omega, by omega⟩
 have hv0 : 0 < v := by
  have : 0 < (v1 * 4294967296 + v2) * 4294967296 ^ (n - 2) := Nat.mul_pos (by omega) hp
  omega
 have hu0v : u0 <= v1 := by
  rcases Nat.lt_or_ge v1 u0 with h | h
  ·exfalso
   have h1 : 4294967296 * v < 4294967296 * ((v1 * 4294967296 + v2 + 1) * 4294967296 ^ (n - 2)) := Nat.mul_lt_mul_of_pos_left bv.2 (by omega)
   have h2 : (4294967296 * (v1 * 4294967296 + v2 + 1)) * 4294967296 ^ (n - 2) <= (u2 + 4294967296 * u1 + 18446744073709551616 * u0) * 4294967296 ^ (n - 2) := Nat.mul_le_mul_right _ (by omega)
   rw [Nat.mul_assoc] at h2
   omega
  ·exact h
 have hq : u / v < 4294967296 := Nat.div_lt_of_lt_mul (by rw [Nat.mul_comm]; exact hu)
 have low : ∀ G, u2 + 4294967296 * u1 + 18446744073709551616 * u0 < G * (v1 * 4294967296 + v2) -> u / v < G := fun G h => guess_low bv.1 bu.2 h
 have high : ∀ G, G < 4294967296 -> G * (v1 * 4294967296 + v2) <= u2 + 4294967296 * u1 + 18446744073709551616 * u0 -> G <= u / v + 1 := fun G h1 h2 => guess_high bv.2 bv.1 bu.1 (by omega) h1 h2
 have HUV := vv (And.intro hueq hveq)
 have HWF := vv (And.intro hW (And.intro hWl (And.intro hWn hWL)))
 have HVF := vv (And.intro hvn hvL)
 have HLow := vv low
 have HHigh := vv high
 have HOwn := vv ho
 have HHv := vv hv
 have HQ := vv hq
 have HV0 := vv hv0
 have HU0 := vv hu0
 clear hueq hveq hW hWl hWn hWL hvn hvL low high eu ev bu bv hp hulo hvlo hv1 hv2 hu0 hu1 hu2 hq hu
 have hor := or32 u1 u0 m1 m0
 have i1 : (0 : Int) <= (n : Int) - 1 := by omega
 have i2 : (n : Int) - 1 < (n : Int) := by omega
 have i3 : (0 : Int) <= (n : Int) := by omega
 have i4 : (n : Int) < (n : Int) + 1 := by omega
 have i5 : (n : Int) - 1 < (n : Int) + 1 := by omega
 have i6 : (0 : Int) <= (n : Int) - 2 := by omega
 have i7 : (n : Int) - 2 < (n : Int) := by omega
 have i8 : (n : Int) - 2 < (n : Int) + 1 := by omega
 go_enter Tryz.func370, Tryz.ntmps370
 go_wp2_with fail
 go_quiet (fail)
 go_upto_block 0 with fail
 go_cut [8] (fun s8 wx => ∃ G k : Nat, s8 = .int .u64 G /\ wx = w.drewN k /\ G < 4294967296 /\ u / v <= G /\ G <= u / v + 1)
 case first =>
  go_wp2_with fail
  go_loopw [8, 9] (fun g r wx => ∃ G R k : Nat, g = .int .u64 G /\ r = .int .u64 R /\ wx = w.drewN k /\ G * v1 + R = u1 + 4294967296 * u0 /\ u / v <= G /\ R < 4294967296 /\ G <= 4294967297) (fun g _ _ => (intOf g).toNat)
  case atStart =>
   obtain ⟨f1, f2, f3⟩ := guess_first (v2 := v2) (u2 := u2) htop l1 hu0v m1 m2
   have e0 : (u1 : Int) + 4294967296 * (u0 : Int) = ((u1 + 4294967296 * u0 : Nat) : Int) := by omega
   refine ⟨(u1 + 4294967296 * u0) / v1, (u1 + 4294967296 * u0) % v1, _, congrArg _ (by rw [e0, Int.natCast_ediv]), congrArg _ (by rw [e0, Int.natCast_emod]), rfl, f3, ?_, Nat.lt_trans (Nat.mod_lt _ (by omega)) l1, f2⟩
   have := HLow.out _ f1
   exact Nat.le_of_lt_succ this
  case round =>
   obtain ⟨G, R, k, rfl, rfl, rfl, he, hql, hR, hG⟩ := hrel
   have hor2 := or32 u2 R m2 hR
   have HE := vv he
   have HQL := vv hql
   clear he hql
   have toOut : ∀ G R, G * v1 + R = u1 + 4294967296 * u0 -> 4294967296 <= R -> G < 4294967296 /\ G <= u / v + 1 := fun G R h1 h2 => by
    obtain ⟨g1, g2⟩ := guess_break (v2 := v2) h1 hu0v m1 h2 l2
    exact ⟨g1, HHigh.out G g1 (guess_out h1 (g2 u2))⟩
   have HTO := vv toOut
   clear toOut
   by_cases hGB : 4294967296 <= G
   ·have t1 : decide ((4294967296 : Int) <= (G : Int)) = true := by simp; omega
    have HD := vv (dec_mul HE.out (by omega))
    have hq1 : Hid (u / v <= G - 1) := vv (by have := HQ.out; omega)
    by_cases hB : 4294967296 <= R + v1
    ·have t2 : decide ((4294967296 : Int) <= (R : Int) + (v1 : Int)) = true := by simp; omega
     have HB := vv hB
     clear hB
     go_wp2_with fail
     go_quiet (fail)
     go_wp2_with fail
     go_meet
     exact ⟨G - 1, _, by go_num, rfl, (HTO.out _ _ HD.out HB.out).1, hq1.out, (HTO.out _ _ HD.out HB.out).2⟩
    ·have t2 : decide ((4294967296 : Int) <= (R : Int) + (v1 : Int)) = false := by simp; omega
     have HB := vv hB
     clear hB
     go_wp2_with fail
     go_quiet (fail)
     go_wp2_with fail
     go_roundw
     case rel => exact ⟨G - 1, R + v1, _, by go_num, by go_num, rfl, HD.out, hq1.out, by have := HB.out; omega, by omega⟩
     case measure => simp [intOf]; omega
   ·have t1 : decide ((4294967296 : Int) <= (G : Int)) = false := by simp; omega
    have hmb := mul_bound (x := G) (y := v2) (by omega) l2
    have p1 : (G : Int) * (v2 : Int) <= 18446744065119617025 := by
     have : ((G * v2 : Nat) : Int) <= 18446744065119617025 := by omega
     rwa [Int.natCast_mul] at this
    have p2 : (0 : Int) <= (G : Int) * (v2 : Int) := Int.mul_nonneg (Int.natCast_nonneg _) (Int.natCast_nonneg _)
    clear hmb
    by_cases hP : R * 4294967296 + u2 < G * v2
    ·have hq1 : Hid (u / v < G) := vv (HLow.out G (guess_in HE.out hP))
     have hG0 : 0 < G := by
      rcases Nat.eq_zero_or_pos G with h | h
      ·subst h; rw [Nat.zero_mul] at hP; omega
      ·exact h
     have HD := vv (dec_mul HE.out hG0)
     have hP' : (u2 : Int) + 4294967296 * (R : Int) < (G : Int) * (v2 : Int) := by
      have : ((R * 4294967296 + u2 : Nat) : Int) < ((G * v2 : Nat) : Int) := by omega
      rw [Int.natCast_mul] at this
      omega
     have hq2 : Hid (u / v <= G - 1) := vv (by have := hq1.out; omega)
     clear hP
     by_cases hB : 4294967296 <= R + v1
     ·have t2 : decide ((4294967296 : Int) <= (R : Int) + (v1 : Int)) = true := by simp; omega
      have HB := vv hB
      clear hB
      go_wp2_with fail
      go_quiet (fail)
      go_wp2_with fail
      go_meet
      exact ⟨G - 1, _, by go_num, rfl, (HTO.out _ _ HD.out HB.out).1, hq2.out, (HTO.out _ _ HD.out HB.out).2⟩
     ·have t2 : decide ((4294967296 : Int) <= (R : Int) + (v1 : Int)) = false := by simp; omega
      have HB := vv hB
      clear hB
      go_wp2_with fail
      go_quiet (fail)
      go_wp2_with fail
      go_roundw
      case rel => exact ⟨G - 1, R + v1, _, by go_num, by go_num, rfl, HD.out, hq2.out, by have := HB.out; omega, by omega⟩
      case measure => simp [intOf]; omega
    ·have hP' : ¬ (u2 : Int) + 4294967296 * (R : Int) < (G : Int) * (v2 : Int) := by
      intro h
      have : ((R * 4294967296 + u2 : Nat) : Int) < ((G * v2 : Nat) : Int) := by rw [Int.natCast_mul]; omega
      omega
     have hq2 : Hid (G <= u / v + 1) := vv (HHigh.out G (by omega) (guess_out HE.out (by omega)))
     clear hP
     go_wp2_with fail
     go_quiet (fail)
     go_wp2_with fail
     go_meet
     exact ⟨G, _, rfl, World.drewN_drewN _ _ _, by omega, HQL.out, hq2.out⟩
 case rest =>
  obtain ⟨G, k, rfl, rfl, hG, hlo, hhi⟩ := hcut
  have HHi := vv hhi
  have HLo := vv hlo
  have HGb := vv hG
  clear hhi hlo hor c1 c2 d1 d2 d0
  have hGx : (G : Int) <= 4294967295 := by omega
  clear hG
  go_wp2_with fail
  go_loopw [10, 11, 12] (fun c bo i wx => ∃ (x y k : Nat) (X : List Nat), c = .int .u64 x /\ bo = .int .u64 y /\ i = .int .i64 k /\ x < 4294967296 /\ y <= 1 /\ k <= n /\ X.length = U.length /\ Own wx g 34 X /\
   (∀ p, p < j \/ j + k <= p -> nth X p = nth U p) /\ val ((X.drop j).take k) + G * val (vs.take k) = val (W.take k) + 4294967296 ^ k * (x + y) /\ w.grownBy wx (some g)) (fun _ _ i _ => n - (intOf i).toNat)
  case atStart => exact ⟨0, 0, 0, U, rfl, rfl, rfl, by omega, by omega, Nat.zero_le _, rfl, HOwn.out.drewN _, fun _ _ => rfl, by simp [val], only_drewN (World.grownBy.refl _ _) _⟩
  case round =>
   obtain ⟨x, y, k, X, rfl, rfl, rfl, hx, hy, hk, hXl, hown, hsame, hval, honly⟩ := hrel
   have HV := vv hval
   have HL := vv hXl
   have HS := vv hsame
   have HO := vv hown
   clear hval hXl hsame
   by_cases hkn : k < n
   ·have hvc : wr.cell? ⟨b, off + k, none⟩ = some (.int .u32 ((nth vs k : Nat) : Int)) := (only_cell honly (p := ⟨b, off + k, none⟩) hbl hbg).trans (HC.out k hkn)
    have hvl := HHv.out.nth_lt k
    have hxc := hown.cell (i := j + k) (by rw [HL.out]; omega)
    have hf := hown.frozen (j + k)
    have hxl := hown.nth_lt (j + k)
    clear hown
    have hmb := mul_bound HGb.out hvl
    have p1 : (G : Int) * ((nth vs k : Nat) : Int) <= 18446744065119617025 := by
     have : ((G * nth vs k : Nat) : Int) <= 18446744065119617025 := by omega
     rwa [Int.natCast_mul] at this
    have p2 : (0 : Int) <= (G : Int) * ((nth vs k : Nat) : Int) := Int.mul_nonneg (Int.natCast_nonneg _) (Int.natCast_nonneg _)
    have HM := vv hmb
    clear hmb
    obtain ⟨dd, q, b1, b2, b3⟩ := borrow (nth X (j + k)) ((G * nth vs k + x) % 4294967296) y hxl (Nat.mod_lt _ (by omega)) hy
    have MS := vv (msub64 (nth X (j + k)) (G * nth vs k + x) y G (nth vs k) x rfl (by have := HM.out; omega) hxl hy dd q b1 b2 b3)
    have B3 := vv b3
    clear b3
    go_wp2
    go_roundw
    case rel =>
     refine ⟨(G * nth vs k + x) / 4294967296, q, k + 1, X.set (j + k) dd, congrArg _ MS.out.2.2, congrArg _ MS.out.1, by go_num, by have := HM.out; omega, b2, by omega, by rw [List.length_set]; exact HL.out,
      HO.out.set (by rw [HL.out]; omega) b1 MS.out.2.1, fun p hp => ?_, ?_, only_setCell honly (.inl rfl) _⟩
     ·rw [nth_set_ne _ _ (by omega)]
      exact HS.out p (by omega)
     ·rw [drop_set_add]
      refine msub_step (by rw [List.length_drop, HL.out]; omega) ?_ (by rw [nth_drop]; exact B3.out) HV.out
      rw [nth_drop, HWF.out.2.2.1]
      exact HS.out _ (by omega)
    case measure => simp [intOf]; omega
   ·obtain rfl : k = n := by omega
    have hxc := hown.cell (i := j + k) (by rw [HL.out]; omega)
    have hf := hown.frozen (j + k)
    have hx0 : nth X (j + k) = u0 := by
     rw [HS.out _ (by omega)]; exact HU0.out
    rw [hx0] at hxc
    clear hx0 hown
    obtain ⟨dd, q, b1, b2, b3⟩ := borrow u0 x y m0 hx hy
    have MS := vv (sub64b u0 x y m0 hx hy dd q b1 b2 b3)
    have hfin : val (((X.set (j + k) dd).drop j).take (k + 1)) + G * v = u + 4294967296 ^ (k + 1) * q := by
     rw [drop_set_add]
     refine msub_last (u0 := u0) (x := x) (y := y) (by rw [List.length_drop, HL.out]; omega) HUV.out.1 (by rw [HWF.out.2.2.1]; exact HU0.out) b3 ?_
     have := HV.out
     rw [take_all (xs := vs) (by rw [HVF.out.1]; omega), <- HUV.out.2] at this
     exact this
    have HX := vv (HO.out.set (i := j + k) (x := dd) (by rw [HL.out]; omega) b1 MS.out.2)
    have HXs : Hid (∀ p, p < j \/ j + k + 1 <= p -> nth (X.set (j + k) dd) p = nth U p) := vv fun p hp => by
     rw [nth_set_ne _ _ (by omega)]
     exact HS.out p (by omega)
    have HXl : Hid ((X.set (j + k) dd).length = U.length) := vv (by rw [List.length_set]; exact HL.out)
    have hwl : val (((X.set (j + k) dd).drop j).take (k + 1)) < 4294967296 ^ (k + 1) := by
     have := val_lt (Lim_take (Lim_drop HX.out.2 j) (k + 1))
     rwa [List.length_take, List.length_drop, HXl.out, Nat.min_eq_left (by omega)] at this
    have honly' := only_setCell honly (p := ⟨g, j + k, none⟩) (.inl rfl) (.int .u32 (IntKind.u64.wrap (IntKind.u64.wrap ((u0 : Int) - (x : Int)) - (y : Int)) % 4294967296))
    rcases Nat.eq_zero_or_pos q with hq0 | hq1
    ·subst hq0
     rw [Nat.mul_zero, Nat.add_zero] at hfin
     obtain ⟨r1, r2⟩ := fig_right hfin HLo.out HV0.out rfl hwl
     have t1 : (IntKind.u64.wrap (IntKind.u64.wrap ((u0 : Int) - (x : Int)) - (y : Int)) / 9223372036854775808 == 0) = true := by rw [MS.out.1]; rfl
     have R1 := vv r1
     have R2 := vv r2
     clear r1 r2 hfin hwl b3
     go_wp2
     go_ret
     exact ⟨retI (by rw [R1.out]; rfl), ⟨_, HX.out, HXl.out, HXs.out, R2.out⟩, honly'⟩
    ·obtain rfl : q = 1 := by omega
     rw [Nat.mul_one] at hfin
     obtain ⟨r1, r2⟩ := fig_more hfin hwl HHi.out HV0.out
     have t1 : (IntKind.u64.wrap (IntKind.u64.wrap ((u0 : Int) - (x : Int)) - (y : Int)) / 9223372036854775808 == 0) = false := by rw [MS.out.1]; rfl
     have R1 := vv r1
     have R2 := vv r2
     clear r1 r2 hfin hwl b3
     have HXn : Hid (nth (X.set (j + k) dd) (j + k) = dd) := vv (by rw [nth_set _ _ _ _ (by rw [HL.out]; omega), if_pos rfl])
     have HDD := vv b1
     clear HO HS HV HL MS
     generalize X.set (j + k) dd = Z at *
     obtain ⟨wo, rfl⟩ : ∃ wo : World, wo = wr := ⟨_, rfl⟩
     go_wp2
     go_loopw [16, 17] (fun c i wx => ∃ (x p : Nat) (Y : List Nat), c = .int .u64 x /\ i = .int .i64 p /\ x <= 1 /\ p <= k /\ Y.length = U.length /\ Own wx g 34 Y /\
      (∀ q, q < j \/ j + p <= q -> nth Y q = nth Z q) /\ val ((Y.drop j).take p) + 4294967296 ^ p * x = val ((Z.drop j).take p) + val (vs.take p) /\ w.grownBy wx (some g)) (fun _ i _ => k - (intOf i).toNat)
     case atStart => exact ⟨0, 0, Z, rfl, rfl, by omega, Nat.zero_le _, HXl.out, HX.out, fun _ _ => rfl, by simp [val], honly'⟩
     case round =>
      clear honly' honly hxc hf
      obtain ⟨x', p, Y, rfl, rfl, hx', hp, hYl, hown, hsame, hval, hon⟩ := hrel
      have HV := vv hval
      have HL := vv hYl
      have HS := vv hsame
      have HO := vv hown
      clear hval hYl hsame
      by_cases hpk : p < k
      ·have hvc : wr.cell? ⟨b, off + p, none⟩ = some (.int .u32 ((nth vs p : Nat) : Int)) := (only_cell hon (p := ⟨b, off + p, none⟩) hbl hbg).trans (HC.out p hpk)
       have hvl := HHv.out.nth_lt p
       have hyc := hown.cell (i := j + p) (by rw [HL.out]; omega)
       have hyf := hown.frozen (j + p)
       have hyl := hown.nth_lt (j + p)
       have k1 : (p : Int) < (k : Int) := by omega
       have k2 : (0 : Int) <= (p : Int) := by omega
       have k3 : (p : Int) < (k : Int) + 1 := by omega
       clear hown
       go_wp2_with fail
       go_quiet (fail)
       go_wp2
       go_roundw
       case rel =>
        refine ⟨(nth Y (j + p) + nth vs p + x') / 4294967296, p + 1, Y.set (j + p) ((nth Y (j + p) + nth vs p + x') % 4294967296), congrArg _ (by omega), by go_num, by omega, by omega, by rw [List.length_set]; exact HL.out,
         (HO.out.drewN _).set (by rw [HL.out]; omega) (Nat.mod_lt _ (by omega)) (by omega), fun q hq => ?_, ?_, only_setCell (only_drewN hon _) (.inl rfl) _⟩
        ·rw [nth_set_ne _ _ (by omega)]
         exact HS.out q (by omega)
        ·rw [drop_set_add]
         have := madd_step (vs := vs) (W := Z.drop j) (X := Y.drop j) (i := p) (c := x') (by rw [List.length_drop, HL.out]; omega) (by rw [nth_drop, nth_drop]; exact HS.out _ (by omega)) HV.out
         rw [nth_drop] at this
         exact this
       case measure => simp [intOf]; omega
      ·obtain rfl : p = k := by omega
       have hyc := hown.cell (i := j + p) (by rw [HL.out]; omega)
       have hyf := hown.frozen (j + p)
       have e0 : nth Y (j + p) = dd := by rw [HS.out _ (by omega)]; exact HXn.out
       rw [e0] at hyc
       clear e0 hown
       have hdd := HDD.out
       have hfin : val (((Y.set (j + p) ((dd + x') % 4294967296)).drop j).take (p + 1)) = u % v := by
        have h1 := HV.out
        rw [take_all (xs := vs) (by rw [HVF.out.1]; omega), <- HUV.out.2] at h1
        have h2 := R2.out
        rw [val_take_nth (Z.drop j), nth_drop, HXn.out] at h2
        have h3 : val ((Y.drop j).take p) < 4294967296 ^ p := by
         have := val_lt (Lim_take (Lim_drop HO.out.2 j) p)
         rwa [List.length_take, List.length_drop, HL.out, Nat.min_eq_left (by omega)] at this
        have h4 : u % v < 4294967296 ^ p := Nat.lt_of_lt_of_le (Nat.mod_lt _ HV0.out) (by
         have := val_lt HVF.out.2
         rw [HVF.out.1, <- HUV.out.2] at this
         omega)
        have h5 : val ((Y.drop j).take p) + 4294967296 ^ p * (x' + dd) = u % v + 4294967296 ^ p * 4294967296 := by
         rw [Nat.pow_succ] at h2
         rw [Nat.mul_add]
         omega
        obtain ⟨h6, h7⟩ := fig_last h3 h4 h5
        rw [drop_set_add, val_take_set _ _ _ (by rw [List.length_drop, HL.out]; omega), show dd + x' = 4294967296 by omega, h7]
        simp
       have HFin := vv hfin
       clear hfin
       have HG0 := vv (show u / v < 4294967296 from HQ.out)
       have hG1 : (1 : Int) <= (G : Int) := by
        have h1 := R1.out
        rw [h1, Int.natCast_add]
        have := Int.natCast_nonneg (u / v)
        omega
       go_wp2
       go_ret
       refine ⟨retI ?_, ⟨Y.set (j + p) ((dd + x') % 4294967296), HO.out.set (by rw [HL.out]; omega) (Nat.mod_lt _ (by omega)) (by omega), by rw [List.length_set]; exact HL.out, fun q hq => ?_, HFin.out⟩, only_setCell hon (.inl rfl) _⟩
       ·have h1 := R1.out
        have h2 := HG0.out
        generalize u / v = Q at *
        omega
       ·rw [nth_set_ne _ _ (by omega), HS.out q (by omega)]
        exact HXs.out q hq
end Go.Proofs.YtddaldghlinokaaGreatDoor.A
