/- Lemmas. -/
import Derived.Test.YtddaldghlinokaaGreatDoorPartAR
import Derived.Test.YtddaldghlinokaaGreatDoorPartAB
import Derived.Deep.LoopGhost
set_option linter.all false
namespace Go.Proofs.YtddaldghlinokaaGreatDoor.B
open Go Go.RowKit
def Pair (a b : Nat) (w0 : World) (s0 s1 : Value) (wx : World) : Prop :=
 ∃ (A : Option Addr) (n c x : Nat) (B : Option Addr) (m d y : Nat), s0 = .slice A n c /\ s1 = .slice B m d /\ Rd wx A n c (toL x) /\ Rd wx B m d (toL y) /\ y <= x /\ Nat.gcd x y = Nat.gcd a b /\ n < 17179869184 /\ Below w0.heap.size w0 wx /\ Std wx
end Go.Proofs.YtddaldghlinokaaGreatDoor.B
namespace Go.Proofs.YtddaldghlinokaaGreatDoor.A
open Go Go.RowKit
theorem two_words {N : Nat} (h : N < 4294967296 ^ 2) : nth (toL N) 0 + 4294967296 * nth (toL N) 1 = N := by
 rw [nth_toL, nth_toL, Nat.pow_zero, Nat.pow_one]
 rw [show (4294967296 : Nat) ^ 2 = 18446744073709551616 by rfl] at h
 omega
def Pair (a b : Nat) (w0 : World) (s0 s1 : Value) (wx : World) : Prop :=
 ∃ (A : Option Addr) (n c x : Nat) (B : Option Addr) (m d y : Nat), s0 = .slice A n c /\ s1 = .slice B m d /\ Rd wx A n c (toL x) /\ Rd wx B m d (toL y) /\ y <= x /\ Nat.gcd x y = Nat.gcd a b /\ n < 17179869184 /\ Below w0.heap.size w0 wx /\ Std wx
set_option maxHeartbeats 1000000 in
set_option maxRecDepth 100000 in
theorem common (A B : Option Addr) (n m c d a b : Nat) (w : World) (ha : Rd w A n c (toL a)) (hb : Rd w B m d (toL b)) (hs : Std w) (hn : n < 17179869184) (hm : m < 17179869184) :
  Calls Tryz.prog 311 #[.slice A n c, .slice B m d] w (AddPost (Nat.gcd a b) w) := by
 have hc : Calls Tryz.prog 313 #[.slice A n c, .slice B m d] w fun e w' => e = .returned (.int .i64 (cmpI a b)) /\ Below w.heap.size w w' := by
  have := cmpWords A B n m c d (toL a) (toL b) w ha hb (by rw [val_toL]) (by rw [val_toL])
  rw [val_toL, val_toL] at this
  exact this
 have HC := vv hc
 have HA := vv ha
 have HB := vv hb
 have HS := vv hs
 clear hc ha hb hs
 go_enter Tryz.func311, Tryz.ntmps311
 go_wp2_with fail
 refine HC.out.mono ?_
 rintro e w1 ⟨rfl, hB1⟩
 have HA1 := vv (HA.out.below hB1 rfl)
 have HB1 := vv (HB.out.below hB1 rfl)
 have HBL := vv hB1
 have HS1 := vv (HS.out.below hB1)
 clear hB1
 go_upto_if 25 with fail
 go_cut [0, 1] (fun s0 s1 wx => Pair a b w s0 s1 wx)
 case first =>
  rcases Nat.lt_or_ge a b with h | h
  ·have t0 : cmpI a b < 0 := by rw [cmpI_lt h]; omega
   go_wp2
   go_meet
   case rel => exact ⟨B, m, d, b, A, n, c, a, rfl, rfl, HB1.out, HA1.out, Nat.le_of_lt h, Nat.gcd_comm b a, hm, HBL.out, HS1.out⟩
  ·have t0 : 0 <= cmpI a b := cmpI_ge_zero.2 h
   go_wp2
   go_meet
   case rel => exact ⟨A, n, c, a, B, m, d, b, rfl, rfl, HA1.out, HB1.out, h, rfl, hn, HBL.out, HS1.out⟩
 case rest =>
  obtain ⟨A1, n1, c1, x, B1, m1, d1, y, rfl, rfl, hA, hB, hyx, hg, hn1, hbel, hstd⟩ := hcut
  have HA2 := vv hA
  have HB2 := vv hB
  have HG := vv hg
  have HBL2 := vv hbel
  have HS2 := vv hstd
  have hmn : m1 <= n1 := hB.le_of hA hyx
  have hm0 : m1 = 0 ↔ y = 0 := by rw [<- hB.words]; exact words_eq_zero
  have hn0 : n1 = 0 ↔ x = 0 := by rw [<- hA.words]; exact words_eq_zero
  clear HC HA HB HS HA1 HB1 HBL HS1 hA hB hg hbel hstd
  obtain ⟨w2, rfl⟩ : ∃ w2 : World, w2 = wc := ⟨_, rfl⟩
  rcases Nat.eq_zero_or_pos y with hy0 | hy0
  ·obtain rfl : m1 = 0 := hm0.2 hy0
   have HY := vv hy0
   clear hy0 hm0
   have HGX : Hid (x = Nat.gcd a b) := vv (by rw [<- HG.out, HY.out, Nat.gcd_zero_right])
   have HCP := vv (copied A1 n1 c1 (toL x) w2 HA2.out)
   clear hyx
   have hcase : n1 = 0 \/ (0 < n1 /\ 0 < x) := by
    rcases Nat.eq_zero_or_pos n1 with h | h
    ·exact .inl h
    ·exact .inr ⟨h, Nat.pos_of_ne_zero fun e => by have := hn0.2 e; omega⟩
   clear hn0
   rcases hcase with rfl | ⟨hn0', hx0⟩
   ·go_wp2_with fail
    go_loopg [0, 1] 0 (fun k s0 s1 wx => s0 = .slice A1 0 c1 /\ s1 = .slice B1 0 d1 /\ wx = w2)
    case atStart => exact ⟨rfl, rfl, rfl⟩
    case round =>
     obtain ⟨rfl, rfl, rfl⟩ := hrel
     go_wp2_with fail
     refine HCP.out.mono ?_
     rintro e w3 ⟨rfl, hO, hB3⟩
     have HO3 := vv hO
     clear hO
     go_wp2
     go_ret
     refine ⟨_, 0, 0, rfl, ?_, Fr.at_ HBL2.out.size, HBL2.out.trans (hB3.mono HBL2.out.size)⟩
     rw [<- HGX.out]
     exact HO3.out.rd HA2.out.len.symm (Nat.le_refl _) HA2.out.sm
   ·have HZA := vv (zeros _ _ _ _ w2 HA2.out hx0 HS2.out)
    have HLA := vv (bitLen _ _ _ _ w2 HA2.out)
    have b2 : bl x <= 549755813888 := by
     have : x < 2 ^ (32 * n1) := by
      have := lt_words x
      rw [HA2.out.words] at this
      rwa [Nat.pow_mul]
     have := bl_le this
     omega
    have b4 := tz_lt_bl hx0
    have hq : ((((tz x : Nat) : Int) + 1) == ((bl x : Nat) : Int)) = true \/ ((((tz x : Nat) : Int) + 1) == ((bl x : Nat) : Int)) = false := by
     cases ((((tz x : Nat) : Int) + 1) == ((bl x : Nat) : Int))
     ·exact .inr rfl
     ·exact .inl rfl
    rcases hq with hq | hq
    all_goals
     go_wp2_with (first
      | (go_at_call 323; (with_reducible refine HZA.out.mono ?_); rintro e w' ⟨rfl, rfl⟩)
      | (go_at_call 213; (with_reducible refine HLA.out.mono ?_); rintro e w' ⟨rfl, rfl⟩))
     go_loopg [0, 1] 0 (fun k s0 s1 wx => s0 = .slice A1 n1 c1 /\ s1 = .slice B1 0 d1 /\ wx = w2)
     case atStart => exact ⟨rfl, rfl, rfl⟩
     case round =>
      obtain ⟨rfl, rfl, rfl⟩ := hrel
      go_wp2_with fail
      refine HCP.out.mono ?_
      rintro e w3 ⟨rfl, hO, hB3⟩
      have HO3 := vv hO
      clear hO
      go_wp2
      go_ret
      refine ⟨_, n1, n1, rfl, ?_, Fr.at_ HBL2.out.size, HBL2.out.trans (hB3.mono HBL2.out.size)⟩
      rw [<- HGX.out]
      exact HO3.out.rd HA2.out.len.symm (Nat.le_refl _) HA2.out.sm
  ·have hm0' : 0 < m1 := Nat.pos_of_ne_zero fun e => by have := hm0.1 e; omega
   have hx0 : 0 < x := Nat.lt_of_lt_of_le hy0 hyx
   have hn0' : 0 < n1 := Nat.pos_of_ne_zero fun e => by have := hn0.1 e; omega
   clear hm0 hn0
   have HZB := vv (zeros _ _ _ _ w2 HB2.out hy0 HS2.out)
   have HLB := vv (bitLen _ _ _ _ w2 HB2.out)
   have HZA := vv (zeros _ _ _ _ w2 HA2.out hx0 HS2.out)
   have HLA := vv (bitLen _ _ _ _ w2 HA2.out)
   have b1 : bl y <= 549755813888 := by
    have : y < 2 ^ (32 * m1) := by
     have := lt_words y
     rw [HB2.out.words] at this
     rwa [Nat.pow_mul]
    have := bl_le this
    omega
   have b2 : bl x <= 549755813888 := by
    have : x < 2 ^ (32 * n1) := by
     have := lt_words x
     rw [HA2.out.words] at this
     rwa [Nat.pow_mul]
    have := bl_le this
    omega
   have b3 := tz_lt_bl hy0
   have b4 := tz_lt_bl hx0
   go_upto_if 38 with (first
    | (go_at_call 323; (with_reducible refine HZB.out.mono ?_); rintro e w' ⟨rfl, rfl⟩)
    | (go_at_call 213; (with_reducible refine HLB.out.mono ?_); rintro e w' ⟨rfl, rfl⟩))
   have hr1 : Below w2.heap.size w2 (w2.alloc (.cells #[.int .u32 1] 34)) := (Below.refl _ _).alloc (Nat.le_refl _) _
   have hown : Own (w2.alloc (.cells #[.int .u32 1] 34)) w2.heap.size 34 [1] := Own.lit _ (Lim_cons.2 ⟨by omega, Lim_nil⟩) (by simp [u32s])
   have HR1 := vv (hown.rd (n := 1) (c := 1) rfl (Nat.le_refl _) (by omega))
   have HRB := vv hr1
   have HZB1 := vv (zeros _ _ _ _ _ (HB2.out.below hr1 rfl) hy0 (HS2.out.below hr1))
   have HZA1 := vv (zeros _ _ _ _ _ (HA2.out.below hr1 rfl) hx0 (HS2.out.below hr1))
   clear hr1 hown
   by_cases hq : tz y + 1 = bl y
   ·have hqi : ((tz y : Nat) : Int) + 1 = ((bl y : Nat) : Int) := by omega
    have HGP := vv (gcd_pow_two hx0 hy0 hq)
    clear hq
    have em : min ((tz x : Nat) : Int) ((tz y : Nat) : Int) = ((min (tz x) (tz y) : Nat) : Int) := by omega
    go_wp2_with (first
     | (go_at_call 323; (with_reducible refine HZB1.out.mono ?_); rintro e w' ⟨rfl, rfl⟩)
     | (go_at_call 323; (with_reducible refine HZA1.out.mono ?_); rintro e w' ⟨rfl, rfl⟩))
    refine (up _ _ _ _ (min (tz x) (tz y)) _ rfl _ HR1.out (by omega)).mono ?_
    rintro e w3 ⟨A3, m3, c3, rfl, hR3, hF3, hB3⟩
    go_wp2
    go_ret
    refine ⟨A3, m3, c3, rfl, ?_, hF3.mono ?_, HBL2.out.trans ((HRB.out.trans (hB3.mono HRB.out.size)).mono HBL2.out.size)⟩
    ·rw [<- HG.out, HGP.out]
     exact hR3
    ·exact Nat.le_trans HBL2.out.size HRB.out.size
   ·have hqi : ((((tz y : Nat) : Int) + 1) == ((bl y : Nat) : Int)) = false := by simp; omega
    clear hq
    by_cases hq : tz x + 1 = bl x
    ·have hqj : ((tz x : Nat) : Int) + 1 = ((bl x : Nat) : Int) := by omega
     have HGP : Hid (Nat.gcd x y = 1 * 2 ^ min (tz x) (tz y)) := vv (by rw [Nat.gcd_comm, Nat.min_comm]; exact gcd_pow_two hy0 hx0 hq)
     clear hq
     have em : min ((tz x : Nat) : Int) ((tz y : Nat) : Int) = ((min (tz x) (tz y) : Nat) : Int) := by omega
     go_upto_if 61 with (first
      | (go_at_call 323; (with_reducible refine HZA.out.mono ?_); rintro e w' ⟨rfl, rfl⟩)
      | (go_at_call 213; (with_reducible refine HLA.out.mono ?_); rintro e w' ⟨rfl, rfl⟩))
     go_wp2_with (first
      | (go_at_call 323; (with_reducible refine HZB1.out.mono ?_); rintro e w' ⟨rfl, rfl⟩)
      | (go_at_call 323; (with_reducible refine HZA1.out.mono ?_); rintro e w' ⟨rfl, rfl⟩))
     refine (up _ _ _ _ (min (tz x) (tz y)) _ rfl _ HR1.out (by omega)).mono ?_
     rintro e w3 ⟨A3, m3, c3, rfl, hR3, hF3, hB3⟩
     go_wp2
     go_ret
     refine ⟨A3, m3, c3, rfl, ?_, hF3.mono ?_, HBL2.out.trans ((HRB.out.trans (hB3.mono HRB.out.size)).mono HBL2.out.size)⟩
     ·rw [<- HG.out, HGP.out]
      exact hR3
     ·exact Nat.le_trans HBL2.out.size HRB.out.size
    ·have hqj : ((((tz x : Nat) : Int) + 1) == ((bl x : Nat) : Int)) = false := by simp; omega
     clear hq
     go_wp2_with (first
      | (go_at_call 323; (with_reducible refine HZA.out.mono ?_); rintro e w' ⟨rfl, rfl⟩)
      | (go_at_call 213; (with_reducible refine HLA.out.mono ?_); rintro e w' ⟨rfl, rfl⟩))
     clear hqi hqj HZB HLB HZA HLA HZB1 HZA1 HR1 HRB b1 b2 b3 b4
     have HX := vv hyx
     clear hyx hmn hx0 hy0 hm0' hn0'
     go_loopg [0, 1] (x + y) (fun k s0 s1 wx => ∃ (A : Option Addr) (n c x : Nat) (B : Option Addr) (m d y : Nat), s0 = .slice A n c /\ s1 = .slice B m d /\ Rd wx A n c (toL x) /\ Rd wx B m d (toL y) /\ y <= x /\ Nat.gcd x y = Nat.gcd a b /\ n < 17179869184 /\ Below w.heap.size w wx /\ Std wx /\ x + y <= k)
     case atStart => exact ⟨A1, n1, c1, x, B1, m1, d1, y, rfl, rfl, HA2.out, HB2.out, HX.out, HG.out, hn1, HBL2.out, HS2.out, Nat.le_refl _⟩
     case round =>
      clear HA2 HB2 HG HBL2 HS2 HX hn1
      obtain ⟨A1, n1, c1, x, B1, m1, d1, y, rfl, rfl, hA, hB, hyx, hg, hn1, hbel, hstd, hk⟩ := hrel
      have HA2 := vv hA
      have HB2 := vv hB
      have HG := vv hg
      have HBL2 := vv hbel
      have HS2 := vv hstd
      have hmn : m1 <= n1 := hB.le_of hA hyx
      clear hA hB hg hbel hstd
      obtain ⟨w2, rfl⟩ : ∃ w2 : World, w2 = wr := ⟨_, rfl⟩
      by_cases hm2 : 2 < m1
      ·have hy64 : 18446744073709551616 <= y := by
        apply Nat.le_of_not_lt
        intro hc
        have := HB2.out.bound (k := 2) (by rw [show (4294967296 : Nat) ^ 2 = 18446744073709551616 by rfl]; exact hc)
        omega
       have hblx : 64 < bl x := by
        apply Nat.lt_of_not_le
        intro hc
        have h1 := lt_bl x
        have h2 : 2 ^ bl x <= 2 ^ 64 := Nat.pow_le_pow_right (by omega) hc
        omega
       have hblx2 : bl x <= 549755813888 := by
        have h1 : x < 2 ^ (32 * n1) := by
         have := lt_words x
         rw [HA2.out.words] at this
         rwa [Nat.pow_mul]
        have := bl_le h1
        omega
       obtain ⟨e, he⟩ := yx (bl x - 60)
       have hee : ((bl x : Nat) : Int) - 60 = (e : Int) := by omega
       have hx60 : x < 2 ^ (e + 60) := by rw [he, show bl x - 60 + 60 = bl x by omega]; exact lt_bl x
       have hxe : x / 2 ^ e < 1152921504606846976 := by
        apply Nat.div_lt_of_lt_mul
        rw [show (1152921504606846976 : Nat) = 2 ^ 60 by rfl, <- Nat.pow_add]
        exact hx60
       have HLA := vv (bitLen _ _ _ _ w2 HA2.out)
       have HTA := vv (topBits A1 n1 c1 x e (e : Int) rfl w2 HA2.out (by omega) hx60)
       have HTB := vv (topBits B1 m1 d1 y e (e : Int) rfl w2 HB2.out (by omega) (Nat.lt_of_le_of_lt hyx hx60))
       have HST := vv (lehmer_start hyx hxe)
       have HXE := vv hxe
       have HY64 := vv hy64
       have HXY := vv hyx
       have he2 : e <= 549755813888 := by omega
       clear he hx60 hblx hblx2 hxe hy64
       go_wp2_with (first
        | (go_at_call 213; (with_reducible refine HLA.out.mono ?_); rintro e' w' ⟨rfl, rfl⟩)
        | (go_at_call 365; (with_reducible refine HTA.out.mono ?_); rintro e' w' ⟨rfl, rfl⟩)
        | (go_at_call 365; (with_reducible refine HTB.out.mono ?_); rintro e' w' ⟨rfl, rfl⟩))
       go_loopg [6, 7, 8, 9, 10, 11, 12, 13, 14] (y / 2 ^ e) (fun k s6 s7 s8 s9 s10 s11 s12 s13 s14 wx => ∃ (p q u0 u1 u2 v0 v1 v2 : Nat) (ev : Bool), s6 = .int .u64 p /\ s7 = .int .u64 q /\ s8 = .int .u64 u0 /\ s9 = .int .u64 u1 /\ s10 = .int .u64 u2 /\ s11 = .int .u64 v0 /\ s12 = .int .u64 v1 /\ s13 = .int .u64 v2 /\ s14 = .bool ev /\
        wx = w2 /\ Lehmer x y e p q u1 u2 v1 v2 ev /\ v2 <= 2305843009213693952 /\ ((v0 = 0 /\ u0 <= 1) \/ ∃ A B, Good x y u0 u1 v0 v1 ev A B) /\ q <= k)
       case atStart => exact ⟨x / 2 ^ e, y / 2 ^ e, 0, 1, 0, 0, 0, 1, false, rfl, rfl, rfl, rfl, rfl, rfl, rfl, rfl, rfl, rfl, HST.out, by omega, .inl ⟨rfl, by omega⟩, Nat.le_refl _⟩
       case round =>
        obtain ⟨p, q, u0, u1, u2, v0, v1, v2, ev, rfl, rfl, rfl, rfl, rfl, rfl, rfl, rfl, rfl, rfl, hL, hv2, hgd, hqk⟩ := hrel
        have HL := vv hL
        have l1 := hL.hu1
        have l2 := hL.hu2
        have l3 := hL.hs
        have l4 := hL.hv
        have l5 := hL.h1
        have l6 := hL.hxy
        have l7 := hL.hx
        have HGD := vv hgd
        clear hL hgd HLA HTA HTB HST
        by_cases hc : v2 <= q /\ v1 + v2 <= p - q
        ·obtain ⟨hc1, hc2⟩ := hc
         have HB30 := vv (lehmer_bound HL.out HXE.out hc1)
         have hb30 := HB30.out
         have hq0 : ((q : Int) == 0) = false := by simp; omega
         have HN := vv (lehmer_step HL.out hc1)
         have HLT : Hid (p - p / q * q < q) := vv (by
          have h1 := Nat.mod_lt p (show 0 < q by omega)
          have e1 := Nat.mod_add_div p q
          rw [Nat.mul_comm] at e1
          omega)
         have HGN : Hid ((v1 = 0 /\ u1 <= 1) \/ ∃ A B, Good x y u1 u2 v1 v2 (!ev) A B) := vv (by
          rcases Nat.eq_zero_or_pos v1 with h | h
          ·left
           refine ⟨h, ?_⟩
           have hd := HL.out.det
           have h1 := HL.out.hs
           have h2 := HL.out.hu1
           subst h
           have hv21 : v2 <= 1 := by
            cases ev
            ·simp only [Bool.false_eq_true, if_false, Nat.mul_zero] at hd
             have := Nat.eq_one_of_mul_eq_one_left (m := u1) (n := v2) (by omega)
             omega
            ·simp only [if_true, Nat.mul_zero] at hd
             omega
           omega
          ·right
           exact lehmer_good HL.out HXE.out hc1 hc2 h)
         have hqq : p / q * q <= p := Nat.div_mul_le_self p q
         have htp : p / q <= p := Nat.div_le_self p q
         have hqu : p / q * u2 <= p / q * q := Nat.mul_le_mul_left _ (by omega)
         have hqv : p / q * v2 <= p / q * q := Nat.mul_le_mul_left _ (by omega)
         have hdiv : (p : Int) / (q : Int) = ((p / q : Nat) : Int) := (Int.natCast_ediv _ _).symm
         generalize p / q = t at *
         have m1' : (t : Int) * (q : Int) <= (p : Int) := by have := Int.ofNat_le.2 hqq; rwa [Int.natCast_mul] at this
         have m2' : (t : Int) * (u2 : Int) <= (p : Int) := by have := Int.ofNat_le.2 (Nat.le_trans hqu hqq); rwa [Int.natCast_mul] at this
         have m3' : (t : Int) * (v2 : Int) <= (p : Int) := by have := Int.ofNat_le.2 (Nat.le_trans hqv hqq); rwa [Int.natCast_mul] at this
         have m4' : (0 : Int) <= (t : Int) * (q : Int) := Int.mul_nonneg (Int.natCast_nonneg _) (Int.natCast_nonneg _)
         have m5' : (0 : Int) <= (t : Int) * (u2 : Int) := Int.mul_nonneg (Int.natCast_nonneg _) (Int.natCast_nonneg _)
         have m6' : (0 : Int) <= (t : Int) * (v2 : Int) := Int.mul_nonneg (Int.natCast_nonneg _) (Int.natCast_nonneg _)
         have HQQ := vv hqq
         clear hqu hqv hqq
         go_wp2
         go_roundg (p - t * q)
         case measure => have := HLT.out; omega
         case rel =>
          have := HQQ.out
          exact ⟨q, p - t * q, u1, u2, u1 + t * u2, v1, v2, v1 + t * v2, !ev, rfl, congrArg _ (by omega), rfl, rfl, congrArg _ (by omega), rfl, rfl, congrArg _ (by omega), rfl, rfl, HN.out, by omega, HGN.out, Nat.le_refl _⟩
        ·have hyp : 0 < y := by have := HY64.out; omega
         have HYP := vv hyp
         have hcc : (v2 <= q /\ ¬ v1 + v2 <= p - q) \/ ¬ v2 <= q := by
          by_cases h : v2 <= q
          ·exact .inl ⟨h, fun h' => hc ⟨h, h'⟩⟩
          ·exact .inr h
         clear hqk l1 l2 l3 hc
         rcases HGD.out with ⟨rfl, hu0⟩ | ⟨A0, B0, hG⟩
         ·clear HGD
          have HDV := vv (divWords _ _ _ _ _ _ _ _ _ HA2.out HB2.out hyp (by omega))
          have HGX : Hid (Nat.gcd y (x % y) = Nat.gcd a b) := vv (by rw [<- HG.out, Nat.gcd_comm y, <- Nat.gcd_rec, Nat.gcd_comm])
          have HML := vv (Nat.mod_lt x hyp)
          clear hyp
          rcases hcc with ⟨hc1, hc2⟩ | hc1
          all_goals
           go_wp2_with fail
           refine HDV.out.mono ?_
           rintro e' w3 ⟨A3, m3, c3, A4, m4, c4, rfl, hR3, hR4, hF3, hF4, hB3⟩
           have HR4 := vv hR4
           have HB3 := vv (HB2.out.below hB3 rfl)
           go_wp2
           go_roundg (y + x % y)
           case measure => have := HML.out; have := HXY.out; omega
           case rel => exact ⟨B1, m1, d1, y, A4, m4, c4, x % y, rfl, rfl, HB3.out, HR4.out, Nat.le_of_lt HML.out, HGX.out, by omega, HBL2.out.trans (hB3.mono HBL2.out.size), HS2.out.below hB3, Nat.le_refl _⟩
         ·have hg0 := hG.p0
          have hg1 := hG.bu0
          have hg2 := hG.bu1
          have hg3 := hG.bv0
          have hg4 := hG.bv1
          have HLE := vv (good_le hG)
          have HGG := vv ((good_gcd hG).trans HG.out)
          have HBA := vv hG.le
          have hea := hG.ea
          have heb := hG.eb
          have hlA : A0 <= x := by have := HLE.out; omega
          have hlB : B0 <= x := by have := HLE.out; omega
          have hv0 : ((v0 : Int) == 0) = false := by simp; omega
          clear HGD hG hyp
          cases ev
          ·rw [if_neg (by decide)] at hea heb
           have HP1 := vv (blend A1 B1 n1 m1 c1 d1 x y A0 (-(u0 : Int)) (v0 : Int) _ HA2.out HB2.out (by omega) HXY.out (by omega) (by omega) (by omega) (by omega) (by rw [hea, Int.neg_mul]; omega) hlA)
           have HEB := vv heb
           have HLB := vv hlB
           have HLA := vv hlA
           clear hea heb hlA hlB
           rcases hcc with ⟨hc1, hc2⟩ | hc1
           all_goals
            go_wp2_with fail
            refine HP1.out.mono ?_
            rintro e' w3 ⟨A3, m3, c3, rfl, hR3, hF3, hB3⟩
            go_wp2_with fail
            refine (blend A1 B1 n1 m1 c1 d1 x y B0 (u1 : Int) (-(v1 : Int)) _ (HA2.out.below hB3 rfl) (HB2.out.below hB3 rfl) (by omega) HXY.out (by omega) (by omega) (by omega) (by omega) (by rw [HEB.out, Int.neg_mul]; omega) HLB.out).mono ?_
            rintro e' w4 ⟨A4, m4, c4, rfl, hR4, hF4, hB4⟩
            have HR4 := vv hR4
            have HR3 := vv (hR3.below hB4 rfl)
            have HLN := vv (hR3.le_of HA2.out HLA.out)
            clear hR3 hR4
            go_wp2
            go_roundg (A0 + B0)
            case measure => have := HLE.out; have := HYP.out; omega
            case rel =>
             have := HLN.out
             exact ⟨A3, m3, c3, A0, A4, m4, c4, B0, rfl, rfl, HR3.out, HR4.out, HBA.out, HGG.out, by omega, HBL2.out.trans ((hB3.trans (hB4.mono hB3.size)).mono HBL2.out.size), (HS2.out.below hB3).below hB4, Nat.le_refl _⟩
          ·rw [if_pos rfl] at hea heb
           have HP1 := vv (blend A1 B1 n1 m1 c1 d1 x y A0 (u0 : Int) (-(v0 : Int)) _ HA2.out HB2.out (by omega) HXY.out (by omega) (by omega) (by omega) (by omega) (by rw [hea, Int.neg_mul]; omega) hlA)
           have HEB := vv heb
           have HLB := vv hlB
           have HLA := vv hlA
           clear hea heb hlA hlB
           rcases hcc with ⟨hc1, hc2⟩ | hc1
           all_goals
            go_wp2_with fail
            refine HP1.out.mono ?_
            rintro e' w3 ⟨A3, m3, c3, rfl, hR3, hF3, hB3⟩
            go_wp2_with fail
            refine (blend A1 B1 n1 m1 c1 d1 x y B0 (-(u1 : Int)) (v1 : Int) _ (HA2.out.below hB3 rfl) (HB2.out.below hB3 rfl) (by omega) HXY.out (by omega) (by omega) (by omega) (by omega) (by rw [HEB.out, Int.neg_mul]; omega) HLB.out).mono ?_
            rintro e' w4 ⟨A4, m4, c4, rfl, hR4, hF4, hB4⟩
            have HR4 := vv hR4
            have HR3 := vv (hR3.below hB4 rfl)
            have HLN := vv (hR3.le_of HA2.out HLA.out)
            clear hR3 hR4
            go_wp2
            go_roundg (A0 + B0)
            case measure => have := HLE.out; have := HYP.out; omega
            case rel =>
             have := HLN.out
             exact ⟨A3, m3, c3, A0, A4, m4, c4, B0, rfl, rfl, HR3.out, HR4.out, HBA.out, HGG.out, by omega, HBL2.out.trans ((hB3.trans (hB4.mono hB3.size)).mono HBL2.out.size), (HS2.out.below hB3).below hB4, Nat.le_refl _⟩
      ·by_cases hy0 : y = 0
       ·obtain rfl : m1 = 0 := by rw [<- HB2.out.words]; exact words_eq_zero.2 hy0
        have HGX : Hid (x = Nat.gcd a b) := vv (by rw [<- HG.out, hy0, Nat.gcd_zero_right])
        clear hy0
        have HCP := vv (copied A1 n1 c1 (toL x) w2 HA2.out)
        go_wp2_with fail
        refine HCP.out.mono ?_
        rintro e w3 ⟨rfl, hO, hB3⟩
        have HO3 := vv hO
        clear hO
        go_wp2
        go_ret
        refine ⟨_, n1, n1, rfl, ?_, Fr.at_ HBL2.out.size, HBL2.out.trans (hB3.mono HBL2.out.size)⟩
        rw [<- HGX.out]
        exact HO3.out.rd HA2.out.len.symm (Nat.le_refl _) HA2.out.sm
       ·have hy1 : 0 < y := Nat.pos_of_ne_zero hy0
        have hm1 : ((m1 : Int) == 0) = false := by
         have : m1 ≠ 0 := fun e => hy0 (by have := HB2.out.words; rw [e] at this; exact words_eq_zero.1 this)
         simp; omega
        have hyb : y < 4294967296 ^ 2 := by
         have := lt_words y
         rw [HB2.out.words] at this
         exact Nat.lt_of_lt_of_le this (Nat.pow_le_pow_right (by omega) (by omega))
        have hrb : x % y < 4294967296 ^ 2 := Nat.lt_trans (Nat.mod_lt _ hy1) hyb
        have HV1 := vv (two_words hyb)
        have HV2 := vv (two_words hrb)
        rw [show (4294967296 : Nat) ^ 2 = 18446744073709551616 by rfl] at hyb hrb
        have HYB := vv hyb
        have HRBB := vv hrb
        have HGX : Hid (Nat.gcd y (x % y) = Nat.gcd a b) := vv (by rw [<- HG.out, Nat.gcd_comm y, <- Nat.gcd_rec, Nat.gcd_comm])
        have HDV := vv (divWords _ _ _ _ _ _ _ _ w2 HA2.out HB2.out hy1 (by omega))
        clear hy0 hyb hrb
        go_wp2_with fail
        refine HDV.out.mono ?_
        rintro e w3 ⟨A3, m3, c3, A4, m4, c4, rfl, hR3, hR4, hF3, hF4, hB3⟩
        have HTB := vv (toUint _ _ _ _ w3 (HB2.out.below hB3 rfl))
        have HTR := vv (toUint _ _ _ _ w3 hR4)
        rw [HV1.out] at HTB
        rw [HV2.out] at HTR
        have HBL3 := vn HBL2 hB3
        clear hR3 hR4 hF3 hF4 hB3 HDV HV1 HV2
        generalize x % y = z at *
        go_wp2_with (first
         | (go_at_call 325; (with_reducible refine HTB.out.mono ?_); rintro e w' ⟨rfl, rfl⟩)
         | (go_at_call 325; (with_reducible refine HTR.out.mono ?_); rintro e w' ⟨rfl, rfl⟩))
        go_loopg [20, 21] z (fun k s0 s1 wx => ∃ p q j : Nat, s0 = .int .u64 p /\ s1 = .int .u64 q /\ wx = w3.drewN j /\ Nat.gcd p q = Nat.gcd a b /\ p < 18446744073709551616 /\ q < 18446744073709551616 /\ q <= k)
        case atStart => exact ⟨y, z, 0, rfl, rfl, rfl, HGX.out, HYB.out, HRBB.out, Nat.le_refl _⟩
        case round =>
         obtain ⟨p, q, j, rfl, rfl, rfl, hgq, hp, hq, hqk⟩ := hrel
         have HGQ := vv hgq
         have HP := vv hp
         have HQ := vv hq
         clear hgq
         by_cases hq0 : q = 0
         ·subst hq0
          have HFU := vv (fromUint p (w3.drewN j) hp)
          clear hp hq
          go_wp2_with fail
          refine HFU.out.mono ?_
          rintro e w4 ⟨A4, m4, c4, rfl, hR4, hF4, hB4⟩
          go_wp2
          go_ret
          have hb5 : Below w.heap.size w (w3.drewN j) := below_drewN HBL3.out j
          refine ⟨A4, m4, c4, rfl, ?_, hF4.mono hb5.size, hb5.trans (hB4.mono hb5.size)⟩
          rw [<- HGQ.out, Nat.gcd_zero_right]
          exact hR4
         ·have t0 : ((q : Int) == 0) = false := by simp; omega
          have hem : (p : Int) % (q : Int) = ((p % q : Nat) : Int) := (Int.natCast_emod _ _).symm
          have HM := vv (Nat.mod_lt p (Nat.pos_of_ne_zero hq0))
          go_wp2_with fail
          go_quiet (fail)
          go_wp2
          go_roundg (p % q)
          case measure => have := HM.out; omega
          case rel =>
           exact ⟨q, p % q, _, by go_num, by go_num, World.drewN_drewN _ _ _, by rw [Nat.gcd_comm q, <- Nat.gcd_rec, Nat.gcd_comm]; exact HGQ.out, HQ.out, by have := HM.out; have := HQ.out; omega, Nat.le_refl _⟩
end Go.Proofs.YtddaldghlinokaaGreatDoor.A
