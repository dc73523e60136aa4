/- Lemmas for ReadNumbers. -/
import Derived.Test.YtbfmpcfcmbjeeaaGreatDoorPartAX
set_option linter.all false
namespace Go.Proofs.YtbfmpcfcmbjeeaaGreatDoor.Lex
open Go Go.RowKit R5
set_option maxHeartbeats 40000000 in
theorem Check_d (kind : Nat) (neg dneg : Bool) (s : ByteArray) (x : Int) (hneg : Bool) (A : Option Addr) (n c : Nat) (xs : List Nat) (hx : Int) (p : Nat) (w : World) (hr : Rd w A n c xs) (hmax : (s.size : Int) <= 4611686018427387904) (hd : dneg = true) :
  Calls Tryz.prog 8 #[numV kind neg dneg s x hneg A n c hx p] w fun e w' => e = .returned (.int .i64 (numErr (numOk kind neg dneg s x hneg n xs hx p))) /\ Below w.heap.size w w' := by
 obtain ⟨dec, hdec⟩ := yx (decMay s x)
 obtain ⟨two, htwo⟩ := yx (twoOk hneg n xs hx)
 obtain ⟨nn, hnone⟩ := yx (R11.noTwoB hneg n hx)
 obtain ⟨V, hV⟩ := yx (numOk kind neg dneg s x hneg n xs hx p)
 have HD := vv fun w => Dec.Check dneg s x w hmax
 have HT := vv fun w' (h : Below w.heap.size w w') => Exa.Check hneg A n c xs hx w' (hr.below h rfl)
 have td := Dec.decErr_zero s x
 have tt := Exa.exaErr_zero hneg n xs hx
 obtain ⟨zd, hzd⟩ := yx (Dec.decErr s x)
 obtain ⟨zt, hzt⟩ := yx (Exa.exaErr hneg n xs hx)
 rw [<- hzd, <- hdec] at td
 rw [<- hzd] at HD
 rw [<- hzt, <- htwo] at tt
 rw [<- hzt] at HT
 rw [<- hV]
 unfold numOk at hV
 rw [<- hdec, <- htwo, <- hnone] at hV
 have HV := vv hV
 have HO := vv hnone
 have HTq := vv htwo
 obtain ⟨w0, hw0⟩ := yx (w.alloc (.cells #[.int .u8 (kind : Int), .bool neg, .bool dneg, .string s, .int .i64 x, .bool hneg, .slice A n c, .int .i64 hx, .int .u64 (p : Int)] 33))
 have hB0 : Below w.heap.size w w0 := by rw [hw0]; exact (Below.refl _ w).alloc (Nat.le_refl _) _
 have hN0 : NumBox w0 w.heap.size kind neg dneg s x hneg A n c hx p := by rw [hw0]; exact NumBox.made w _ _ _ _ _ _ _ _ _ _ _ _
 have HN := vv hN0
 have HB := vv hB0
 have HW0 := vv hw0
 have HB0 := vv ((Below.refl w.heap.size w).alloc (o := .cells #[.int .u8 (kind : Int), .bool neg, .bool dneg, .string s, .int .i64 x, .bool hneg, .slice A n c, .int .i64 hx, .int .u64 (p : Int)] 33) (Nat.le_refl _))
 have hsm := hr.sm
 clear hw0 hB0 hN0 hr hdec htwo hnone hV hzd hzt hmax
 obtain ⟨c0, c1, c2, c3, c4, c5, c6, c7, c8, cl⟩ := HN.out
 subst hd
 have HE : Hid (emptyB true s x = false) := vv (by unfold emptyB; rfl)
 go_enter Tryz.func8, Tryz.ntmps8
 by_cases hn : n = 0
 ·have tn : ((n : Int) == 0) = true := by rw [hn]; rfl
  have HNn := vv hn
  cases th : (hx == 0)
  ·have hxne : hx ≠ 0 := by rw [beq_eq_false_iff_ne] at th; exact th
   have HO : Hid (nn = false) := vv (by rw [HO.out]; unfold R11.noTwoB; rw [decide_eq_false hxne]; simp)
   have HZ : Hid (two = true -> n ≠ 0) := vv (fun ht _ => by rw [HTq.out] at ht; exact hxne (twoOk_zero ht hn).1)
   clear hn hxne
   rcases (by omega : kind = 1 \/ kind = 2 \/ kind = 3 \/ kind = 4 \/ (kind ≠ 1 /\ kind ≠ 2 /\ kind ≠ 3 /\ kind ≠ 4)) with hk | hk | hk | hk | ⟨q1, q2, q3, q4⟩
   ·have HK := vv hk
    have t1 : ((kind : Int) == 1) = true := by rw [hk]; rfl
    clear hk
    go_wp2_with fail
    rw [<- HW0.out]
    refine (HD.out _).mono ?_
    rintro e w1 ⟨rfl, hB1⟩
    have HN := vv (HN.out.below hB1)
    have HB := vn HB hB1
    clear hB1 c0 c1 c2 c3 c4 c5 c6 c7 c8 cl
    obtain ⟨c0, c1, c2, c3, c4, c5, c6, c7, c8, cl⟩ := HN.out
    cases dec
    ·have HF : Hid (V = false) := vv (by rw [HV.out, HE.out, HO.out]; simp [HK.out])
     go_wp2
     go_ret
     exact ⟨retI (by rw [HF.out]; rfl), HB.out⟩
    ·cases neg
     ·have HF : Hid (V = false) := vv (by rw [HV.out, HE.out, HO.out]; simp [HK.out])
      go_wp2
      go_ret
      exact ⟨retI (by rw [HF.out]; rfl), HB.out⟩
     ·have HF : Hid (V = false) := vv (by rw [HV.out, HE.out, HO.out]; simp [HK.out])
      go_wp2
      go_ret
      exact ⟨retI (by rw [HF.out]; rfl), HB.out⟩
   ·have HK := vv hk
    have t1 : ((kind : Int) == 1) = false := by rw [beq_eq_false_iff_ne]; omega
    have t2 : ((kind : Int) == 2) = true := by rw [hk]; rfl
    clear hk
    go_wp2_with fail
    rw [<- HW0.out]
    refine (HT.out _ HB.out).mono ?_
    rintro e w1 ⟨rfl, hB1⟩
    have HN := vv (HN.out.below hB1)
    have HB := vn HB hB1
    clear hB1 c0 c1 c2 c3 c4 c5 c6 c7 c8 cl
    obtain ⟨c0, c1, c2, c3, c4, c5, c6, c7, c8, cl⟩ := HN.out
    cases two
    ·have HF : Hid (V = false) := vv (by rw [HV.out, HE.out, HO.out]; simp [HK.out])
     go_wp2
     go_ret
     exact ⟨retI (by rw [HF.out]; rfl), HB.out⟩
    ·cases hneg
     ·cases neg
      ·have HF : Hid (V = false) := vv (by rw [HV.out, HE.out, HO.out]; simp [HK.out])
       go_wp2
       go_ret
       exact ⟨retI (by rw [HF.out]; rfl), HB.out⟩
      ·have HF : Hid (V = false) := vv (by rw [HV.out, HE.out, HO.out]; simp [HK.out])
       go_wp2
       go_ret
       exact ⟨retI (by rw [HF.out]; rfl), HB.out⟩
     ·cases neg
      ·have HF : Hid (V = false) := vv (by rw [HV.out, HE.out, HO.out]; simp [HK.out])
       go_wp2
       go_ret
       exact ⟨retI (by rw [HF.out]; rfl), HB.out⟩
      ·have HF : Hid (V = false) := vv (by rw [HV.out, HE.out, HO.out]; simp [HK.out])
       go_wp2
       go_ret
       exact ⟨retI (by rw [HF.out]; rfl), HB.out⟩
   ·have HK := vv hk
    have t1 : ((kind : Int) == 1) = false := by rw [beq_eq_false_iff_ne]; omega
    have t2 : ((kind : Int) == 2) = false := by rw [beq_eq_false_iff_ne]; omega
    have t3 : ((kind : Int) == 3) = true := by rw [hk]; rfl
    clear hk
    ·have HF : Hid (V = false) := vv (by rw [HV.out, HE.out, HO.out]; simp [HK.out])
     go_wp2
     go_ret
     exact ⟨retI (by rw [HF.out]; rfl), HB0.out⟩
   ·have HK := vv hk
    have t1 : ((kind : Int) == 1) = false := by rw [beq_eq_false_iff_ne]; omega
    have t2 : ((kind : Int) == 2) = false := by rw [beq_eq_false_iff_ne]; omega
    have t3 : ((kind : Int) == 3) = false := by rw [beq_eq_false_iff_ne]; omega
    have t4 : ((kind : Int) == 4) = true := by rw [hk]; rfl
    clear hk
    ·have HF : Hid (V = false) := vv (by rw [HV.out, HE.out, HO.out]; simp [HK.out])
     go_wp2
     go_ret
     exact ⟨retI (by rw [HF.out]; rfl), HB0.out⟩
   ·have t1 : ((kind : Int) == 1) = false := by rw [beq_eq_false_iff_ne]; omega
    have t2 : ((kind : Int) == 2) = false := by rw [beq_eq_false_iff_ne]; omega
    have t3 : ((kind : Int) == 3) = false := by rw [beq_eq_false_iff_ne]; omega
    have t4 : ((kind : Int) == 4) = false := by rw [beq_eq_false_iff_ne]; omega
    ·have HF : Hid (V = false) := vv (by rw [HV.out, HE.out, HO.out]; simp [q1, q2, q3, q4])
     go_wp2
     go_ret
     exact ⟨retI (by rw [HF.out]; rfl), HB0.out⟩
  ·have hxe : hx = 0 := by rw [beq_iff_eq] at th; exact th
   cases hneg
   ·have HO : Hid (nn = true) := vv (by rw [HO.out]; unfold R11.noTwoB; rw [decide_eq_true hn, decide_eq_true hxe]; rfl)
    clear hxe hn
    rcases (by omega : kind = 1 \/ kind = 2 \/ kind = 3 \/ kind = 4 \/ (kind ≠ 1 /\ kind ≠ 2 /\ kind ≠ 3 /\ kind ≠ 4)) with hk | hk | hk | hk | ⟨q1, q2, q3, q4⟩
    ·have HK := vv hk
     have t1 : ((kind : Int) == 1) = true := by rw [hk]; rfl
     clear hk
     go_wp2_with fail
     rw [<- HW0.out]
     refine (HD.out _).mono ?_
     rintro e w1 ⟨rfl, hB1⟩
     have HN := vv (HN.out.below hB1)
     have HB := vn HB hB1
     clear hB1 c0 c1 c2 c3 c4 c5 c6 c7 c8 cl
     obtain ⟨c0, c1, c2, c3, c4, c5, c6, c7, c8, cl⟩ := HN.out
     cases dec
     ·have HF : Hid (V = false) := vv (by rw [HV.out, HE.out, HO.out]; simp [HK.out])
      go_wp2
      go_ret
      exact ⟨retI (by rw [HF.out]; rfl), HB.out⟩
     ·cases neg
      ·have HF : Hid (V = false) := vv (by rw [HV.out, HE.out, HO.out]; simp [HK.out])
       go_wp2
       go_ret
       exact ⟨retI (by rw [HF.out]; rfl), HB.out⟩
      ·by_cases hp : p = 0
       ·have tp : ((p : Int) == 0) = true := by rw [hp]; rfl
        have HP := vv hp
        clear hp
        ·have HF : Hid (V = true) := vv (by rw [HV.out, HE.out, HO.out]; simp [HP.out, HK.out])
         go_wp2
         go_ret
         exact ⟨retI (by rw [HF.out]; rfl), HB.out⟩
       ·have tp : ((p : Int) == 0) = false := by rw [beq_eq_false_iff_ne]; omega
        have HP := vv hp
        clear hp
        ·have HF : Hid (V = false) := vv (by rw [HV.out, HE.out, HO.out]; simp [HP.out, HK.out])
         go_wp2
         go_ret
         exact ⟨retI (by rw [HF.out]; rfl), HB.out⟩
    ·have HK := vv hk
     have t1 : ((kind : Int) == 1) = false := by rw [beq_eq_false_iff_ne]; omega
     have t2 : ((kind : Int) == 2) = true := by rw [hk]; rfl
     clear hk
     go_wp2_with fail
     rw [<- HW0.out]
     refine (HT.out _ HB.out).mono ?_
     rintro e w1 ⟨rfl, hB1⟩
     have HN := vv (HN.out.below hB1)
     have HB := vn HB hB1
     clear hB1 c0 c1 c2 c3 c4 c5 c6 c7 c8 cl
     obtain ⟨c0, c1, c2, c3, c4, c5, c6, c7, c8, cl⟩ := HN.out
     cases two
     ·have HF : Hid (V = false) := vv (by rw [HV.out, HE.out, HO.out]; simp [HK.out])
      go_wp2
      go_ret
      exact ⟨retI (by rw [HF.out]; rfl), HB.out⟩
     ·have HF : Hid (V = false) := vv (by rw [HV.out, HE.out, HO.out]; simp [HK.out])
      go_wp2
      go_ret
      exact ⟨retI (by rw [HF.out]; rfl), HB.out⟩
    ·have HK := vv hk
     have t1 : ((kind : Int) == 1) = false := by rw [beq_eq_false_iff_ne]; omega
     have t2 : ((kind : Int) == 2) = false := by rw [beq_eq_false_iff_ne]; omega
     have t3 : ((kind : Int) == 3) = true := by rw [hk]; rfl
     clear hk
     ·have HF : Hid (V = false) := vv (by rw [HV.out, HE.out, HO.out]; simp [HK.out])
      go_wp2
      go_ret
      exact ⟨retI (by rw [HF.out]; rfl), HB0.out⟩
    ·have HK := vv hk
     have t1 : ((kind : Int) == 1) = false := by rw [beq_eq_false_iff_ne]; omega
     have t2 : ((kind : Int) == 2) = false := by rw [beq_eq_false_iff_ne]; omega
     have t3 : ((kind : Int) == 3) = false := by rw [beq_eq_false_iff_ne]; omega
     have t4 : ((kind : Int) == 4) = true := by rw [hk]; rfl
     clear hk
     ·have HF : Hid (V = false) := vv (by rw [HV.out, HE.out, HO.out]; simp [HK.out])
      go_wp2
      go_ret
      exact ⟨retI (by rw [HF.out]; rfl), HB0.out⟩
    ·have t1 : ((kind : Int) == 1) = false := by rw [beq_eq_false_iff_ne]; omega
     have t2 : ((kind : Int) == 2) = false := by rw [beq_eq_false_iff_ne]; omega
     have t3 : ((kind : Int) == 3) = false := by rw [beq_eq_false_iff_ne]; omega
     have t4 : ((kind : Int) == 4) = false := by rw [beq_eq_false_iff_ne]; omega
     ·have HF : Hid (V = false) := vv (by rw [HV.out, HE.out, HO.out]; simp [q1, q2, q3, q4])
      go_wp2
      go_ret
      exact ⟨retI (by rw [HF.out]; rfl), HB0.out⟩
   ·have HO : Hid (nn = false) := vv (by rw [HO.out]; unfold R11.noTwoB; simp)
    have HZ : Hid (two = true -> n ≠ 0) := vv (fun ht _ => by rw [HTq.out] at ht; exact absurd (twoOk_zero ht hn).2 (by decide))
    clear hn hxe
    rcases (by omega : kind = 1 \/ kind = 2 \/ kind = 3 \/ kind = 4 \/ (kind ≠ 1 /\ kind ≠ 2 /\ kind ≠ 3 /\ kind ≠ 4)) with hk | hk | hk | hk | ⟨q1, q2, q3, q4⟩
    ·have HK := vv hk
     have t1 : ((kind : Int) == 1) = true := by rw [hk]; rfl
     clear hk
     go_wp2_with fail
     rw [<- HW0.out]
     refine (HD.out _).mono ?_
     rintro e w1 ⟨rfl, hB1⟩
     have HN := vv (HN.out.below hB1)
     have HB := vn HB hB1
     clear hB1 c0 c1 c2 c3 c4 c5 c6 c7 c8 cl
     obtain ⟨c0, c1, c2, c3, c4, c5, c6, c7, c8, cl⟩ := HN.out
     cases dec
     ·have HF : Hid (V = false) := vv (by rw [HV.out, HE.out, HO.out]; simp [HK.out])
      go_wp2
      go_ret
      exact ⟨retI (by rw [HF.out]; rfl), HB.out⟩
     ·cases neg
      ·have HF : Hid (V = false) := vv (by rw [HV.out, HE.out, HO.out]; simp [HK.out])
       go_wp2
       go_ret
       exact ⟨retI (by rw [HF.out]; rfl), HB.out⟩
      ·have HF : Hid (V = false) := vv (by rw [HV.out, HE.out, HO.out]; simp [HK.out])
       go_wp2
       go_ret
       exact ⟨retI (by rw [HF.out]; rfl), HB.out⟩
    ·have HK := vv hk
     have t1 : ((kind : Int) == 1) = false := by rw [beq_eq_false_iff_ne]; omega
     have t2 : ((kind : Int) == 2) = true := by rw [hk]; rfl
     clear hk
     go_wp2_with fail
     rw [<- HW0.out]
     refine (HT.out _ HB.out).mono ?_
     rintro e w1 ⟨rfl, hB1⟩
     have HN := vv (HN.out.below hB1)
     have HB := vn HB hB1
     clear hB1 c0 c1 c2 c3 c4 c5 c6 c7 c8 cl
     obtain ⟨c0, c1, c2, c3, c4, c5, c6, c7, c8, cl⟩ := HN.out
     cases two
     ·have HF : Hid (V = false) := vv (by rw [HV.out, HE.out, HO.out]; simp [HK.out])
      go_wp2
      go_ret
      exact ⟨retI (by rw [HF.out]; rfl), HB.out⟩
     ·cases neg
      ·have HF : Hid (V = false) := vv (by rw [HV.out, HE.out, HO.out]; simp [HK.out])
       go_wp2
       go_ret
       exact ⟨retI (by rw [HF.out]; rfl), HB.out⟩
      ·have HF : Hid (V = false) := vv (by rw [HV.out, HE.out, HO.out]; simp [HK.out])
       go_wp2
       go_ret
       exact ⟨retI (by rw [HF.out]; rfl), HB.out⟩
    ·have HK := vv hk
     have t1 : ((kind : Int) == 1) = false := by rw [beq_eq_false_iff_ne]; omega
     have t2 : ((kind : Int) == 2) = false := by rw [beq_eq_false_iff_ne]; omega
     have t3 : ((kind : Int) == 3) = true := by rw [hk]; rfl
     clear hk
     ·have HF : Hid (V = false) := vv (by rw [HV.out, HE.out, HO.out]; simp [HK.out])
      go_wp2
      go_ret
      exact ⟨retI (by rw [HF.out]; rfl), HB0.out⟩
    ·have HK := vv hk
     have t1 : ((kind : Int) == 1) = false := by rw [beq_eq_false_iff_ne]; omega
     have t2 : ((kind : Int) == 2) = false := by rw [beq_eq_false_iff_ne]; omega
     have t3 : ((kind : Int) == 3) = false := by rw [beq_eq_false_iff_ne]; omega
     have t4 : ((kind : Int) == 4) = true := by rw [hk]; rfl
     clear hk
     ·have HF : Hid (V = false) := vv (by rw [HV.out, HE.out, HO.out]; simp [HK.out])
      go_wp2
      go_ret
      exact ⟨retI (by rw [HF.out]; rfl), HB0.out⟩
    ·have t1 : ((kind : Int) == 1) = false := by rw [beq_eq_false_iff_ne]; omega
     have t2 : ((kind : Int) == 2) = false := by rw [beq_eq_false_iff_ne]; omega
     have t3 : ((kind : Int) == 3) = false := by rw [beq_eq_false_iff_ne]; omega
     have t4 : ((kind : Int) == 4) = false := by rw [beq_eq_false_iff_ne]; omega
     ·have HF : Hid (V = false) := vv (by rw [HV.out, HE.out, HO.out]; simp [q1, q2, q3, q4])
      go_wp2
      go_ret
      exact ⟨retI (by rw [HF.out]; rfl), HB0.out⟩
 ·have tn : ((n : Int) == 0) = false := by rw [beq_eq_false_iff_ne]; omega
  have HO : Hid (nn = false) := vv (by rw [HO.out]; unfold R11.noTwoB; rw [decide_eq_false hn]; rfl)
  have HZ : Hid (two = true -> n ≠ 0) := vv (fun _ => hn)
  clear hn
  rcases (by omega : kind = 1 \/ kind = 2 \/ kind = 3 \/ kind = 4 \/ (kind ≠ 1 /\ kind ≠ 2 /\ kind ≠ 3 /\ kind ≠ 4)) with hk | hk | hk | hk | ⟨q1, q2, q3, q4⟩
  ·have HK := vv hk
   have t1 : ((kind : Int) == 1) = true := by rw [hk]; rfl
   clear hk
   go_wp2_with fail
   rw [<- HW0.out]
   refine (HD.out _).mono ?_
   rintro e w1 ⟨rfl, hB1⟩
   have HN := vv (HN.out.below hB1)
   have HB := vn HB hB1
   clear hB1 c0 c1 c2 c3 c4 c5 c6 c7 c8 cl
   obtain ⟨c0, c1, c2, c3, c4, c5, c6, c7, c8, cl⟩ := HN.out
   cases dec
   ·have HF : Hid (V = false) := vv (by rw [HV.out, HE.out, HO.out]; simp [HK.out])
    go_wp2
    go_ret
    exact ⟨retI (by rw [HF.out]; rfl), HB.out⟩
   ·cases neg
    ·have HF : Hid (V = false) := vv (by rw [HV.out, HE.out, HO.out]; simp [HK.out])
     go_wp2
     go_ret
     exact ⟨retI (by rw [HF.out]; rfl), HB.out⟩
    ·have HF : Hid (V = false) := vv (by rw [HV.out, HE.out, HO.out]; simp [HK.out])
     go_wp2
     go_ret
     exact ⟨retI (by rw [HF.out]; rfl), HB.out⟩
  ·have HK := vv hk
   have t1 : ((kind : Int) == 1) = false := by rw [beq_eq_false_iff_ne]; omega
   have t2 : ((kind : Int) == 2) = true := by rw [hk]; rfl
   clear hk
   go_wp2_with fail
   rw [<- HW0.out]
   refine (HT.out _ HB.out).mono ?_
   rintro e w1 ⟨rfl, hB1⟩
   have HN := vv (HN.out.below hB1)
   have HB := vn HB hB1
   clear hB1 c0 c1 c2 c3 c4 c5 c6 c7 c8 cl
   obtain ⟨c0, c1, c2, c3, c4, c5, c6, c7, c8, cl⟩ := HN.out
   cases two
   ·have HF : Hid (V = false) := vv (by rw [HV.out, HE.out, HO.out]; simp [HK.out])
    go_wp2
    go_ret
    exact ⟨retI (by rw [HF.out]; rfl), HB.out⟩
   ·cases hneg
    ·cases neg
     ·have HF : Hid (V = false) := vv (by rw [HV.out, HE.out, HO.out]; simp [HK.out])
      go_wp2
      go_ret
      exact ⟨retI (by rw [HF.out]; rfl), HB.out⟩
     ·have HF : Hid (V = false) := vv (by rw [HV.out, HE.out, HO.out]; simp [HK.out])
      go_wp2
      go_ret
      exact ⟨retI (by rw [HF.out]; rfl), HB.out⟩
    ·cases neg
     ·have HF : Hid (V = false) := vv (by rw [HV.out, HE.out, HO.out]; simp [HK.out])
      go_wp2
      go_ret
      exact ⟨retI (by rw [HF.out]; rfl), HB.out⟩
     ·have HF : Hid (V = false) := vv (by rw [HV.out, HE.out, HO.out]; simp [HK.out])
      go_wp2
      go_ret
      exact ⟨retI (by rw [HF.out]; rfl), HB.out⟩
  ·have HK := vv hk
   have t1 : ((kind : Int) == 1) = false := by rw [beq_eq_false_iff_ne]; omega
   have t2 : ((kind : Int) == 2) = false := by rw [beq_eq_false_iff_ne]; omega
   have t3 : ((kind : Int) == 3) = true := by rw [hk]; rfl
   clear hk
   ·have HF : Hid (V = false) := vv (by rw [HV.out, HE.out, HO.out]; simp [HK.out])
    go_wp2
    go_ret
    exact ⟨retI (by rw [HF.out]; rfl), HB0.out⟩
  ·have HK := vv hk
   have t1 : ((kind : Int) == 1) = false := by rw [beq_eq_false_iff_ne]; omega
   have t2 : ((kind : Int) == 2) = false := by rw [beq_eq_false_iff_ne]; omega
   have t3 : ((kind : Int) == 3) = false := by rw [beq_eq_false_iff_ne]; omega
   have t4 : ((kind : Int) == 4) = true := by rw [hk]; rfl
   clear hk
   ·have HF : Hid (V = false) := vv (by rw [HV.out, HE.out, HO.out]; simp [HK.out])
    go_wp2
    go_ret
    exact ⟨retI (by rw [HF.out]; rfl), HB0.out⟩
  ·have t1 : ((kind : Int) == 1) = false := by rw [beq_eq_false_iff_ne]; omega
   have t2 : ((kind : Int) == 2) = false := by rw [beq_eq_false_iff_ne]; omega
   have t3 : ((kind : Int) == 3) = false := by rw [beq_eq_false_iff_ne]; omega
   have t4 : ((kind : Int) == 4) = false := by rw [beq_eq_false_iff_ne]; omega
   ·have HF : Hid (V = false) := vv (by rw [HV.out, HE.out, HO.out]; simp [q1, q2, q3, q4])
    go_wp2
    go_ret
    exact ⟨retI (by rw [HF.out]; rfl), HB0.out⟩
theorem Check (kind : Nat) (neg dneg : Bool) (s : ByteArray) (x : Int) (hneg : Bool) (A : Option Addr) (n c : Nat) (xs : List Nat) (hx : Int) (p : Nat) (w : World) (hr : Rd w A n c xs) (hmax : (s.size : Int) <= 4611686018427387904) :
  Calls Tryz.prog 8 #[numV kind neg dneg s x hneg A n c hx p] w fun e w' => e = .returned (.int .i64 (numErr (numOk kind neg dneg s x hneg n xs hx p))) /\ Below w.heap.size w w' := by
 cases hd : dneg
 ·cases he : s.toList.isEmpty
  ·exact Check_a kind neg false s x hneg A n c xs hx p w hr hmax he rfl
  ·cases tx : (x == 0)
   ·exact Check_b kind neg false s x hneg A n c xs hx p w hr hmax he rfl tx
   ·exact Check_c kind neg false s x hneg A n c xs hx p w hr hmax he rfl tx
 ·exact Check_d kind neg true s x hneg A n c xs hx p w hr hmax rfl
end Go.Proofs.YtbfmpcfcmbjeeaaGreatDoor.Lex
