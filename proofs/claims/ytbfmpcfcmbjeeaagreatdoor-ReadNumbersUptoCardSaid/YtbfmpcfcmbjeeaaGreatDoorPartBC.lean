/- Lemmas for ReadNumbers. -/
import Derived.Test.YtbfmpcfcmbjeeaaGreatDoorPartBB
set_option linter.all false
namespace Go.Proofs.YtbfmpcfcmbjeeaaGreatDoor.Rea
open Go Go.RowKit R5 R16
set_option maxHeartbeats 1000000 in
theorem Number_form (E F : Int) (kind : Nat) (neg dneg : Bool) (s : ByteArray) (x : Int) (hneg : Bool) (A : Option Addr) (n c : Nat) (xs : List Nat) (hx : Int) (p mode : Nat) (w : World) (hform : R3.formOk E F = false) :
  Calls Tryz.prog 4 #[fm E F, numV kind neg dneg s x hneg A n c hx p, .int .u8 (mode : Int)] w (NumPost (0, 0, 5) w) := by
 have HCk := vv fun w => Fms.Check E F w
 rw [R3.chk_no hform] at HCk
 obtain ⟨w0, hw0⟩ := yx (w.alloc (.cells #[.int .i64 (E : Int), .int .i64 (F : Int)] 23))
 obtain ⟨w1, hw1⟩ := yx (w0.alloc (.cells #[.int .u8 ((kind : Int)), .bool neg, .bool dneg, .string s, .int .i64 x, .bool hneg, .slice A n c, .int .i64 hx, .int .u64 (p : Int)] 33))
 have hB0 : Below w.heap.size w w0 := by rw [hw0]; exact (Below.refl _ w).alloc (Nat.le_refl _) _
 have hB1 : Below w0.heap.size w0 w1 := by rw [hw1]; exact (Below.refl _ w0).alloc (Nat.le_refl _) _
 have hsz1 : w0.heap.size = w.heap.size + 1 := by rw [hw0]; simp
 have hF0 : FmAt w1 w.heap.size (E) (F) := (show FmAt w0 w.heap.size (E) (F) by rw [hw0]; exact FmAt.made w _ _ _).below hB1
 have hX0 : NumBox w1 (w.heap.size + 1) kind neg dneg s x hneg A n c hx p := by rw [<- hsz1, hw1]; exact NumBox.made w0 _ _ _ _ _ _ _ _ _ _ _ _
 have hB : Below w.heap.size w w1 := hB0.trans (hB1.mono hB0.size)
 have HF := vv hF0
 have HX := vv hX0
 have HB := vv hB
 have HW1 : Hid (w1 = (w.alloc (.cells #[.int .i64 (E : Int), .int .i64 (F : Int)] 23)).alloc (.cells #[.int .u8 ((kind : Int)), .bool neg, .bool dneg, .string s, .int .i64 x, .bool hneg, .slice A n c, .int .i64 hx, .int .u64 (p : Int)] 33)) := vv (by rw [hw1, hw0])
 have f0 := hF0.c0
 have f1 := hF0.c1
 have l0 := hF0.lt
 clear hw0 hw1 hB0 hB1 hsz1 hF0 hX0 hB hform
 go_enter Tryz.func4, Tryz.ntmps4
 go_wp2_with fail
 rw [<- HW1.out]
 refine (HCk.out _).mono ?_
 rintro e w2 ⟨rfl, hB2⟩
 have HF := vv (HF.out.below hB2)
 have HX := vv (HX.out.below hB2)
 have HB := vn HB hB2
 clear hB2 f0 f1 l0
 go_wp2
 go_ret3
 exact ⟨rfl, HB.out⟩
set_option maxHeartbeats 1000000 in
theorem Number_num (E F : Nat) (kind : Nat) (neg dneg : Bool) (s : ByteArray) (x : Int) (hneg : Bool) (A : Option Addr) (n c : Nat) (xs : List Nat) (hx : Int) (p mode : Nat) (w : World) (h1 : 2 <= E) (h2 : E <= 11) (h3 : 1 <= F) (h4 : F <= 52) (hr : Rd w A n c xs) (hmax : (s.size : Int) <= 4611686018427387904) (hnum : numOk kind neg dneg s x hneg n xs hx p = false) :
  Calls Tryz.prog 4 #[fm E F, numV kind neg dneg s x hneg A n c hx p, .int .u8 (mode : Int)] w (NumPost (0, 0, 110) w) := by
 have hok : R3.formOk (E : Int) (F : Int) = true := by
  unfold R3.formOk; rw [decide_eq_true (p := (2 : Int) <= E) (by omega), decide_eq_true (p := (E : Int) <= 11) (by omega), decide_eq_true (p := (1 : Int) <= F) (by omega), decide_eq_true (p := (F : Int) <= 52) (by omega)]; rfl
 have HCk := vv fun w => Fms.Check (E : Int) (F : Int) w
 rw [R3.chk_ok hok] at HCk
 have HNk := vv fun w' (h : Below w.heap.size w w') => Lex.Check kind neg dneg s x hneg A n c xs hx p w' (hr.below h rfl) hmax
 rw [hnum, numErr_false] at HNk
 obtain ⟨w0, hw0⟩ := yx (w.alloc (.cells #[.int .i64 (E : Int), .int .i64 (F : Int)] 23))
 obtain ⟨w1, hw1⟩ := yx (w0.alloc (.cells #[.int .u8 ((kind : Int)), .bool neg, .bool dneg, .string s, .int .i64 x, .bool hneg, .slice A n c, .int .i64 hx, .int .u64 (p : Int)] 33))
 have hB0 : Below w.heap.size w w0 := by rw [hw0]; exact (Below.refl _ w).alloc (Nat.le_refl _) _
 have hB1 : Below w0.heap.size w0 w1 := by rw [hw1]; exact (Below.refl _ w0).alloc (Nat.le_refl _) _
 have hsz1 : w0.heap.size = w.heap.size + 1 := by rw [hw0]; simp
 have hF0 : FmAt w1 w.heap.size (E) (F) := (show FmAt w0 w.heap.size (E) (F) by rw [hw0]; exact FmAt.made w _ _ _).below hB1
 have hX0 : NumBox w1 (w.heap.size + 1) kind neg dneg s x hneg A n c hx p := by rw [<- hsz1, hw1]; exact NumBox.made w0 _ _ _ _ _ _ _ _ _ _ _ _
 have hB : Below w.heap.size w w1 := hB0.trans (hB1.mono hB0.size)
 have HF := vv hF0
 have HX := vv hX0
 have HB := vv hB
 have HW1 : Hid (w1 = (w.alloc (.cells #[.int .i64 (E : Int), .int .i64 (F : Int)] 23)).alloc (.cells #[.int .u8 ((kind : Int)), .bool neg, .bool dneg, .string s, .int .i64 x, .bool hneg, .slice A n c, .int .i64 hx, .int .u64 (p : Int)] 33)) := vv (by rw [hw1, hw0])
 have f0 := hF0.c0
 have f1 := hF0.c1
 have l0 := hF0.lt
 clear hw0 hw1 hB0 hB1 hsz1 hF0 hX0 hB hnum hr hmax h1 h2 h3 h4 hok
 go_enter Tryz.func4, Tryz.ntmps4
 go_wp2_with fail
 rw [<- HW1.out]
 refine (HCk.out _).mono ?_
 rintro e w2 ⟨rfl, hB2⟩
 have HF := vv (HF.out.below hB2)
 have HX := vv (HX.out.below hB2)
 have HB := vn HB hB2
 clear hB2 f0 f1 l0
 obtain ⟨c0, c1, c2, c3, c4, c5, c6, c7, c8, cl⟩ := HX.out
 go_wp2_with fail
 refine (HNk.out _ HB.out).mono ?_
 rintro e w3 ⟨rfl, hB3⟩
 have HF := vv (HF.out.below hB3)
 have HX := vv (HX.out.below hB3)
 have HB := vn HB hB3
 clear hB3 c0 c1 c2 c3 c4 c5 c6 c7 c8 cl
 go_wp2
 go_ret3
 exact ⟨rfl, HB.out⟩
set_option maxHeartbeats 1000000 in
theorem Number_mode (E F : Nat) (kind : Nat) (neg dneg : Bool) (s : ByteArray) (x : Int) (hneg : Bool) (A : Option Addr) (n c : Nat) (xs : List Nat) (hx : Int) (p mode : Nat) (w : World) (h1 : 2 <= E) (h2 : E <= 11) (h3 : 1 <= F) (h4 : F <= 52) (hr : Rd w A n c xs) (hmax : (s.size : Int) <= 4611686018427387904) (hnum : numOk kind neg dneg s x hneg n xs hx p = true) (hm : 4 < mode) :
  Calls Tryz.prog 4 #[fm E F, numV kind neg dneg s x hneg A n c hx p, .int .u8 (mode : Int)] w (NumPost (0, 0, 7) w) := by
 have hok : R3.formOk (E : Int) (F : Int) = true := by
  unfold R3.formOk; rw [decide_eq_true (p := (2 : Int) <= E) (by omega), decide_eq_true (p := (E : Int) <= 11) (by omega), decide_eq_true (p := (1 : Int) <= F) (by omega), decide_eq_true (p := (F : Int) <= 52) (by omega)]; rfl
 have HCk := vv fun w => Fms.Check (E : Int) (F : Int) w
 rw [R3.chk_ok hok] at HCk
 have HNk := vv fun w' (h : Below w.heap.size w w') => Lex.Check kind neg dneg s x hneg A n c xs hx p w' (hr.below h rfl) hmax
 rw [hnum, numErr_true] at HNk
 have dm : decide ((4 : Int) < (mode : Int)) = true := decide_eq_true (by omega)
 obtain ⟨w0, hw0⟩ := yx (w.alloc (.cells #[.int .i64 (E : Int), .int .i64 (F : Int)] 23))
 obtain ⟨w1, hw1⟩ := yx (w0.alloc (.cells #[.int .u8 ((kind : Int)), .bool neg, .bool dneg, .string s, .int .i64 x, .bool hneg, .slice A n c, .int .i64 hx, .int .u64 (p : Int)] 33))
 have hB0 : Below w.heap.size w w0 := by rw [hw0]; exact (Below.refl _ w).alloc (Nat.le_refl _) _
 have hB1 : Below w0.heap.size w0 w1 := by rw [hw1]; exact (Below.refl _ w0).alloc (Nat.le_refl _) _
 have hsz1 : w0.heap.size = w.heap.size + 1 := by rw [hw0]; simp
 have hF0 : FmAt w1 w.heap.size (E) (F) := (show FmAt w0 w.heap.size (E) (F) by rw [hw0]; exact FmAt.made w _ _ _).below hB1
 have hX0 : NumBox w1 (w.heap.size + 1) kind neg dneg s x hneg A n c hx p := by rw [<- hsz1, hw1]; exact NumBox.made w0 _ _ _ _ _ _ _ _ _ _ _ _
 have hB : Below w.heap.size w w1 := hB0.trans (hB1.mono hB0.size)
 have HF := vv hF0
 have HX := vv hX0
 have HB := vv hB
 have HW1 : Hid (w1 = (w.alloc (.cells #[.int .i64 (E : Int), .int .i64 (F : Int)] 23)).alloc (.cells #[.int .u8 ((kind : Int)), .bool neg, .bool dneg, .string s, .int .i64 x, .bool hneg, .slice A n c, .int .i64 hx, .int .u64 (p : Int)] 33)) := vv (by rw [hw1, hw0])
 have f0 := hF0.c0
 have f1 := hF0.c1
 have l0 := hF0.lt
 clear hw0 hw1 hB0 hB1 hsz1 hF0 hX0 hB hnum hr hmax h1 h2 h3 h4 hok hm
 go_enter Tryz.func4, Tryz.ntmps4
 go_wp2_with fail
 rw [<- HW1.out]
 refine (HCk.out _).mono ?_
 rintro e w2 ⟨rfl, hB2⟩
 have HF := vv (HF.out.below hB2)
 have HX := vv (HX.out.below hB2)
 have HB := vn HB hB2
 clear hB2 f0 f1 l0
 obtain ⟨c0, c1, c2, c3, c4, c5, c6, c7, c8, cl⟩ := HX.out
 go_wp2_with fail
 refine (HNk.out _ HB.out).mono ?_
 rintro e w3 ⟨rfl, hB3⟩
 have HF := vv (HF.out.below hB3)
 have HX := vv (HX.out.below hB3)
 have HB := vn HB hB3
 clear hB3 c0 c1 c2 c3 c4 c5 c6 c7 c8 cl
 go_wp2
 go_ret3
 exact ⟨rfl, HB.out⟩
set_option maxHeartbeats 1000000 in
theorem Number_dec_none (G F : Nat) (neg dneg : Bool) (s : ByteArray) (hs0 : s = ⟨#[]⟩) (x : Int) (hneg : Bool) (A : Option Addr) (n c : Nat) (xs : List Nat) (hx : Int) (p mode : Nat) (w : World) (g1 : 1 <= G) (g2 : G <= 10) (h3 : 1 <= F) (h4 : F <= 52) (hr : Rd w A n c xs) (hmax : (s.size : Int) <= 4611686018427387904) (hnum : numOk 1 neg dneg s x hneg n xs hx p = true) (hm : mode <= 4) (hx1 : -4611686018427387904 <= x) (hx2 : x <= 4611686018427387904) (hst : Std w) :
  Calls Tryz.prog 4 #[fm ((G : Int) + 1) F, numV 1 neg dneg s x hneg A n c hx p, .int .u8 (mode : Int)] w (BfePost (signedS (G + 1) F false dneg mode 0 (t10 (-x))) w) := by
 have hok : R3.formOk ((G : Int) + 1) (F : Int) = true := by
  unfold R3.formOk; rw [decide_eq_true (p := (2 : Int) <= (G : Int) + 1) (by omega), decide_eq_true (p := (G : Int) + 1 <= 11) (by omega), decide_eq_true (p := (1 : Int) <= F) (by omega), decide_eq_true (p := (F : Int) <= 52) (by omega)]; rfl
 have HCk := vv fun w => Fms.Check ((G : Int) + 1) (F : Int) w
 rw [R3.chk_ok hok] at HCk
 have HNk := vv fun w' (h : Below w.heap.size w w') => Lex.Check 1 neg dneg s x hneg A n c xs hx p w' (hr.below h rfl) hmax
 rw [hnum, numErr_true] at HNk
 have dm : decide ((4 : Int) < (mode : Int)) = false := decide_eq_false (by omega)
 have HDc := vv fun w' (h : Below w.heap.size w w') => decimal_none G F dneg mode x w' g1 g2 h3 h4 hm hx1 hx2 (hst.fs (Fs.of_nil h))
 rw [<- hs0] at HDc
 obtain ⟨O, hO⟩ := yx (signedS (G + 1) F false dneg mode 0 (t10 (-x)))
 rw [<- hO] at HDc ⊢
 obtain ⟨w0, hw0⟩ := yx (w.alloc (.cells #[.int .i64 (((G : Int) + 1) : Int), .int .i64 (F : Int)] 23))
 obtain ⟨w1, hw1⟩ := yx (w0.alloc (.cells #[.int .u8 (1), .bool neg, .bool dneg, .string s, .int .i64 x, .bool hneg, .slice A n c, .int .i64 hx, .int .u64 (p : Int)] 33))
 have hB0 : Below w.heap.size w w0 := by rw [hw0]; exact (Below.refl _ w).alloc (Nat.le_refl _) _
 have hB1 : Below w0.heap.size w0 w1 := by rw [hw1]; exact (Below.refl _ w0).alloc (Nat.le_refl _) _
 have hsz1 : w0.heap.size = w.heap.size + 1 := by rw [hw0]; simp
 have hF0 : FmAt w1 w.heap.size (((G : Int) + 1)) (F) := (show FmAt w0 w.heap.size (((G : Int) + 1)) (F) by rw [hw0]; exact FmAt.made w _ _ _).below hB1
 have hX0 : NumBox w1 (w.heap.size + 1) 1 neg dneg s x hneg A n c hx p := by rw [<- hsz1, hw1]; exact NumBox.made w0 _ _ _ _ _ _ _ _ _ _ _ _
 have hB : Below w.heap.size w w1 := hB0.trans (hB1.mono hB0.size)
 have HF := vv hF0
 have HX := vv hX0
 have HB := vv hB
 have HW1 : Hid (w1 = (w.alloc (.cells #[.int .i64 (((G : Int) + 1) : Int), .int .i64 (F : Int)] 23)).alloc (.cells #[.int .u8 (1), .bool neg, .bool dneg, .string s, .int .i64 x, .bool hneg, .slice A n c, .int .i64 hx, .int .u64 (p : Int)] 33)) := vv (by rw [hw1, hw0])
 have f0 := hF0.c0
 have f1 := hF0.c1
 have l0 := hF0.lt
 clear hw0 hw1 hB0 hB1 hsz1 hF0 hX0 hB hnum hr hmax g1 g2 h3 h4 hok hm hst hO hs0
 go_enter Tryz.func4, Tryz.ntmps4
 go_wp2_with fail
 rw [<- HW1.out]
 refine (HCk.out _).mono ?_
 rintro e w2 ⟨rfl, hB2⟩
 have HF := vv (HF.out.below hB2)
 have HX := vv (HX.out.below hB2)
 have HB := vn HB hB2
 clear hB2 f0 f1 l0
 obtain ⟨c0, c1, c2, c3, c4, c5, c6, c7, c8, cl⟩ := HX.out
 go_wp2_with fail
 refine (HNk.out _ HB.out).mono ?_
 rintro e w3 ⟨rfl, hB3⟩
 have HF := vv (HF.out.below hB3)
 have HX := vv (HX.out.below hB3)
 have HB := vn HB hB3
 clear hB3 c0 c1 c2 c3 c4 c5 c6 c7 c8 cl
 obtain ⟨c0, c1, c2, c3, c4, c5, c6, c7, c8, cl⟩ := HX.out
 obtain ⟨f0, f1, fl⟩ := HF.out
 go_wp2_with fail
 refine (HDc.out _ HB.out).mono ?_
 rintro e w4 ⟨rfl, hB4⟩
 have HB := vn HB hB4
 clear hB4
 go_wp2
 go_ret3
 exact ⟨rfl, HB.out⟩
set_option maxHeartbeats 1000000 in
theorem Number_dec_some (G F : Nat) (neg dneg : Bool) (s : ByteArray) (x : Int) (hneg : Bool) (A : Option Addr) (n c : Nat) (xs : List Nat) (hx : Int) (p mode : Nat) (w : World) (g1 : 1 <= G) (g2 : G <= 10) (h3 : 1 <= F) (h4 : F <= 52) (hr : Rd w A n c xs) (hmax : (s.size : Int) <= 4611686018427387904) (hnum : numOk 1 neg dneg s x hneg n xs hx p = true) (hm : mode <= 4) (hd : Digs s) (h0 : 0 < s.size) (hsz : s.size <= 65536) (hf : byteAt s 0 ≠ 48) (hx1 : -4611686018427387904 <= x) (hx2 : x <= 4611686018427387904) (hst : Std w) :
  Calls Tryz.prog 4 #[fm ((G : Int) + 1) F, numV 1 neg dneg s x hneg A n c hx p, .int .u8 (mode : Int)] w (BfePost (signedS (G + 1) F dneg dneg mode (dvk s s.size * t10 x) (t10 (-x))) w) := by
 have hok : R3.formOk ((G : Int) + 1) (F : Int) = true := by
  unfold R3.formOk; rw [decide_eq_true (p := (2 : Int) <= (G : Int) + 1) (by omega), decide_eq_true (p := (G : Int) + 1 <= 11) (by omega), decide_eq_true (p := (1 : Int) <= F) (by omega), decide_eq_true (p := (F : Int) <= 52) (by omega)]; rfl
 have HCk := vv fun w => Fms.Check ((G : Int) + 1) (F : Int) w
 rw [R3.chk_ok hok] at HCk
 have HNk := vv fun w' (h : Below w.heap.size w w') => Lex.Check 1 neg dneg s x hneg A n c xs hx p w' (hr.below h rfl) hmax
 rw [hnum, numErr_true] at HNk
 have dm : decide ((4 : Int) < (mode : Int)) = false := decide_eq_false (by omega)
 have HDc := vv fun w' (h : Below w.heap.size w w') => decimal_some G F dneg mode s x w' g1 g2 h3 h4 hm hd h0 hsz hf hx1 hx2 (hst.fs (Fs.of_nil h))
 obtain ⟨O, hO⟩ := yx (signedS (G + 1) F dneg dneg mode (dvk s s.size * t10 x) (t10 (-x)))
 rw [<- hO] at HDc ⊢
 obtain ⟨w0, hw0⟩ := yx (w.alloc (.cells #[.int .i64 (((G : Int) + 1) : Int), .int .i64 (F : Int)] 23))
 obtain ⟨w1, hw1⟩ := yx (w0.alloc (.cells #[.int .u8 (1), .bool neg, .bool dneg, .string s, .int .i64 x, .bool hneg, .slice A n c, .int .i64 hx, .int .u64 (p : Int)] 33))
 have hB0 : Below w.heap.size w w0 := by rw [hw0]; exact (Below.refl _ w).alloc (Nat.le_refl _) _
 have hB1 : Below w0.heap.size w0 w1 := by rw [hw1]; exact (Below.refl _ w0).alloc (Nat.le_refl _) _
 have hsz1 : w0.heap.size = w.heap.size + 1 := by rw [hw0]; simp
 have hF0 : FmAt w1 w.heap.size (((G : Int) + 1)) (F) := (show FmAt w0 w.heap.size (((G : Int) + 1)) (F) by rw [hw0]; exact FmAt.made w _ _ _).below hB1
 have hX0 : NumBox w1 (w.heap.size + 1) 1 neg dneg s x hneg A n c hx p := by rw [<- hsz1, hw1]; exact NumBox.made w0 _ _ _ _ _ _ _ _ _ _ _ _
 have hB : Below w.heap.size w w1 := hB0.trans (hB1.mono hB0.size)
 have HF := vv hF0
 have HX := vv hX0
 have HB := vv hB
 have HW1 : Hid (w1 = (w.alloc (.cells #[.int .i64 (((G : Int) + 1) : Int), .int .i64 (F : Int)] 23)).alloc (.cells #[.int .u8 (1), .bool neg, .bool dneg, .string s, .int .i64 x, .bool hneg, .slice A n c, .int .i64 hx, .int .u64 (p : Int)] 33)) := vv (by rw [hw1, hw0])
 have f0 := hF0.c0
 have f1 := hF0.c1
 have l0 := hF0.lt
 clear hw0 hw1 hB0 hB1 hsz1 hF0 hX0 hB hnum hr hmax g1 g2 h3 h4 hok hm hst hO hd h0 hsz hf
 go_enter Tryz.func4, Tryz.ntmps4
 go_wp2_with fail
 rw [<- HW1.out]
 refine (HCk.out _).mono ?_
 rintro e w2 ⟨rfl, hB2⟩
 have HF := vv (HF.out.below hB2)
 have HX := vv (HX.out.below hB2)
 have HB := vn HB hB2
 clear hB2 f0 f1 l0
 obtain ⟨c0, c1, c2, c3, c4, c5, c6, c7, c8, cl⟩ := HX.out
 go_wp2_with fail
 refine (HNk.out _ HB.out).mono ?_
 rintro e w3 ⟨rfl, hB3⟩
 have HF := vv (HF.out.below hB3)
 have HX := vv (HX.out.below hB3)
 have HB := vn HB hB3
 clear hB3 c0 c1 c2 c3 c4 c5 c6 c7 c8 cl
 obtain ⟨c0, c1, c2, c3, c4, c5, c6, c7, c8, cl⟩ := HX.out
 obtain ⟨f0, f1, fl⟩ := HF.out
 go_wp2_with fail
 refine (HDc.out _ HB.out).mono ?_
 rintro e w4 ⟨rfl, hB4⟩
 have HB := vn HB hB4
 clear hB4
 go_wp2
 go_ret3
 exact ⟨rfl, HB.out⟩
set_option maxHeartbeats 1000000 in
theorem Number_hex (G F : Nat) (N : Nat) (neg dneg : Bool) (s : ByteArray) (x : Int) (hneg : Bool) (A : Option Addr) (n c : Nat)  (hx : Int) (p mode : Nat) (w : World) (g1 : 1 <= G) (g2 : G <= 10) (h3 : 1 <= F) (h4 : F <= 52) (hr : Rd w A n c (toL N)) (hmax : (s.size : Int) <= 4611686018427387904) (hnum : numOk 2 neg dneg s x hneg n (toL N) hx p = true) (hm : mode <= 4) (hn : n <= 16384) (hok2 : twoOk hneg n (toL N) hx = true) (hx1 : -4611686018427387904 <= hx) (hx2 : hx <= 4611686018427387904)  :
  Calls Tryz.prog 4 #[fm ((G : Int) + 1) F, numV 2 neg dneg s x hneg A n c hx p, .int .u8 (mode : Int)] w (BfePost (signedS (G + 1) F hneg neg mode (N * p2 hx) (p2 (-hx))) w) := by
 have hok : R3.formOk ((G : Int) + 1) (F : Int) = true := by
  unfold R3.formOk; rw [decide_eq_true (p := (2 : Int) <= (G : Int) + 1) (by omega), decide_eq_true (p := (G : Int) + 1 <= 11) (by omega), decide_eq_true (p := (1 : Int) <= F) (by omega), decide_eq_true (p := (F : Int) <= 52) (by omega)]; rfl
 have HCk := vv fun w => Fms.Check ((G : Int) + 1) (F : Int) w
 rw [R3.chk_ok hok] at HCk
 have HNk := vv fun w' (h : Below w.heap.size w w') => Lex.Check 2 neg dneg s x hneg A n c (toL N) hx p w' (hr.below h rfl) hmax
 rw [hnum, numErr_true] at HNk
 have dm : decide ((4 : Int) < (mode : Int)) = false := decide_eq_false (by omega)
 have HDc := vv fun w' (h : Below w.heap.size w w') => Rnd.Dyadic G F hneg neg mode A n c N hx w' g1 g2 h3 h4 hm (hr.below h rfl) hn hok2 hx1 hx2
 obtain ⟨O, hO⟩ := yx (signedS (G + 1) F hneg neg mode (N * p2 hx) (p2 (-hx)))
 rw [<- hO] at HDc ⊢
 obtain ⟨w0, hw0⟩ := yx (w.alloc (.cells #[.int .i64 (((G : Int) + 1) : Int), .int .i64 (F : Int)] 23))
 obtain ⟨w1, hw1⟩ := yx (w0.alloc (.cells #[.int .u8 (2), .bool neg, .bool dneg, .string s, .int .i64 x, .bool hneg, .slice A n c, .int .i64 hx, .int .u64 (p : Int)] 33))
 have hB0 : Below w.heap.size w w0 := by rw [hw0]; exact (Below.refl _ w).alloc (Nat.le_refl _) _
 have hB1 : Below w0.heap.size w0 w1 := by rw [hw1]; exact (Below.refl _ w0).alloc (Nat.le_refl _) _
 have hsz1 : w0.heap.size = w.heap.size + 1 := by rw [hw0]; simp
 have hF0 : FmAt w1 w.heap.size (((G : Int) + 1)) (F) := (show FmAt w0 w.heap.size (((G : Int) + 1)) (F) by rw [hw0]; exact FmAt.made w _ _ _).below hB1
 have hX0 : NumBox w1 (w.heap.size + 1) 2 neg dneg s x hneg A n c hx p := by rw [<- hsz1, hw1]; exact NumBox.made w0 _ _ _ _ _ _ _ _ _ _ _ _
 have hB : Below w.heap.size w w1 := hB0.trans (hB1.mono hB0.size)
 have HF := vv hF0
 have HX := vv hX0
 have HB := vv hB
 have HW1 : Hid (w1 = (w.alloc (.cells #[.int .i64 (((G : Int) + 1) : Int), .int .i64 (F : Int)] 23)).alloc (.cells #[.int .u8 (2), .bool neg, .bool dneg, .string s, .int .i64 x, .bool hneg, .slice A n c, .int .i64 hx, .int .u64 (p : Int)] 33)) := vv (by rw [hw1, hw0])
 have f0 := hF0.c0
 have f1 := hF0.c1
 have l0 := hF0.lt
 clear hw0 hw1 hB0 hB1 hsz1 hF0 hX0 hB hnum hr hmax g1 g2 h3 h4 hok hm hO hok2 hn
 go_enter Tryz.func4, Tryz.ntmps4
 go_wp2_with fail
 rw [<- HW1.out]
 refine (HCk.out _).mono ?_
 rintro e w2 ⟨rfl, hB2⟩
 have HF := vv (HF.out.below hB2)
 have HX := vv (HX.out.below hB2)
 have HB := vn HB hB2
 clear hB2 f0 f1 l0
 obtain ⟨c0, c1, c2, c3, c4, c5, c6, c7, c8, cl⟩ := HX.out
 go_wp2_with fail
 refine (HNk.out _ HB.out).mono ?_
 rintro e w3 ⟨rfl, hB3⟩
 have HF := vv (HF.out.below hB3)
 have HX := vv (HX.out.below hB3)
 have HB := vn HB hB3
 clear hB3 c0 c1 c2 c3 c4 c5 c6 c7 c8 cl
 obtain ⟨c0, c1, c2, c3, c4, c5, c6, c7, c8, cl⟩ := HX.out
 obtain ⟨f0, f1, fl⟩ := HF.out
 go_wp2_with fail
 refine (HDc.out _ HB.out).mono ?_
 rintro e w4 ⟨rfl, hB4⟩
 have HB := vn HB hB4
 clear hB4
 go_wp2
 go_ret3
 exact ⟨rfl, HB.out⟩
set_option maxHeartbeats 1000000 in
theorem Number_inf (E F : Nat) (neg dneg : Bool) (s : ByteArray) (x : Int) (hneg : Bool) (A : Option Addr) (n c : Nat) (xs : List Nat) (hx : Int) (p mode : Nat) (w : World) (h1 : 2 <= E) (h2 : E <= 11) (h3 : 1 <= F) (h4 : F <= 52) (hr : Rd w A n c xs) (hmax : (s.size : Int) <= 4611686018427387904) (hnum : numOk 3 neg dneg s x hneg n xs hx p = true) (hm : mode <= 4) :
  Calls Tryz.prog 4 #[fm E F, numV 3 neg dneg s x hneg A n c hx p, .int .u8 (mode : Int)] w (NumPost (sgb E F neg + (2 ^ E - 1) * 2 ^ F, 0, 0) w) := by
 have hok : R3.formOk (E : Int) (F : Int) = true := by
  unfold R3.formOk; rw [decide_eq_true (p := (2 : Int) <= E) (by omega), decide_eq_true (p := (E : Int) <= 11) (by omega), decide_eq_true (p := (1 : Int) <= F) (by omega), decide_eq_true (p := (F : Int) <= 52) (by omega)]; rfl
 have HCk := vv fun w => Fms.Check (E : Int) (F : Int) w
 rw [R3.chk_ok hok] at HCk
 have HNk := vv fun w' (h : Below w.heap.size w w') => Lex.Check 3 neg dneg s x hneg A n c xs hx p w' (hr.below h rfl) hmax
 rw [hnum, numErr_true] at HNk
 have dm : decide ((4 : Int) < (mode : Int)) = false := decide_eq_false (by omega)
 have HDc := vv fun w => Fms.Inf E F neg w h1 h2 h3 h4
 obtain ⟨O, hO⟩ := yx (sgb E F neg + (2 ^ E - 1) * 2 ^ F)
 rw [<- hO] at HDc ⊢
 obtain ⟨w0, hw0⟩ := yx (w.alloc (.cells #[.int .i64 (E : Int), .int .i64 (F : Int)] 23))
 obtain ⟨w1, hw1⟩ := yx (w0.alloc (.cells #[.int .u8 (3), .bool neg, .bool dneg, .string s, .int .i64 x, .bool hneg, .slice A n c, .int .i64 hx, .int .u64 (p : Int)] 33))
 have hB0 : Below w.heap.size w w0 := by rw [hw0]; exact (Below.refl _ w).alloc (Nat.le_refl _) _
 have hB1 : Below w0.heap.size w0 w1 := by rw [hw1]; exact (Below.refl _ w0).alloc (Nat.le_refl _) _
 have hsz1 : w0.heap.size = w.heap.size + 1 := by rw [hw0]; simp
 have hF0 : FmAt w1 w.heap.size (E) (F) := (show FmAt w0 w.heap.size (E) (F) by rw [hw0]; exact FmAt.made w _ _ _).below hB1
 have hX0 : NumBox w1 (w.heap.size + 1) 3 neg dneg s x hneg A n c hx p := by rw [<- hsz1, hw1]; exact NumBox.made w0 _ _ _ _ _ _ _ _ _ _ _ _
 have hB : Below w.heap.size w w1 := hB0.trans (hB1.mono hB0.size)
 have HF := vv hF0
 have HX := vv hX0
 have HB := vv hB
 have HW1 : Hid (w1 = (w.alloc (.cells #[.int .i64 (E : Int), .int .i64 (F : Int)] 23)).alloc (.cells #[.int .u8 (3), .bool neg, .bool dneg, .string s, .int .i64 x, .bool hneg, .slice A n c, .int .i64 hx, .int .u64 (p : Int)] 33)) := vv (by rw [hw1, hw0])
 have f0 := hF0.c0
 have f1 := hF0.c1
 have l0 := hF0.lt
 clear hw0 hw1 hB0 hB1 hsz1 hF0 hX0 hB hnum hr hmax h1 h2 h3 h4 hok hm hO
 go_enter Tryz.func4, Tryz.ntmps4
 go_wp2_with fail
 rw [<- HW1.out]
 refine (HCk.out _).mono ?_
 rintro e w2 ⟨rfl, hB2⟩
 have HF := vv (HF.out.below hB2)
 have HX := vv (HX.out.below hB2)
 have HB := vn HB hB2
 clear hB2 f0 f1 l0
 obtain ⟨c0, c1, c2, c3, c4, c5, c6, c7, c8, cl⟩ := HX.out
 go_wp2_with fail
 refine (HNk.out _ HB.out).mono ?_
 rintro e w3 ⟨rfl, hB3⟩
 have HF := vv (HF.out.below hB3)
 have HX := vv (HX.out.below hB3)
 have HB := vn HB hB3
 clear hB3 c0 c1 c2 c3 c4 c5 c6 c7 c8 cl
 obtain ⟨c0, c1, c2, c3, c4, c5, c6, c7, c8, cl⟩ := HX.out
 obtain ⟨f0, f1, fl⟩ := HF.out
 go_wp2_with fail
 refine (HDc.out _).mono ?_
 rintro e w4 ⟨rfl, hB4⟩
 have HB := vn HB hB4
 clear hB4
 go_wp2
 go_ret3
 exact ⟨rfl, HB.out⟩
set_option maxHeartbeats 1000000 in
theorem Number_pay (E G : Nat) (neg dneg : Bool) (s : ByteArray) (x : Int) (hneg : Bool) (A : Option Addr) (n c : Nat) (xs : List Nat) (hx : Int) (p mode : Nat) (w : World) (h1 : 2 <= E) (h2 : E <= 11) (h4 : G <= 51) (hr : Rd w A n c xs) (hmax : (s.size : Int) <= 4611686018427387904) (hnum : numOk 4 neg dneg s x hneg n xs hx p = true) (hm : mode <= 4) (hp : R3.tw G <= p) :
  Calls Tryz.prog 4 #[fm E ((G : Int) + 1), numV 4 neg dneg s x hneg A n c hx p, .int .u8 (mode : Int)] w (NumPost (0, 0, 115) w) := by
 have hok : R3.formOk (E : Int) ((G : Int) + 1) = true := by
  unfold R3.formOk; rw [decide_eq_true (p := (2 : Int) <= E) (by omega), decide_eq_true (p := (E : Int) <= 11) (by omega), decide_eq_true (p := (1 : Int) <= (G : Int) + 1) (by omega), decide_eq_true (p := ((G : Int) + 1) <= 52) (by omega)]; rfl
 have HCk := vv fun w => Fms.Check (E : Int) ((G : Int) + 1) w
 rw [R3.chk_ok hok] at HCk
 have HNk := vv fun w' (h : Below w.heap.size w w') => Lex.Check 4 neg dneg s x hneg A n c xs hx p w' (hr.below h rfl) hmax
 rw [hnum, numErr_true] at HNk
 have dm : decide ((4 : Int) < (mode : Int)) = false := decide_eq_false (by omega)
 have hG : (G : Int) <= 51 := by omega
 have hps : (p : Int) / 2 ^ G = ((p / R3.tw G : Nat) : Int) := by unfold R3.tw; rw [Int.natCast_ediv, Int.natCast_pow]; rfl
 obtain ⟨v, hv⟩ := yx (p / R3.tw G)
 rw [<- hv] at hps
 have hv0 : 0 < v := by rw [hv]; exact Nat.div_pos hp (R3.tw_pos G)
 have dq : ((v : Int) == 0) = false := by rw [beq_eq_false_iff_ne]; omega
 clear hv hv0
 obtain ⟨w0, hw0⟩ := yx (w.alloc (.cells #[.int .i64 (E : Int), .int .i64 (((G : Int) + 1) : Int)] 23))
 obtain ⟨w1, hw1⟩ := yx (w0.alloc (.cells #[.int .u8 (4), .bool neg, .bool dneg, .string s, .int .i64 x, .bool hneg, .slice A n c, .int .i64 hx, .int .u64 (p : Int)] 33))
 have hB0 : Below w.heap.size w w0 := by rw [hw0]; exact (Below.refl _ w).alloc (Nat.le_refl _) _
 have hB1 : Below w0.heap.size w0 w1 := by rw [hw1]; exact (Below.refl _ w0).alloc (Nat.le_refl _) _
 have hsz1 : w0.heap.size = w.heap.size + 1 := by rw [hw0]; simp
 have hF0 : FmAt w1 w.heap.size (E) (((G : Int) + 1)) := (show FmAt w0 w.heap.size (E) (((G : Int) + 1)) by rw [hw0]; exact FmAt.made w _ _ _).below hB1
 have hX0 : NumBox w1 (w.heap.size + 1) 4 neg dneg s x hneg A n c hx p := by rw [<- hsz1, hw1]; exact NumBox.made w0 _ _ _ _ _ _ _ _ _ _ _ _
 have hB : Below w.heap.size w w1 := hB0.trans (hB1.mono hB0.size)
 have HF := vv hF0
 have HX := vv hX0
 have HB := vv hB
 have HW1 : Hid (w1 = (w.alloc (.cells #[.int .i64 (E : Int), .int .i64 (((G : Int) + 1) : Int)] 23)).alloc (.cells #[.int .u8 (4), .bool neg, .bool dneg, .string s, .int .i64 x, .bool hneg, .slice A n c, .int .i64 hx, .int .u64 (p : Int)] 33)) := vv (by rw [hw1, hw0])
 have f0 := hF0.c0
 have f1 := hF0.c1
 have l0 := hF0.lt
 clear hw0 hw1 hB0 hB1 hsz1 hF0 hX0 hB hnum hr hmax h1 h2 h4 hok hm hp
 go_enter Tryz.func4, Tryz.ntmps4
 go_wp2_with fail
 rw [<- HW1.out]
 refine (HCk.out _).mono ?_
 rintro e w2 ⟨rfl, hB2⟩
 have HF := vv (HF.out.below hB2)
 have HX := vv (HX.out.below hB2)
 have HB := vn HB hB2
 clear hB2 f0 f1 l0
 obtain ⟨c0, c1, c2, c3, c4, c5, c6, c7, c8, cl⟩ := HX.out
 go_wp2_with fail
 refine (HNk.out _ HB.out).mono ?_
 rintro e w3 ⟨rfl, hB3⟩
 have HF := vv (HF.out.below hB3)
 have HX := vv (HX.out.below hB3)
 have HB := vn HB hB3
 clear hB3 c0 c1 c2 c3 c4 c5 c6 c7 c8 cl
 obtain ⟨c0, c1, c2, c3, c4, c5, c6, c7, c8, cl⟩ := HX.out
 obtain ⟨f0, f1, fl⟩ := HF.out
 go_wp2
 go_ret3
 exact ⟨rfl, HB.out⟩
set_option maxHeartbeats 1000000 in
theorem Number_nan (E G : Nat) (neg dneg : Bool) (s : ByteArray) (x : Int) (hneg : Bool) (A : Option Addr) (n c : Nat) (xs : List Nat) (hx : Int) (p mode : Nat) (w : World) (h1 : 2 <= E) (h2 : E <= 11) (h4 : G <= 51) (hr : Rd w A n c xs) (hmax : (s.size : Int) <= 4611686018427387904) (hnum : numOk 4 neg dneg s x hneg n xs hx p = true) (hm : mode <= 4) (hp : p < R3.tw G) :
  Calls Tryz.prog 4 #[fm E ((G : Int) + 1), numV 4 neg dneg s x hneg A n c hx p, .int .u8 (mode : Int)] w (NumPost (sgb E (G + 1) neg + ((2 ^ E - 1) * 2 ^ (G + 1) + (2 ^ G + p)), 0, 0) w) := by
 have hok : R3.formOk (E : Int) ((G : Int) + 1) = true := by
  unfold R3.formOk; rw [decide_eq_true (p := (2 : Int) <= E) (by omega), decide_eq_true (p := (E : Int) <= 11) (by omega), decide_eq_true (p := (1 : Int) <= (G : Int) + 1) (by omega), decide_eq_true (p := ((G : Int) + 1) <= 52) (by omega)]; rfl
 have HCk := vv fun w => Fms.Check (E : Int) ((G : Int) + 1) w
 rw [R3.chk_ok hok] at HCk
 have HNk := vv fun w' (h : Below w.heap.size w w') => Lex.Check 4 neg dneg s x hneg A n c xs hx p w' (hr.below h rfl) hmax
 rw [hnum, numErr_true] at HNk
 have dm : decide ((4 : Int) < (mode : Int)) = false := decide_eq_false (by omega)
 have hG : (G : Int) <= 51 := by omega
 have hps : (p : Int) / 2 ^ G = ((p / R3.tw G : Nat) : Int) := by unfold R3.tw; rw [Int.natCast_ediv, Int.natCast_pow]; rfl
 obtain ⟨v, hv⟩ := yx (p / R3.tw G)
 rw [<- hv] at hps
 have hv0 : v = 0 := by rw [hv]; exact Nat.div_eq_of_lt hp
 rw [hv0] at hps
 have hps0 : (p : Int) / 2 ^ G = 0 := hps
 clear hps
 have HNo := fun w => Fms.NaN E G p neg w h1 h2 h4 hp
 obtain ⟨O, hO⟩ := yx (sgb E (G + 1) neg + ((2 ^ E - 1) * 2 ^ (G + 1) + (2 ^ G + p)))
 rw [<- hO] at HNo ⊢
 have HNo := vv HNo
 clear hO hv hv0
 obtain ⟨w0, hw0⟩ := yx (w.alloc (.cells #[.int .i64 (E : Int), .int .i64 (((G : Int) + 1) : Int)] 23))
 obtain ⟨w1, hw1⟩ := yx (w0.alloc (.cells #[.int .u8 (4), .bool neg, .bool dneg, .string s, .int .i64 x, .bool hneg, .slice A n c, .int .i64 hx, .int .u64 (p : Int)] 33))
 have hB0 : Below w.heap.size w w0 := by rw [hw0]; exact (Below.refl _ w).alloc (Nat.le_refl _) _
 have hB1 : Below w0.heap.size w0 w1 := by rw [hw1]; exact (Below.refl _ w0).alloc (Nat.le_refl _) _
 have hsz1 : w0.heap.size = w.heap.size + 1 := by rw [hw0]; simp
 have hF0 : FmAt w1 w.heap.size (E) (((G : Int) + 1)) := (show FmAt w0 w.heap.size (E) (((G : Int) + 1)) by rw [hw0]; exact FmAt.made w _ _ _).below hB1
 have hX0 : NumBox w1 (w.heap.size + 1) 4 neg dneg s x hneg A n c hx p := by rw [<- hsz1, hw1]; exact NumBox.made w0 _ _ _ _ _ _ _ _ _ _ _ _
 have hB : Below w.heap.size w w1 := hB0.trans (hB1.mono hB0.size)
 have HF := vv hF0
 have HX := vv hX0
 have HB := vv hB
 have HW1 : Hid (w1 = (w.alloc (.cells #[.int .i64 (E : Int), .int .i64 (((G : Int) + 1) : Int)] 23)).alloc (.cells #[.int .u8 (4), .bool neg, .bool dneg, .string s, .int .i64 x, .bool hneg, .slice A n c, .int .i64 hx, .int .u64 (p : Int)] 33)) := vv (by rw [hw1, hw0])
 have f0 := hF0.c0
 have f1 := hF0.c1
 have l0 := hF0.lt
 clear hw0 hw1 hB0 hB1 hsz1 hF0 hX0 hB hnum hr hmax h1 h2 h4 hok hm hp
 go_enter Tryz.func4, Tryz.ntmps4
 go_wp2_with fail
 rw [<- HW1.out]
 refine (HCk.out _).mono ?_
 rintro e w2 ⟨rfl, hB2⟩
 have HF := vv (HF.out.below hB2)
 have HX := vv (HX.out.below hB2)
 have HB := vn HB hB2
 clear hB2 f0 f1 l0
 obtain ⟨c0, c1, c2, c3, c4, c5, c6, c7, c8, cl⟩ := HX.out
 go_wp2_with fail
 refine (HNk.out _ HB.out).mono ?_
 rintro e w3 ⟨rfl, hB3⟩
 have HF := vv (HF.out.below hB3)
 have HX := vv (HX.out.below hB3)
 have HB := vn HB hB3
 clear hB3 c0 c1 c2 c3 c4 c5 c6 c7 c8 cl
 obtain ⟨c0, c1, c2, c3, c4, c5, c6, c7, c8, cl⟩ := HX.out
 obtain ⟨f0, f1, fl⟩ := HF.out
 go_wp2_with fail
 refine (HNo.out _).mono ?_
 rintro e w4 ⟨rfl, hB4⟩
 have HB := vn HB hB4
 clear hB4
 go_wp2
 go_ret3
 exact ⟨rfl, HB.out⟩
theorem Number (E F : Int) (kind : Nat) (neg dneg : Bool) (s : ByteArray) (x : Int) (hneg : Bool) (A : Option Addr) (n c : Nat) (xs : List Nat) (hx : Int) (p mode : Nat) (w : World) (hr : Rd w A n c xs) (hmax : (s.size : Int) <= 4611686018427387904) (hst : Std w) :
  Calls Tryz.prog 4 #[fm E F, numV kind neg dneg s x hneg A n c hx p, .int .u8 (mode : Int)] w (NumPost (numAns E F kind neg dneg s x hneg n xs hx p mode) w) := by
 rcases (Bool.eq_false_or_eq_true (R3.formOk E F)).symm with hf | hf
 ·have e : numAns E F kind neg dneg s x hneg n xs hx p mode = (0, 0, 5) := by unfold numAns; rw [if_pos hf]
  rw [e]; exact Number_form E F kind neg dneg s x hneg A n c xs hx p mode w hf
 obtain ⟨e, f, rfl, rfl, h1, h2, h3, h4⟩ := R3.formOk_nat hf
 have nf : ¬ R3.formOk (e : Int) (f : Int) = false := by rw [hf]; decide
 rcases (Bool.eq_false_or_eq_true (numOk kind neg dneg s x hneg n xs hx p)).symm with hn | hn
 ·have e : numAns e f kind neg dneg s x hneg n xs hx p mode = (0, 0, 110) := by unfold numAns; rw [if_neg nf, if_pos hn]
  rw [e]; exact Number_num _ _ kind neg dneg s x hneg A n c xs hx p mode w h1 h2 h3 h4 hr hmax hn
 have nn : ¬ numOk kind neg dneg s x hneg n xs hx p = false := by rw [hn]; decide
 by_cases hm : 4 < mode
 ·have e : numAns e f kind neg dneg s x hneg n xs hx p mode = (0, 0, 7) := by unfold numAns; rw [if_neg nf, if_neg nn, if_pos hm]
  rw [e]; exact Number_mode _ _ kind neg dneg s x hneg A n c xs hx p mode w h1 h2 h3 h4 hr hmax hn hm
 have hA : numAns e f kind neg dneg s x hneg n xs hx p mode = numAns e f kind neg dneg s x hneg n xs hx p mode := rfl
 conv at hA => rhs; unfold numAns
 rw [if_neg nf, if_neg nn, if_neg hm] at hA
 rw [hA]
 have hm' : mode <= 4 := by omega
 have te : ((e : Nat) : Int).toNat = e := Int.toNat_natCast e
 have tf : ((f : Nat) : Int).toNat = f := Int.toNat_natCast f
 rw [te, tf]
 clear hA
 obtain ⟨g, rfl⟩ : ∃ g, e = g + 1 := ⟨e - 1, by omega⟩
 have eg : ((g + 1 : Nat) : Int) = (g : Int) + 1 := by omega
 rcases numOk_kind hn with rfl | rfl | rfl | rfl
 ·rw [if_pos rfl]
  obtain ⟨b1, b2, b3, b4⟩ := decMay_facts (numOk_dec hn)
  rcases b4 with h0 | ⟨h0, hd, hb⟩
  ·have hs0 := bytes_none h0
   rw [eg]
   refine (Number_dec_none g f neg dneg s hs0 x hneg A n c xs hx p mode w (by omega) (by omega) h3 h4 hr hmax hn hm' (by omega) (by omega) hst).mono ?_
   intro r w' h
   have eq : decOut (g + 1) f dneg s x mode = signedS (g + 1) f false dneg mode 0 (t10 (-x)) := by
    unfold decOut
    rw [h0, dvk_zero, Nat.zero_mul, signed_zero]
   rw [eq]; exact h
  ·rw [eg]
   exact Number_dec_some g f neg dneg s x hneg A n c xs hx p mode w (by omega) (by omega) h3 h4 hr hmax hn hm' hd h0 b3 hb (by omega) (by omega) hst
 ·rw [if_neg (by omega), if_pos rfl]
  have ht := numOk_hex hn
  obtain ⟨hk, b1, b2⟩ := twoOk_facts ht
  obtain ⟨hn1, hn2⟩ := natOk_facts hk
  have hl2 : xs = toL (val xs) := by
   have h5 := toL_val_take hr.lim (n := n) (fun i hi => by rw [List.getD_eq_getElem?_getD, List.getElem?_eq_none (by rw [hr.len]; exact hi)]; rfl) (hn2.imp id (fun h => ⟨by rw [hr.len]; exact Nat.le_refl _, h⟩))
   rw [<- h5, <- hr.len, List.take_length]
  have hr' : Rd w A n c (toL (val xs)) := by rw [<- hl2]; exact hr
  rw [hl2] at hn ht
  rw [eg]
  exact Number_hex g f (val xs) neg dneg s x hneg A n c hx p mode w (by omega) (by omega) h3 h4 hr' hmax hn hm' hn1 ht (by omega) (by omega)
 ·rw [if_neg (by omega), if_neg (by omega), if_pos rfl]
  exact Number_inf (g + 1) f neg dneg s x hneg A n c xs hx p mode w h1 h2 h3 h4 hr hmax hn hm'
 ·rw [if_neg (by omega), if_neg (by omega), if_neg (by omega)]
  obtain ⟨k, rfl⟩ : ∃ k, f = k + 1 := ⟨f - 1, by omega⟩
  rw [Nat.add_sub_cancel]
  have ecast : ((k + 1 : Nat) : Int) = (k : Int) + 1 := by omega
  rw [ecast]
  by_cases hp : 2 ^ k <= p
  ·rw [if_pos hp]
   exact Number_pay (g + 1) k neg dneg s x hneg A n c xs hx p mode w h1 h2 (by omega) hr hmax hn hm' hp
  ·rw [if_neg hp]
   exact Number_nan (g + 1) k neg dneg s x hneg A n c xs hx p mode w h1 h2 (by omega) hr hmax hn hm' (Nat.lt_of_not_le hp)
end Go.Proofs.YtbfmpcfcmbjeeaaGreatDoor.Rea
