/- Lemmas for ReadNumbers. -/
import Derived.Test.YtbfmpcfcmbjeeaaGreatDoorPartAW
set_option linter.all false
namespace Go.Proofs.YtbfmpcfcmbjeeaaGreatDoor
open Go Go.RowKit R5
def decOut (E F : Nat) (neg : Bool) (s : ByteArray) (x : Int) (mode : Nat) : Nat × Nat :=
 signedS E F neg neg mode (dvk s s.size * t10 x) (t10 (-x))
def numAns (E F : Int) (kind : Nat) (neg dneg : Bool) (s : ByteArray) (x : Int) (hneg : Bool) (n : Nat) (xs : List Nat) (hx : Int) (p mode : Nat) : Nat × Nat × Nat :=
 if R3.formOk E F = false then (0, 0, 5)
 else if numOk kind neg dneg s x hneg n xs hx p = false then (0, 0, 110)
 else if 4 < mode then (0, 0, 7)
 else if kind = 1 then ((decOut E.toNat F.toNat dneg s x mode).1, (decOut E.toNat F.toNat dneg s x mode).2, 0)
 else if kind = 2 then ((signedS E.toNat F.toNat hneg neg mode (val xs * p2 hx) (p2 (-hx))).1, (signedS E.toNat F.toNat hneg neg mode (val xs * p2 hx) (p2 (-hx))).2, 0)
 else if kind = 3 then (sgb E.toNat F.toNat neg + (2 ^ E.toNat - 1) * 2 ^ F.toNat, 0, 0)
 else if 2 ^ (F.toNat - 1) <= p then (0, 0, 115)
 else (sgb E.toNat F.toNat neg + ((2 ^ E.toNat - 1) * 2 ^ F.toNat + (2 ^ (F.toNat - 1) + p)), 0, 0)
def NumPost (o : Nat × Nat × Nat) (w : World) (e : Ending) (w' : World) : Prop := e = .returned (.tuple #[.int .u64 (o.1 : Int), .int .u8 (o.2.1 : Int), .int .i64 (o.2.2 : Int)]) /\ Below w.heap.size w w'
theorem signed_zero (E F : Nat) (below neg : Bool) (mode b : Nat) : signedS E F below neg mode 0 b = signedS E F false neg mode 0 b := by unfold signedS; rw [if_pos rfl, if_pos rfl]
end Go.Proofs.YtbfmpcfcmbjeeaaGreatDoor
namespace Go.Proofs.YtbfmpcfcmbjeeaaGreatDoor.R16
open Go Go.RowKit R5
set_option maxHeartbeats 1000000 in
theorem Number_form (E F : Int) (kind : Nat) (neg dneg : Bool) (s : ByteArray) (x : Int) (hneg : Bool) (A : Option Addr) (n c : Nat) (xs : List Nat) (hx : Int) (p mode : Nat) (w : World) (hform : R3.formOk E F = false) :
  Calls Tryz.prog 5 #[fm E F, numV kind neg dneg s x hneg A n c hx p, .int .u8 (mode : Int)] w (NumPost (0, 0, 5) w) := by
 have HCk := vv fun w => R3.Check E F w
 rw [R3.chk_no hform] at HCk
 obtain ⟨w0, hw0⟩ := yx (w.alloc (.cells #[.int .i64 (E : Int), .int .i64 (F : Int)] 23))
 obtain ⟨w1, hw1⟩ := yx (w0.alloc (.cells #[.int .u8 ((kind : Int)), .bool neg, .bool dneg, .string s, .int .i64 x, .bool hneg, .slice A n c, .int .i64 hx, .int .u64 (p : Int)] 33))
 have hB0 : Below w.heap.size w w0 := by rw [hw0]; exact (Below.refl _ w).alloc (Nat.le_refl _) _
 have hB1 : Below w0.heap.size w0 w1 := by rw [hw1]; exact (Below.refl _ w0).alloc (Nat.le_refl _) _
 have hsz1 : w0.heap.size = w.heap.size + 1 := by rw [hw0]; simp
 have hF0 : FmAt w1 w.heap.size (E) (F) := (show FmAt w0 w.heap.size (E) (F) by rw [hw0]; exact FmAt.made w _ _ _).below hB1
 have hX0 : NumBox w1 (w.heap.size + 1) kind neg dneg s x hneg A n c hx p := by rw [<- hsz1, hw1]; exact NumBox.made w0 _ _ _ _ _ _ _ _ _ _ _ _
 have hB : Below w.heap.size w w1 := hB0.trans (hB1.mono hB0.size)
 have HF := vv hF0
 have HX := vv hX0
 have HB := vv hB
 have HW1 : Hid (w1 = (w.alloc (.cells #[.int .i64 (E : Int), .int .i64 (F : Int)] 23)).alloc (.cells #[.int .u8 ((kind : Int)), .bool neg, .bool dneg, .string s, .int .i64 x, .bool hneg, .slice A n c, .int .i64 hx, .int .u64 (p : Int)] 33)) := vv (by rw [hw1, hw0])
 have f0 := hF0.c0
 have f1 := hF0.c1
 have l0 := hF0.lt
 clear hw0 hw1 hB0 hB1 hsz1 hF0 hX0 hB hform
 go_enter Tryz.func5, Tryz.ntmps5
 go_wp2_with fail
 rw [<- HW1.out]
 refine (HCk.out _).mono ?_
 rintro e w2 ⟨rfl, hB2⟩
 have HF := vv (HF.out.below hB2)
 have HX := vv (HX.out.below hB2)
 have HB := vn HB hB2
 clear hB2 f0 f1 l0
 go_wp2
 go_ret3
 exact ⟨rfl, HB.out⟩
set_option maxHeartbeats 1000000 in
theorem Number_num (E F : Nat) (kind : Nat) (neg dneg : Bool) (s : ByteArray) (x : Int) (hneg : Bool) (A : Option Addr) (n c : Nat) (xs : List Nat) (hx : Int) (p mode : Nat) (w : World) (h1 : 2 <= E) (h2 : E <= 11) (h3 : 1 <= F) (h4 : F <= 52) (hr : Rd w A n c xs) (hnum : numOk kind neg dneg s x hneg n xs hx p = false) :
  Calls Tryz.prog 5 #[fm E F, numV kind neg dneg s x hneg A n c hx p, .int .u8 (mode : Int)] w (NumPost (0, 0, 110) w) := by
 have hok : R3.formOk (E : Int) (F : Int) = true := by
  unfold R3.formOk; rw [decide_eq_true (p := (2 : Int) <= E) (by omega), decide_eq_true (p := (E : Int) <= 11) (by omega), decide_eq_true (p := (1 : Int) <= F) (by omega), decide_eq_true (p := (F : Int) <= 52) (by omega)]; rfl
 have HCk := vv fun w => R3.Check (E : Int) (F : Int) w
 rw [R3.chk_ok hok] at HCk
 have HNk := vv fun w' (h : Below w.heap.size w w') => R11.Check kind neg dneg s x hneg A n c xs hx p w' (hr.below h rfl)
 rw [hnum, numErr_false] at HNk
 obtain ⟨w0, hw0⟩ := yx (w.alloc (.cells #[.int .i64 (E : Int), .int .i64 (F : Int)] 23))
 obtain ⟨w1, hw1⟩ := yx (w0.alloc (.cells #[.int .u8 ((kind : Int)), .bool neg, .bool dneg, .string s, .int .i64 x, .bool hneg, .slice A n c, .int .i64 hx, .int .u64 (p : Int)] 33))
 have hB0 : Below w.heap.size w w0 := by rw [hw0]; exact (Below.refl _ w).alloc (Nat.le_refl _) _
 have hB1 : Below w0.heap.size w0 w1 := by rw [hw1]; exact (Below.refl _ w0).alloc (Nat.le_refl _) _
 have hsz1 : w0.heap.size = w.heap.size + 1 := by rw [hw0]; simp
 have hF0 : FmAt w1 w.heap.size (E) (F) := (show FmAt w0 w.heap.size (E) (F) by rw [hw0]; exact FmAt.made w _ _ _).below hB1
 have hX0 : NumBox w1 (w.heap.size + 1) kind neg dneg s x hneg A n c hx p := by rw [<- hsz1, hw1]; exact NumBox.made w0 _ _ _ _ _ _ _ _ _ _ _ _
 have hB : Below w.heap.size w w1 := hB0.trans (hB1.mono hB0.size)
 have HF := vv hF0
 have HX := vv hX0
 have HB := vv hB
 have HW1 : Hid (w1 = (w.alloc (.cells #[.int .i64 (E : Int), .int .i64 (F : Int)] 23)).alloc (.cells #[.int .u8 ((kind : Int)), .bool neg, .bool dneg, .string s, .int .i64 x, .bool hneg, .slice A n c, .int .i64 hx, .int .u64 (p : Int)] 33)) := vv (by rw [hw1, hw0])
 have f0 := hF0.c0
 have f1 := hF0.c1
 have l0 := hF0.lt
 clear hw0 hw1 hB0 hB1 hsz1 hF0 hX0 hB hnum hr h1 h2 h3 h4 hok
 go_enter Tryz.func5, Tryz.ntmps5
 go_wp2_with fail
 rw [<- HW1.out]
 refine (HCk.out _).mono ?_
 rintro e w2 ⟨rfl, hB2⟩
 have HF := vv (HF.out.below hB2)
 have HX := vv (HX.out.below hB2)
 have HB := vn HB hB2
 clear hB2 f0 f1 l0
 obtain ⟨c0, c1, c2, c3, c4, c5, c6, c7, c8, cl⟩ := HX.out
 go_wp2_with fail
 refine (HNk.out _ HB.out).mono ?_
 rintro e w3 ⟨rfl, hB3⟩
 have HF := vv (HF.out.below hB3)
 have HX := vv (HX.out.below hB3)
 have HB := vn HB hB3
 clear hB3 c0 c1 c2 c3 c4 c5 c6 c7 c8 cl
 go_wp2
 go_ret3
 exact ⟨rfl, HB.out⟩
set_option maxHeartbeats 1000000 in
theorem Number_mode (E F : Nat) (kind : Nat) (neg dneg : Bool) (s : ByteArray) (x : Int) (hneg : Bool) (A : Option Addr) (n c : Nat) (xs : List Nat) (hx : Int) (p mode : Nat) (w : World) (h1 : 2 <= E) (h2 : E <= 11) (h3 : 1 <= F) (h4 : F <= 52) (hr : Rd w A n c xs) (hnum : numOk kind neg dneg s x hneg n xs hx p = true) (hm : 4 < mode) :
  Calls Tryz.prog 5 #[fm E F, numV kind neg dneg s x hneg A n c hx p, .int .u8 (mode : Int)] w (NumPost (0, 0, 7) w) := by
 have hok : R3.formOk (E : Int) (F : Int) = true := by
  unfold R3.formOk; rw [decide_eq_true (p := (2 : Int) <= E) (by omega), decide_eq_true (p := (E : Int) <= 11) (by omega), decide_eq_true (p := (1 : Int) <= F) (by omega), decide_eq_true (p := (F : Int) <= 52) (by omega)]; rfl
 have HCk := vv fun w => R3.Check (E : Int) (F : Int) w
 rw [R3.chk_ok hok] at HCk
 have HNk := vv fun w' (h : Below w.heap.size w w') => R11.Check kind neg dneg s x hneg A n c xs hx p w' (hr.below h rfl)
 rw [hnum, numErr_true] at HNk
 have dm : decide ((4 : Int) < (mode : Int)) = true := decide_eq_true (by omega)
 obtain ⟨w0, hw0⟩ := yx (w.alloc (.cells #[.int .i64 (E : Int), .int .i64 (F : Int)] 23))
 obtain ⟨w1, hw1⟩ := yx (w0.alloc (.cells #[.int .u8 ((kind : Int)), .bool neg, .bool dneg, .string s, .int .i64 x, .bool hneg, .slice A n c, .int .i64 hx, .int .u64 (p : Int)] 33))
 have hB0 : Below w.heap.size w w0 := by rw [hw0]; exact (Below.refl _ w).alloc (Nat.le_refl _) _
 have hB1 : Below w0.heap.size w0 w1 := by rw [hw1]; exact (Below.refl _ w0).alloc (Nat.le_refl _) _
 have hsz1 : w0.heap.size = w.heap.size + 1 := by rw [hw0]; simp
 have hF0 : FmAt w1 w.heap.size (E) (F) := (show FmAt w0 w.heap.size (E) (F) by rw [hw0]; exact FmAt.made w _ _ _).below hB1
 have hX0 : NumBox w1 (w.heap.size + 1) kind neg dneg s x hneg A n c hx p := by rw [<- hsz1, hw1]; exact NumBox.made w0 _ _ _ _ _ _ _ _ _ _ _ _
 have hB : Below w.heap.size w w1 := hB0.trans (hB1.mono hB0.size)
 have HF := vv hF0
 have HX := vv hX0
 have HB := vv hB
 have HW1 : Hid (w1 = (w.alloc (.cells #[.int .i64 (E : Int), .int .i64 (F : Int)] 23)).alloc (.cells #[.int .u8 ((kind : Int)), .bool neg, .bool dneg, .string s, .int .i64 x, .bool hneg, .slice A n c, .int .i64 hx, .int .u64 (p : Int)] 33)) := vv (by rw [hw1, hw0])
 have f0 := hF0.c0
 have f1 := hF0.c1
 have l0 := hF0.lt
 clear hw0 hw1 hB0 hB1 hsz1 hF0 hX0 hB hnum hr h1 h2 h3 h4 hok hm
 go_enter Tryz.func5, Tryz.ntmps5
 go_wp2_with fail
 rw [<- HW1.out]
 refine (HCk.out _).mono ?_
 rintro e w2 ⟨rfl, hB2⟩
 have HF := vv (HF.out.below hB2)
 have HX := vv (HX.out.below hB2)
 have HB := vn HB hB2
 clear hB2 f0 f1 l0
 obtain ⟨c0, c1, c2, c3, c4, c5, c6, c7, c8, cl⟩ := HX.out
 go_wp2_with fail
 refine (HNk.out _ HB.out).mono ?_
 rintro e w3 ⟨rfl, hB3⟩
 have HF := vv (HF.out.below hB3)
 have HX := vv (HX.out.below hB3)
 have HB := vn HB hB3
 clear hB3 c0 c1 c2 c3 c4 c5 c6 c7 c8 cl
 go_wp2
 go_ret3
 exact ⟨rfl, HB.out⟩
set_option maxHeartbeats 1000000 in
theorem Number_dec_none (E F : Nat) (neg dneg : Bool) (s : ByteArray) (hs0 : s = ⟨#[]⟩) (x : Int) (hneg : Bool) (A : Option Addr) (n c : Nat) (xs : List Nat) (hx : Int) (p mode : Nat) (w : World) (h1 : 2 <= E) (h2 : E <= 11) (h3 : 1 <= F) (h4 : F <= 52) (hr : Rd w A n c xs) (hnum : numOk 1 neg dneg s x hneg n xs hx p = true) (hm : mode <= 4) (hx1 : -4611686018427387904 <= x) (hx2 : x <= 4611686018427387904) (hst : Std w) :
  Calls Tryz.prog 5 #[fm E F, numV 1 neg dneg s x hneg A n c hx p, .int .u8 (mode : Int)] w (BfePost (signedS E F false dneg mode 0 (t10 (-x))) w) := by
 have hok : R3.formOk (E : Int) (F : Int) = true := by
  unfold R3.formOk; rw [decide_eq_true (p := (2 : Int) <= E) (by omega), decide_eq_true (p := (E : Int) <= 11) (by omega), decide_eq_true (p := (1 : Int) <= F) (by omega), decide_eq_true (p := (F : Int) <= 52) (by omega)]; rfl
 have HCk := vv fun w => R3.Check (E : Int) (F : Int) w
 rw [R3.chk_ok hok] at HCk
 have HNk := vv fun w' (h : Below w.heap.size w w') => R11.Check 1 neg dneg s x hneg A n c xs hx p w' (hr.below h rfl)
 rw [hnum, numErr_true] at HNk
 have dm : decide ((4 : Int) < (mode : Int)) = false := decide_eq_false (by omega)
 have HDc := vv fun w' (h : Below w.heap.size w w') => R11.decimal_none E F dneg mode x w' h1 h2 h3 h4 hm hx1 hx2 (hst.fs (Fs.of_nil h))
 rw [<- hs0] at HDc
 obtain ⟨O, hO⟩ := yx (signedS E F false dneg mode 0 (t10 (-x)))
 rw [<- hO] at HDc ⊢
 obtain ⟨w0, hw0⟩ := yx (w.alloc (.cells #[.int .i64 (E : Int), .int .i64 (F : Int)] 23))
 obtain ⟨w1, hw1⟩ := yx (w0.alloc (.cells #[.int .u8 (1), .bool neg, .bool dneg, .string s, .int .i64 x, .bool hneg, .slice A n c, .int .i64 hx, .int .u64 (p : Int)] 33))
 have hB0 : Below w.heap.size w w0 := by rw [hw0]; exact (Below.refl _ w).alloc (Nat.le_refl _) _
 have hB1 : Below w0.heap.size w0 w1 := by rw [hw1]; exact (Below.refl _ w0).alloc (Nat.le_refl _) _
 have hsz1 : w0.heap.size = w.heap.size + 1 := by rw [hw0]; simp
 have hF0 : FmAt w1 w.heap.size (E) (F) := (show FmAt w0 w.heap.size (E) (F) by rw [hw0]; exact FmAt.made w _ _ _).below hB1
 have hX0 : NumBox w1 (w.heap.size + 1) 1 neg dneg s x hneg A n c hx p := by rw [<- hsz1, hw1]; exact NumBox.made w0 _ _ _ _ _ _ _ _ _ _ _ _
 have hB : Below w.heap.size w w1 := hB0.trans (hB1.mono hB0.size)
 have HF := vv hF0
 have HX := vv hX0
 have HB := vv hB
 have HW1 : Hid (w1 = (w.alloc (.cells #[.int .i64 (E : Int), .int .i64 (F : Int)] 23)).alloc (.cells #[.int .u8 (1), .bool neg, .bool dneg, .string s, .int .i64 x, .bool hneg, .slice A n c, .int .i64 hx, .int .u64 (p : Int)] 33)) := vv (by rw [hw1, hw0])
 have f0 := hF0.c0
 have f1 := hF0.c1
 have l0 := hF0.lt
 clear hw0 hw1 hB0 hB1 hsz1 hF0 hX0 hB hnum hr h1 h2 h3 h4 hok hm hst hO hs0
 go_enter Tryz.func5, Tryz.ntmps5
 go_wp2_with fail
 rw [<- HW1.out]
 refine (HCk.out _).mono ?_
 rintro e w2 ⟨rfl, hB2⟩
 have HF := vv (HF.out.below hB2)
 have HX := vv (HX.out.below hB2)
 have HB := vn HB hB2
 clear hB2 f0 f1 l0
 obtain ⟨c0, c1, c2, c3, c4, c5, c6, c7, c8, cl⟩ := HX.out
 go_wp2_with fail
 refine (HNk.out _ HB.out).mono ?_
 rintro e w3 ⟨rfl, hB3⟩
 have HF := vv (HF.out.below hB3)
 have HX := vv (HX.out.below hB3)
 have HB := vn HB hB3
 clear hB3 c0 c1 c2 c3 c4 c5 c6 c7 c8 cl
 obtain ⟨c0, c1, c2, c3, c4, c5, c6, c7, c8, cl⟩ := HX.out
 obtain ⟨f0, f1, fl⟩ := HF.out
 go_wp2_with fail
 refine (HDc.out _ HB.out).mono ?_
 rintro e w4 ⟨rfl, hB4⟩
 have HB := vn HB hB4
 clear hB4
 go_wp2
 go_ret3
 exact ⟨rfl, HB.out⟩
set_option maxHeartbeats 1000000 in
theorem Number_dec_some (E F : Nat) (neg dneg : Bool) (s : ByteArray) (x : Int) (hneg : Bool) (A : Option Addr) (n c : Nat) (xs : List Nat) (hx : Int) (p mode : Nat) (w : World) (h1 : 2 <= E) (h2 : E <= 11) (h3 : 1 <= F) (h4 : F <= 52) (hr : Rd w A n c xs) (hnum : numOk 1 neg dneg s x hneg n xs hx p = true) (hm : mode <= 4) (hd : Digs s) (h0 : 0 < s.size) (hsz : s.size <= 65536) (hf : byteAt s 0 ≠ 48) (hx1 : -4611686018427387904 <= x) (hx2 : x <= 4611686018427387904) (hst : Std w) :
  Calls Tryz.prog 5 #[fm E F, numV 1 neg dneg s x hneg A n c hx p, .int .u8 (mode : Int)] w (BfePost (signedS E F dneg dneg mode (dvk s s.size * t10 x) (t10 (-x))) w) := by
 have hok : R3.formOk (E : Int) (F : Int) = true := by
  unfold R3.formOk; rw [decide_eq_true (p := (2 : Int) <= E) (by omega), decide_eq_true (p := (E : Int) <= 11) (by omega), decide_eq_true (p := (1 : Int) <= F) (by omega), decide_eq_true (p := (F : Int) <= 52) (by omega)]; rfl
 have HCk := vv fun w => R3.Check (E : Int) (F : Int) w
 rw [R3.chk_ok hok] at HCk
 have HNk := vv fun w' (h : Below w.heap.size w w') => R11.Check 1 neg dneg s x hneg A n c xs hx p w' (hr.below h rfl)
 rw [hnum, numErr_true] at HNk
 have dm : decide ((4 : Int) < (mode : Int)) = false := decide_eq_false (by omega)
 have HDc := vv fun w' (h : Below w.heap.size w w') => R11.decimal_some E F dneg mode s x w' h1 h2 h3 h4 hm hd h0 hsz hf hx1 hx2 (hst.fs (Fs.of_nil h))
 obtain ⟨O, hO⟩ := yx (signedS E F dneg dneg mode (dvk s s.size * t10 x) (t10 (-x)))
 rw [<- hO] at HDc ⊢
 obtain ⟨w0, hw0⟩ := yx (w.alloc (.cells #[.int .i64 (E : Int), .int .i64 (F : Int)] 23))
 obtain ⟨w1, hw1⟩ := yx (w0.alloc (.cells #[.int .u8 (1), .bool neg, .bool dneg, .string s, .int .i64 x, .bool hneg, .slice A n c, .int .i64 hx, .int .u64 (p : Int)] 33))
 have hB0 : Below w.heap.size w w0 := by rw [hw0]; exact (Below.refl _ w).alloc (Nat.le_refl _) _
 have hB1 : Below w0.heap.size w0 w1 := by rw [hw1]; exact (Below.refl _ w0).alloc (Nat.le_refl _) _
 have hsz1 : w0.heap.size = w.heap.size + 1 := by rw [hw0]; simp
 have hF0 : FmAt w1 w.heap.size (E) (F) := (show FmAt w0 w.heap.size (E) (F) by rw [hw0]; exact FmAt.made w _ _ _).below hB1
 have hX0 : NumBox w1 (w.heap.size + 1) 1 neg dneg s x hneg A n c hx p := by rw [<- hsz1, hw1]; exact NumBox.made w0 _ _ _ _ _ _ _ _ _ _ _ _
 have hB : Below w.heap.size w w1 := hB0.trans (hB1.mono hB0.size)
 have HF := vv hF0
 have HX := vv hX0
 have HB := vv hB
 have HW1 : Hid (w1 = (w.alloc (.cells #[.int .i64 (E : Int), .int .i64 (F : Int)] 23)).alloc (.cells #[.int .u8 (1), .bool neg, .bool dneg, .string s, .int .i64 x, .bool hneg, .slice A n c, .int .i64 hx, .int .u64 (p : Int)] 33)) := vv (by rw [hw1, hw0])
 have f0 := hF0.c0
 have f1 := hF0.c1
 have l0 := hF0.lt
 clear hw0 hw1 hB0 hB1 hsz1 hF0 hX0 hB hnum hr h1 h2 h3 h4 hok hm hst hO hd h0 hsz hf
 go_enter Tryz.func5, Tryz.ntmps5
 go_wp2_with fail
 rw [<- HW1.out]
 refine (HCk.out _).mono ?_
 rintro e w2 ⟨rfl, hB2⟩
 have HF := vv (HF.out.below hB2)
 have HX := vv (HX.out.below hB2)
 have HB := vn HB hB2
 clear hB2 f0 f1 l0
 obtain ⟨c0, c1, c2, c3, c4, c5, c6, c7, c8, cl⟩ := HX.out
 go_wp2_with fail
 refine (HNk.out _ HB.out).mono ?_
 rintro e w3 ⟨rfl, hB3⟩
 have HF := vv (HF.out.below hB3)
 have HX := vv (HX.out.below hB3)
 have HB := vn HB hB3
 clear hB3 c0 c1 c2 c3 c4 c5 c6 c7 c8 cl
 obtain ⟨c0, c1, c2, c3, c4, c5, c6, c7, c8, cl⟩ := HX.out
 obtain ⟨f0, f1, fl⟩ := HF.out
 go_wp2_with fail
 refine (HDc.out _ HB.out).mono ?_
 rintro e w4 ⟨rfl, hB4⟩
 have HB := vn HB hB4
 clear hB4
 go_wp2
 go_ret3
 exact ⟨rfl, HB.out⟩
set_option maxHeartbeats 1000000 in
theorem Number_hex (E F : Nat) (N : Nat) (neg dneg : Bool) (s : ByteArray) (x : Int) (hneg : Bool) (A : Option Addr) (n c : Nat)  (hx : Int) (p mode : Nat) (w : World) (h1 : 2 <= E) (h2 : E <= 11) (h3 : 1 <= F) (h4 : F <= 52) (hr : Rd w A n c (toL N)) (hnum : numOk 2 neg dneg s x hneg n (toL N) hx p = true) (hm : mode <= 4) (hn : n <= 16384) (hok2 : twoOk hneg n (toL N) hx = true) (hx1 : -4611686018427387904 <= hx) (hx2 : hx <= 4611686018427387904) (hst : Std w) :
  Calls Tryz.prog 5 #[fm E F, numV 2 neg dneg s x hneg A n c hx p, .int .u8 (mode : Int)] w (BfePost (signedS E F hneg neg mode (N * p2 hx) (p2 (-hx))) w) := by
 have hok : R3.formOk (E : Int) (F : Int) = true := by
  unfold R3.formOk; rw [decide_eq_true (p := (2 : Int) <= E) (by omega), decide_eq_true (p := (E : Int) <= 11) (by omega), decide_eq_true (p := (1 : Int) <= F) (by omega), decide_eq_true (p := (F : Int) <= 52) (by omega)]; rfl
 have HCk := vv fun w => R3.Check (E : Int) (F : Int) w
 rw [R3.chk_ok hok] at HCk
 have HNk := vv fun w' (h : Below w.heap.size w w') => R11.Check 2 neg dneg s x hneg A n c (toL N) hx p w' (hr.below h rfl)
 rw [hnum, numErr_true] at HNk
 have dm : decide ((4 : Int) < (mode : Int)) = false := decide_eq_false (by omega)
 have HDc := vv fun w' (h : Below w.heap.size w w') => R5.Dyadic E F hneg neg mode A n c N hx w' h1 h2 h3 h4 hm (hr.below h rfl) hn hok2 hx1 hx2 (hst.fs (Fs.of_nil h))
 obtain ⟨O, hO⟩ := yx (signedS E F hneg neg mode (N * p2 hx) (p2 (-hx)))
 rw [<- hO] at HDc ⊢
 obtain ⟨w0, hw0⟩ := yx (w.alloc (.cells #[.int .i64 (E : Int), .int .i64 (F : Int)] 23))
 obtain ⟨w1, hw1⟩ := yx (w0.alloc (.cells #[.int .u8 (2), .bool neg, .bool dneg, .string s, .int .i64 x, .bool hneg, .slice A n c, .int .i64 hx, .int .u64 (p : Int)] 33))
 have hB0 : Below w.heap.size w w0 := by rw [hw0]; exact (Below.refl _ w).alloc (Nat.le_refl _) _
 have hB1 : Below w0.heap.size w0 w1 := by rw [hw1]; exact (Below.refl _ w0).alloc (Nat.le_refl _) _
 have hsz1 : w0.heap.size = w.heap.size + 1 := by rw [hw0]; simp
 have hF0 : FmAt w1 w.heap.size (E) (F) := (show FmAt w0 w.heap.size (E) (F) by rw [hw0]; exact FmAt.made w _ _ _).below hB1
 have hX0 : NumBox w1 (w.heap.size + 1) 2 neg dneg s x hneg A n c hx p := by rw [<- hsz1, hw1]; exact NumBox.made w0 _ _ _ _ _ _ _ _ _ _ _ _
 have hB : Below w.heap.size w w1 := hB0.trans (hB1.mono hB0.size)
 have HF := vv hF0
 have HX := vv hX0
 have HB := vv hB
 have HW1 : Hid (w1 = (w.alloc (.cells #[.int .i64 (E : Int), .int .i64 (F : Int)] 23)).alloc (.cells #[.int .u8 (2), .bool neg, .bool dneg, .string s, .int .i64 x, .bool hneg, .slice A n c, .int .i64 hx, .int .u64 (p : Int)] 33)) := vv (by rw [hw1, hw0])
 have f0 := hF0.c0
 have f1 := hF0.c1
 have l0 := hF0.lt
 clear hw0 hw1 hB0 hB1 hsz1 hF0 hX0 hB hnum hr h1 h2 h3 h4 hok hm hst hO hok2 hn
 go_enter Tryz.func5, Tryz.ntmps5
 go_wp2_with fail
 rw [<- HW1.out]
 refine (HCk.out _).mono ?_
 rintro e w2 ⟨rfl, hB2⟩
 have HF := vv (HF.out.below hB2)
 have HX := vv (HX.out.below hB2)
 have HB := vn HB hB2
 clear hB2 f0 f1 l0
 obtain ⟨c0, c1, c2, c3, c4, c5, c6, c7, c8, cl⟩ := HX.out
 go_wp2_with fail
 refine (HNk.out _ HB.out).mono ?_
 rintro e w3 ⟨rfl, hB3⟩
 have HF := vv (HF.out.below hB3)
 have HX := vv (HX.out.below hB3)
 have HB := vn HB hB3
 clear hB3 c0 c1 c2 c3 c4 c5 c6 c7 c8 cl
 obtain ⟨c0, c1, c2, c3, c4, c5, c6, c7, c8, cl⟩ := HX.out
 obtain ⟨f0, f1, fl⟩ := HF.out
 go_wp2_with fail
 refine (HDc.out _ HB.out).mono ?_
 rintro e w4 ⟨rfl, hB4⟩
 have HB := vn HB hB4
 clear hB4
 go_wp2
 go_ret3
 exact ⟨rfl, HB.out⟩
set_option maxHeartbeats 1000000 in
theorem Number_inf (E F : Nat) (neg dneg : Bool) (s : ByteArray) (x : Int) (hneg : Bool) (A : Option Addr) (n c : Nat) (xs : List Nat) (hx : Int) (p mode : Nat) (w : World) (h1 : 2 <= E) (h2 : E <= 11) (h3 : 1 <= F) (h4 : F <= 52) (hr : Rd w A n c xs) (hnum : numOk 3 neg dneg s x hneg n xs hx p = true) (hm : mode <= 4) :
  Calls Tryz.prog 5 #[fm E F, numV 3 neg dneg s x hneg A n c hx p, .int .u8 (mode : Int)] w (NumPost (sgb E F neg + (2 ^ E - 1) * 2 ^ F, 0, 0) w) := by
 have hok : R3.formOk (E : Int) (F : Int) = true := by
  unfold R3.formOk; rw [decide_eq_true (p := (2 : Int) <= E) (by omega), decide_eq_true (p := (E : Int) <= 11) (by omega), decide_eq_true (p := (1 : Int) <= F) (by omega), decide_eq_true (p := (F : Int) <= 52) (by omega)]; rfl
 have HCk := vv fun w => R3.Check (E : Int) (F : Int) w
 rw [R3.chk_ok hok] at HCk
 have HNk := vv fun w' (h : Below w.heap.size w w') => R11.Check 3 neg dneg s x hneg A n c xs hx p w' (hr.below h rfl)
 rw [hnum, numErr_true] at HNk
 have dm : decide ((4 : Int) < (mode : Int)) = false := decide_eq_false (by omega)
 have HDc := vv fun w => R3.Infinite E F neg w h1 h2 h3 h4
 obtain ⟨O, hO⟩ := yx (sgb E F neg + (2 ^ E - 1) * 2 ^ F)
 rw [<- hO] at HDc ⊢
 obtain ⟨w0, hw0⟩ := yx (w.alloc (.cells #[.int .i64 (E : Int), .int .i64 (F : Int)] 23))
 obtain ⟨w1, hw1⟩ := yx (w0.alloc (.cells #[.int .u8 (3), .bool neg, .bool dneg, .string s, .int .i64 x, .bool hneg, .slice A n c, .int .i64 hx, .int .u64 (p : Int)] 33))
 have hB0 : Below w.heap.size w w0 := by rw [hw0]; exact (Below.refl _ w).alloc (Nat.le_refl _) _
 have hB1 : Below w0.heap.size w0 w1 := by rw [hw1]; exact (Below.refl _ w0).alloc (Nat.le_refl _) _
 have hsz1 : w0.heap.size = w.heap.size + 1 := by rw [hw0]; simp
 have hF0 : FmAt w1 w.heap.size (E) (F) := (show FmAt w0 w.heap.size (E) (F) by rw [hw0]; exact FmAt.made w _ _ _).below hB1
 have hX0 : NumBox w1 (w.heap.size + 1) 3 neg dneg s x hneg A n c hx p := by rw [<- hsz1, hw1]; exact NumBox.made w0 _ _ _ _ _ _ _ _ _ _ _ _
 have hB : Below w.heap.size w w1 := hB0.trans (hB1.mono hB0.size)
 have HF := vv hF0
 have HX := vv hX0
 have HB := vv hB
 have HW1 : Hid (w1 = (w.alloc (.cells #[.int .i64 (E : Int), .int .i64 (F : Int)] 23)).alloc (.cells #[.int .u8 (3), .bool neg, .bool dneg, .string s, .int .i64 x, .bool hneg, .slice A n c, .int .i64 hx, .int .u64 (p : Int)] 33)) := vv (by rw [hw1, hw0])
 have f0 := hF0.c0
 have f1 := hF0.c1
 have l0 := hF0.lt
 clear hw0 hw1 hB0 hB1 hsz1 hF0 hX0 hB hnum hr h1 h2 h3 h4 hok hm hO
 go_enter Tryz.func5, Tryz.ntmps5
 go_wp2_with fail
 rw [<- HW1.out]
 refine (HCk.out _).mono ?_
 rintro e w2 ⟨rfl, hB2⟩
 have HF := vv (HF.out.below hB2)
 have HX := vv (HX.out.below hB2)
 have HB := vn HB hB2
 clear hB2 f0 f1 l0
 obtain ⟨c0, c1, c2, c3, c4, c5, c6, c7, c8, cl⟩ := HX.out
 go_wp2_with fail
 refine (HNk.out _ HB.out).mono ?_
 rintro e w3 ⟨rfl, hB3⟩
 have HF := vv (HF.out.below hB3)
 have HX := vv (HX.out.below hB3)
 have HB := vn HB hB3
 clear hB3 c0 c1 c2 c3 c4 c5 c6 c7 c8 cl
 obtain ⟨c0, c1, c2, c3, c4, c5, c6, c7, c8, cl⟩ := HX.out
 obtain ⟨f0, f1, fl⟩ := HF.out
 go_wp2_with fail
 refine (HDc.out _).mono ?_
 rintro e w4 ⟨rfl, hB4⟩
 have HB := vn HB hB4
 clear hB4
 go_wp2
 go_ret3
 exact ⟨rfl, HB.out⟩
set_option maxHeartbeats 1000000 in
theorem Number_pay (E G : Nat) (neg dneg : Bool) (s : ByteArray) (x : Int) (hneg : Bool) (A : Option Addr) (n c : Nat) (xs : List Nat) (hx : Int) (p mode : Nat) (w : World) (h1 : 2 <= E) (h2 : E <= 11) (h4 : G <= 51) (hr : Rd w A n c xs) (hnum : numOk 4 neg dneg s x hneg n xs hx p = true) (hm : mode <= 4) (hp : R3.tw G <= p) :
  Calls Tryz.prog 5 #[fm E ((G : Int) + 1), numV 4 neg dneg s x hneg A n c hx p, .int .u8 (mode : Int)] w (NumPost (0, 0, 115) w) := by
 have hok : R3.formOk (E : Int) ((G : Int) + 1) = true := by
  unfold R3.formOk; rw [decide_eq_true (p := (2 : Int) <= E) (by omega), decide_eq_true (p := (E : Int) <= 11) (by omega), decide_eq_true (p := (1 : Int) <= (G : Int) + 1) (by omega), decide_eq_true (p := ((G : Int) + 1) <= 52) (by omega)]; rfl
 have HCk := vv fun w => R3.Check (E : Int) ((G : Int) + 1) w
 rw [R3.chk_ok hok] at HCk
 have HNk := vv fun w' (h : Below w.heap.size w w') => R11.Check 4 neg dneg s x hneg A n c xs hx p w' (hr.below h rfl)
 rw [hnum, numErr_true] at HNk
 have dm : decide ((4 : Int) < (mode : Int)) = false := decide_eq_false (by omega)
 have hG : (G : Int) <= 51 := by omega
 obtain ⟨Q, hQ⟩ : ∃ Q : Nat, Q = R3.tw G := ⟨_, rfl⟩
 have hQ63 : Q <= 4611686018427387904 := by rw [hQ]; exact Nat.le_trans (R3.tw_le (j := G) (k := 62) (by omega)) (by decide)
 have HWr : Hid (IntKind.u64.wrap ((2 : Int) ^ G) = (Q : Int)) := vv (by
  have e : ((2 : Int) ^ G) = (Q : Int) := by rw [hQ]; unfold R3.tw; rw [Int.natCast_pow]; rfl
  rw [e, IntKind.wrap_u64]; omega)
 have dq : decide (IntKind.u64.wrap ((2 : Int) ^ G) <= (p : Int)) = true := decide_eq_true (by rw [HWr.out]; rw [<- hQ] at hp; omega)
 obtain ⟨w0, hw0⟩ := yx (w.alloc (.cells #[.int .i64 (E : Int), .int .i64 (((G : Int) + 1) : Int)] 23))
 obtain ⟨w1, hw1⟩ := yx (w0.alloc (.cells #[.int .u8 (4), .bool neg, .bool dneg, .string s, .int .i64 x, .bool hneg, .slice A n c, .int .i64 hx, .int .u64 (p : Int)] 33))
 have hB0 : Below w.heap.size w w0 := by rw [hw0]; exact (Below.refl _ w).alloc (Nat.le_refl _) _
 have hB1 : Below w0.heap.size w0 w1 := by rw [hw1]; exact (Below.refl _ w0).alloc (Nat.le_refl _) _
 have hsz1 : w0.heap.size = w.heap.size + 1 := by rw [hw0]; simp
 have hF0 : FmAt w1 w.heap.size (E) (((G : Int) + 1)) := (show FmAt w0 w.heap.size (E) (((G : Int) + 1)) by rw [hw0]; exact FmAt.made w _ _ _).below hB1
 have hX0 : NumBox w1 (w.heap.size + 1) 4 neg dneg s x hneg A n c hx p := by rw [<- hsz1, hw1]; exact NumBox.made w0 _ _ _ _ _ _ _ _ _ _ _ _
 have hB : Below w.heap.size w w1 := hB0.trans (hB1.mono hB0.size)
 have HF := vv hF0
 have HX := vv hX0
 have HB := vv hB
 have HW1 : Hid (w1 = (w.alloc (.cells #[.int .i64 (E : Int), .int .i64 (((G : Int) + 1) : Int)] 23)).alloc (.cells #[.int .u8 (4), .bool neg, .bool dneg, .string s, .int .i64 x, .bool hneg, .slice A n c, .int .i64 hx, .int .u64 (p : Int)] 33)) := vv (by rw [hw1, hw0])
 have f0 := hF0.c0
 have f1 := hF0.c1
 have l0 := hF0.lt
 clear hw0 hw1 hB0 hB1 hsz1 hF0 hX0 hB hnum hr h1 h2 h4 hok hm hp hQ hQ63
 go_enter Tryz.func5, Tryz.ntmps5
 go_wp2_with fail
 rw [<- HW1.out]
 refine (HCk.out _).mono ?_
 rintro e w2 ⟨rfl, hB2⟩
 have HF := vv (HF.out.below hB2)
 have HX := vv (HX.out.below hB2)
 have HB := vn HB hB2
 clear hB2 f0 f1 l0
 obtain ⟨c0, c1, c2, c3, c4, c5, c6, c7, c8, cl⟩ := HX.out
 go_wp2_with fail
 refine (HNk.out _ HB.out).mono ?_
 rintro e w3 ⟨rfl, hB3⟩
 have HF := vv (HF.out.below hB3)
 have HX := vv (HX.out.below hB3)
 have HB := vn HB hB3
 clear hB3 c0 c1 c2 c3 c4 c5 c6 c7 c8 cl
 obtain ⟨c0, c1, c2, c3, c4, c5, c6, c7, c8, cl⟩ := HX.out
 obtain ⟨f0, f1, fl⟩ := HF.out
 go_wp2
 go_ret3
 exact ⟨rfl, HB.out⟩
set_option maxHeartbeats 1000000 in
theorem Number_nan (E G : Nat) (neg dneg : Bool) (s : ByteArray) (x : Int) (hneg : Bool) (A : Option Addr) (n c : Nat) (xs : List Nat) (hx : Int) (p mode : Nat) (w : World) (h1 : 2 <= E) (h2 : E <= 11) (h4 : G <= 51) (hr : Rd w A n c xs) (hnum : numOk 4 neg dneg s x hneg n xs hx p = true) (hm : mode <= 4) (hp : p < R3.tw G) :
  Calls Tryz.prog 5 #[fm E ((G : Int) + 1), numV 4 neg dneg s x hneg A n c hx p, .int .u8 (mode : Int)] w (NumPost (sgb E (G + 1) neg + ((2 ^ E - 1) * 2 ^ (G + 1) + (2 ^ G + p)), 0, 0) w) := by
 have hok : R3.formOk (E : Int) ((G : Int) + 1) = true := by
  unfold R3.formOk; rw [decide_eq_true (p := (2 : Int) <= E) (by omega), decide_eq_true (p := (E : Int) <= 11) (by omega), decide_eq_true (p := (1 : Int) <= (G : Int) + 1) (by omega), decide_eq_true (p := ((G : Int) + 1) <= 52) (by omega)]; rfl
 have HCk := vv fun w => R3.Check (E : Int) ((G : Int) + 1) w
 rw [R3.chk_ok hok] at HCk
 have HNk := vv fun w' (h : Below w.heap.size w w') => R11.Check 4 neg dneg s x hneg A n c xs hx p w' (hr.below h rfl)
 rw [hnum, numErr_true] at HNk
 have dm : decide ((4 : Int) < (mode : Int)) = false := decide_eq_false (by omega)
 have hG : (G : Int) <= 51 := by omega
 obtain ⟨Q, hQ⟩ : ∃ Q : Nat, Q = R3.tw G := ⟨_, rfl⟩
 have hQ63 : Q <= 4611686018427387904 := by rw [hQ]; exact Nat.le_trans (R3.tw_le (j := G) (k := 62) (by omega)) (by decide)
 have HWr : Hid (IntKind.u64.wrap ((2 : Int) ^ G) = (Q : Int)) := vv (by
  have e : ((2 : Int) ^ G) = (Q : Int) := by rw [hQ]; unfold R3.tw; rw [Int.natCast_pow]; rfl
  rw [e, IntKind.wrap_u64]; omega)
 have ecast : ((G + 1 : Nat) : Int) = (G : Int) + 1 := by omega
 have HNo := fun w => R3.None_ E (G + 1) p neg w h1 h2 (by omega) (by omega) (by rw [Nat.add_sub_cancel]; exact hp)
 obtain ⟨O, hO⟩ := yx (sgb E (G + 1) neg + ((2 ^ E - 1) * 2 ^ (G + 1) + (2 ^ G + p)))
 rw [Nat.add_sub_cancel, <- hO] at HNo
 simp only [ecast] at HNo
 rw [<- hO]
 have HNo := vv HNo
 have dq : decide (IntKind.u64.wrap ((2 : Int) ^ G) <= (p : Int)) = false := decide_eq_false (by rw [HWr.out]; rw [<- hQ] at hp; omega)
 clear hO ecast
 obtain ⟨w0, hw0⟩ := yx (w.alloc (.cells #[.int .i64 (E : Int), .int .i64 (((G : Int) + 1) : Int)] 23))
 obtain ⟨w1, hw1⟩ := yx (w0.alloc (.cells #[.int .u8 (4), .bool neg, .bool dneg, .string s, .int .i64 x, .bool hneg, .slice A n c, .int .i64 hx, .int .u64 (p : Int)] 33))
 have hB0 : Below w.heap.size w w0 := by rw [hw0]; exact (Below.refl _ w).alloc (Nat.le_refl _) _
 have hB1 : Below w0.heap.size w0 w1 := by rw [hw1]; exact (Below.refl _ w0).alloc (Nat.le_refl _) _
 have hsz1 : w0.heap.size = w.heap.size + 1 := by rw [hw0]; simp
 have hF0 : FmAt w1 w.heap.size (E) (((G : Int) + 1)) := (show FmAt w0 w.heap.size (E) (((G : Int) + 1)) by rw [hw0]; exact FmAt.made w _ _ _).below hB1
 have hX0 : NumBox w1 (w.heap.size + 1) 4 neg dneg s x hneg A n c hx p := by rw [<- hsz1, hw1]; exact NumBox.made w0 _ _ _ _ _ _ _ _ _ _ _ _
 have hB : Below w.heap.size w w1 := hB0.trans (hB1.mono hB0.size)
 have HF := vv hF0
 have HX := vv hX0
 have HB := vv hB
 have HW1 : Hid (w1 = (w.alloc (.cells #[.int .i64 (E : Int), .int .i64 (((G : Int) + 1) : Int)] 23)).alloc (.cells #[.int .u8 (4), .bool neg, .bool dneg, .string s, .int .i64 x, .bool hneg, .slice A n c, .int .i64 hx, .int .u64 (p : Int)] 33)) := vv (by rw [hw1, hw0])
 have f0 := hF0.c0
 have f1 := hF0.c1
 have l0 := hF0.lt
 clear hw0 hw1 hB0 hB1 hsz1 hF0 hX0 hB hnum hr h1 h2 h4 hok hm hp hQ hQ63
 go_enter Tryz.func5, Tryz.ntmps5
 go_wp2_with fail
 rw [<- HW1.out]
 refine (HCk.out _).mono ?_
 rintro e w2 ⟨rfl, hB2⟩
 have HF := vv (HF.out.below hB2)
 have HX := vv (HX.out.below hB2)
 have HB := vn HB hB2
 clear hB2 f0 f1 l0
 obtain ⟨c0, c1, c2, c3, c4, c5, c6, c7, c8, cl⟩ := HX.out
 go_wp2_with fail
 refine (HNk.out _ HB.out).mono ?_
 rintro e w3 ⟨rfl, hB3⟩
 have HF := vv (HF.out.below hB3)
 have HX := vv (HX.out.below hB3)
 have HB := vn HB hB3
 clear hB3 c0 c1 c2 c3 c4 c5 c6 c7 c8 cl
 obtain ⟨c0, c1, c2, c3, c4, c5, c6, c7, c8, cl⟩ := HX.out
 obtain ⟨f0, f1, fl⟩ := HF.out
 go_wp2_with fail
 refine (HNo.out _).mono ?_
 rintro e w4 ⟨rfl, hB4⟩
 have HB := vn HB hB4
 clear hB4
 go_wp2
 go_ret3
 exact ⟨rfl, HB.out⟩
theorem numOk_dec {neg dneg : Bool} {s : ByteArray} {x : Int} {hneg : Bool} {n : Nat} {xs : List Nat} {hx : Int} {p : Nat} (h : numOk 1 neg dneg s x hneg n xs hx p = true) : decMay s x = true := by
 unfold numOk at h
 rw [if_pos rfl] at h
 simp only [Bool.and_eq_true] at h
 exact h.1.1.1
theorem numOk_hex {neg dneg : Bool} {s : ByteArray} {x : Int} {hneg : Bool} {n : Nat} {xs : List Nat} {hx : Int} {p : Nat} (h : numOk 2 neg dneg s x hneg n xs hx p = true) : twoOk hneg n xs hx = true := by
 unfold numOk at h
 rw [if_neg (by omega), if_pos rfl] at h
 simp only [Bool.and_eq_true] at h
 exact h.1.1.1
theorem numOk_kind {kind : Nat} {neg dneg : Bool} {s : ByteArray} {x : Int} {hneg : Bool} {n : Nat} {xs : List Nat} {hx : Int} {p : Nat} (h : numOk kind neg dneg s x hneg n xs hx p = true) : kind = 1 \/ kind = 2 \/ kind = 3 \/ kind = 4 := by
 unfold numOk at h
 split at h
 ·omega
 ·split at h
  ·omega
  ·split at h
   ·omega
   ·split at h
    ·omega
    ·cases h
theorem decMay_facts {s : ByteArray} {x : Int} (h : decMay s x = true) : -1073741824 <= x /\ x <= 1073741824 /\ s.size <= 65536 /\ (s.size = 0 \/ (0 < s.size /\ Digs s /\ byteAt s 0 ≠ 48)) := by
 unfold decMay at h
 simp only [Bool.and_eq_true, decide_eq_true_eq] at h
 obtain ⟨⟨⟨a, b⟩, c⟩, d⟩ := h
 refine ⟨b, a, c, ?_⟩
 by_cases h0 : s.size = 0
 ·exact .inl h0
 ·rw [if_neg h0] at d
  simp only [Bool.and_eq_true, Bool.not_eq_true', decide_eq_false_iff_not] at d
  exact .inr ⟨by omega, digsB_true.1 d.1.1, d.1.2⟩
theorem twoOk_facts {neg : Bool} {n : Nat} {xs : List Nat} {x : Int} (h : twoOk neg n xs x = true) : natOk n xs = true /\ -1073741824 <= x /\ x <= 1073741824 := by
 unfold twoOk at h
 simp only [Bool.and_eq_true, decide_eq_true_eq] at h
 exact ⟨h.1.1.1, h.1.2, h.1.1.2⟩
theorem bytes_none {s : ByteArray} (h : s.size = 0) : s = ⟨#[]⟩ := by
 have h1 : s.data.size = 0 := h
 have h2 := Array.eq_empty_of_size_eq_zero h1
 cases s; simp_all
theorem natOk_facts {n : Nat} {xs : List Nat} (h : natOk n xs = true) : n <= 16384 /\ (n = 0 \/ nth xs (n - 1) ≠ 0) := by
 unfold natOk at h
 simp only [Bool.and_eq_true, Bool.or_eq_true, decide_eq_true_eq] at h
 exact h
theorem Number (E F : Int) (kind : Nat) (neg dneg : Bool) (s : ByteArray) (x : Int) (hneg : Bool) (A : Option Addr) (n c : Nat) (xs : List Nat) (hx : Int) (p mode : Nat) (w : World) (hr : Rd w A n c xs) (hst : Std w) :
  Calls Tryz.prog 5 #[fm E F, numV kind neg dneg s x hneg A n c hx p, .int .u8 (mode : Int)] w (NumPost (numAns E F kind neg dneg s x hneg n xs hx p mode) w) := by
 rcases (Bool.eq_false_or_eq_true (R3.formOk E F)).symm with hf | hf
 ·have e : numAns E F kind neg dneg s x hneg n xs hx p mode = (0, 0, 5) := by unfold numAns; rw [if_pos hf]
  rw [e]; exact Number_form E F kind neg dneg s x hneg A n c xs hx p mode w hf
 obtain ⟨e, f, rfl, rfl, h1, h2, h3, h4⟩ := R3.formOk_nat hf
 have nf : ¬ R3.formOk (e : Int) (f : Int) = false := by rw [hf]; decide
 rcases (Bool.eq_false_or_eq_true (numOk kind neg dneg s x hneg n xs hx p)).symm with hn | hn
 ·have e : numAns e f kind neg dneg s x hneg n xs hx p mode = (0, 0, 110) := by unfold numAns; rw [if_neg nf, if_pos hn]
  rw [e]; exact Number_num _ _ kind neg dneg s x hneg A n c xs hx p mode w h1 h2 h3 h4 hr hn
 have nn : ¬ numOk kind neg dneg s x hneg n xs hx p = false := by rw [hn]; decide
 by_cases hm : 4 < mode
 ·have e : numAns e f kind neg dneg s x hneg n xs hx p mode = (0, 0, 7) := by unfold numAns; rw [if_neg nf, if_neg nn, if_pos hm]
  rw [e]; exact Number_mode _ _ kind neg dneg s x hneg A n c xs hx p mode w h1 h2 h3 h4 hr hn hm
 have hA : numAns e f kind neg dneg s x hneg n xs hx p mode = numAns e f kind neg dneg s x hneg n xs hx p mode := rfl
 conv at hA => rhs; unfold numAns
 rw [if_neg nf, if_neg nn, if_neg hm] at hA
 rw [hA]
 have hm' : mode <= 4 := by omega
 have te : ((e : Nat) : Int).toNat = e := Int.toNat_natCast e
 have tf : ((f : Nat) : Int).toNat = f := Int.toNat_natCast f
 rw [te, tf]
 clear hA
 rcases numOk_kind hn with rfl | rfl | rfl | rfl
 ·rw [if_pos rfl]
  obtain ⟨b1, b2, b3, b4⟩ := decMay_facts (numOk_dec hn)
  rcases b4 with h0 | ⟨h0, hd, hb⟩
  ·have hs0 := bytes_none h0
   refine (Number_dec_none e f neg dneg s hs0 x hneg A n c xs hx p mode w h1 h2 h3 h4 hr hn hm' (by omega) (by omega) hst).mono ?_
   intro r w' h
   have eq : decOut e f dneg s x mode = signedS e f false dneg mode 0 (t10 (-x)) := by
    unfold decOut
    rw [h0, dvk_zero, Nat.zero_mul, signed_zero]
   rw [eq]; exact h
  ·exact Number_dec_some e f neg dneg s x hneg A n c xs hx p mode w h1 h2 h3 h4 hr hn hm' hd h0 b3 hb (by omega) (by omega) hst
 ·rw [if_neg (by omega), if_pos rfl]
  have ht := numOk_hex hn
  obtain ⟨hk, b1, b2⟩ := twoOk_facts ht
  obtain ⟨hn1, hn2⟩ := natOk_facts hk
  have hl2 : xs = toL (val xs) := by
   have h5 := toL_val_take hr.lim (n := n) (fun i hi => by rw [List.getD_eq_getElem?_getD, List.getElem?_eq_none (by rw [hr.len]; exact hi)]; rfl) (hn2.imp id (fun h => ⟨by rw [hr.len]; exact Nat.le_refl _, h⟩))
   rw [<- h5, <- hr.len, List.take_length]
  have hr' : Rd w A n c (toL (val xs)) := by rw [<- hl2]; exact hr
  rw [hl2] at hn ht
  exact Number_hex e f (val xs) neg dneg s x hneg A n c hx p mode w h1 h2 h3 h4 hr' hn hm' hn1 ht (by omega) (by omega) hst
 ·rw [if_neg (by omega), if_neg (by omega), if_pos rfl]
  exact Number_inf e f neg dneg s x hneg A n c xs hx p mode w h1 h2 h3 h4 hr hn hm'
 ·rw [if_neg (by omega), if_neg (by omega), if_neg (by omega)]
  obtain ⟨g, rfl⟩ : ∃ g, f = g + 1 := ⟨f - 1, by omega⟩
  rw [Nat.add_sub_cancel]
  have ecast : ((g + 1 : Nat) : Int) = (g : Int) + 1 := by omega
  rw [ecast]
  by_cases hp : 2 ^ g <= p
  ·rw [if_pos hp]
   exact Number_pay e g neg dneg s x hneg A n c xs hx p mode w h1 h2 (by omega) hr hn hm' hp
  ·rw [if_neg hp]
   exact Number_nan e g neg dneg s x hneg A n c xs hx p mode w h1 h2 (by omega) hr hn hm' (Nat.lt_of_not_le hp)
end Go.Proofs.YtbfmpcfcmbjeeaaGreatDoor.R16
namespace Go.Proofs.YtbfmpcfcmbjeeaaGreatDoor.R1
open Go Go.RowKit
theorem cmp_same (A B' : Option Addr) (n c d : Nat) (xs : List Nat) (w : World) (ha : Rd w A n c xs) (hb : Rd w B' n d xs) :
  Calls Tryz.prog 19 #[.slice A n c, .slice B' n d] w fun e w' => e = .returned (.int .i64 0) /\ Below w.heap.size w w' := by
 have hsm := ha.sm
 go_enter Tryz.func19, Tryz.ntmps19
 go_wp2
 go_loopw [5] (fun i wr => ∃ (z : Int) (k : Nat), i = .int .i64 z /\ z + 1 = k /\ k <= n /\ Below w.heap.size w wr) (fun i _ => (intOf i + 1).toNat)
 case atStart => exact ⟨_, n, rfl, by omega, Nat.le_refl _, Below.refl _ _⟩
 case round =>
  obtain ⟨z, k, rfl, hz, hk, hbel⟩ := hrel
  rcases Nat.eq_zero_or_pos k with rfl | hpos
  ·obtain rfl : z = -1 := by omega
   clear hz
   go_wp2
   go_ret
   exact ⟨rfl, hbel⟩
  ·obtain ⟨j, rfl⟩ : ∃ j, k = j + 1 := ⟨k - 1, by omega⟩
   obtain rfl : z = (j : Int) := by omega
   clear hz
   obtain ⟨b, off, rfl, hbl, hcell⟩ := ha.cell (by omega)
   have hxc : wr.cell? ⟨b, off + j, none⟩ = some (.int .u32 ((nth xs j : Nat) : Int)) := (hbel.cell (p := ⟨b, off + j, none⟩) hbl).trans (hcell j (by omega))
   clear hcell
   obtain ⟨b', off', rfl, hbl', hcell'⟩ := hb.cell (by omega)
   have hyc : wr.cell? ⟨b', off' + j, none⟩ = some (.int .u32 ((nth xs j : Nat) : Int)) := (hbel.cell (p := ⟨b', off' + j, none⟩) hbl').trans (hcell' j (by omega))
   clear hcell'
   have i1 : (j : Int) < (n : Int) := by omega
   have i2 : (0 : Int) <= (j : Int) := by omega
   have d1 : decide (nth xs j < nth xs j) = false := by simp
   go_wp2_with fail
   go_quiet (fail)
   go_wp2_with fail
   go_quiet (fail)
   go_wp2
   go_roundw
   case rel => exact ⟨_, j, rfl, by omega, by omega, below_drewN hbel _⟩
   case measure => simp [intOf]
theorem Same_like (A B' : Option Addr) (n c d : Nat) (xs : List Nat) (w : World) (ha : Rd w A n c xs) (hb : Rd w B' n d xs) :
  Calls Tryz.prog 6 #[.agg #[.slice A n c], .agg #[.slice B' n d]] w fun e w' => e = .returned (.bool true) /\ Below w.heap.size w w' := by
 have HC := vv fun w' (h : Below w.heap.size w w') => cmp_same A B' n c d xs w' (ha.below h rfl) (hb.below h rfl)
 have hB := ((Below.refl w.heap.size w).alloc (o := .cells #[.slice A n c] 28) (Nat.le_refl _)).alloc (o := .cells #[.slice B' n d] 28) (by simp)
 have HB := vv hB
 clear ha hb hB
 go_enter Tryz.func6, Tryz.ntmps6
 go_wp2_with fail
 refine (HC.out _ HB.out).mono ?_
 rintro e w1 ⟨rfl, hB1⟩
 have HB1 := vn HB hB1
 clear hB1
 go_wp2
 go_ret
 exact ⟨rfl, HB1.out⟩
end Go.Proofs.YtbfmpcfcmbjeeaaGreatDoor.R1
namespace Go.Proofs.YtbfmpcfcmbjeeaaGreatDoor.Fms
open Go Go.RowKit R5
theorem mask_eq : ∀ n : Fin 64, bits .andNot .u64 18446744073709551615 (IntKind.u64.wrap (18446744073709551615 * 2 ^ n.val)) = ((R3.tw n.val - 1 : Nat) : Int) := by decide +kernel
theorem mask (n : Nat) (w : World) (hn : n <= 63) :
  Calls Tryz.prog 33 #[.int .i64 (n : Int)] w fun e w' => e = .returned (.int .u64 ((R3.tw n - 1 : Nat) : Int)) /\ w = w' := by
 have HM := vv (mask_eq ⟨n, by omega⟩)
 go_enter Tryz.func33, Tryz.ntmps33
 go_wp2
 go_ret
 exact ⟨retI HM.out, rfl⟩
theorem and_low {b p y : Nat} (hb : b < 2 ^ p) (hy : y % 2 ^ p = 2 ^ p - 1) : b &&& y = b := by
 have h1 : b &&& y <= b := Nat.and_le_left
 have h2 := Nat.and_mod_two_pow (a := b) (b := y) (n := p)
 rw [Nat.mod_eq_of_lt (by omega), Nat.mod_eq_of_lt hb, hy, Nat.and_two_pow_sub_one_eq_mod, Nat.mod_eq_of_lt hb] at h2
 exact h2
theorem high_mod {p m : Nat} (hp : p <= 64) (hm : m + 1 <= 2 ^ (64 - p)) : (18446744073709551615 - m * 2 ^ p) % 2 ^ p = 2 ^ p - 1 := by
 have e : (18446744073709551616 : Nat) = 2 ^ (64 - p) * 2 ^ p := by rw [<- Nat.pow_add, show 64 - p + p = 64 by omega]
 obtain ⟨q, hq⟩ : ∃ q, 2 ^ (64 - p) = m + 1 + q := ⟨2 ^ (64 - p) - (m + 1), by omega⟩
 have hpos := Nat.two_pow_pos p
 rw [hq] at e
 have e2 : (m + 1 + q) * 2 ^ p = m * 2 ^ p + (q * 2 ^ p + 2 ^ p) := by rw [Nat.add_mul, Nat.add_mul, Nat.one_mul]; omega
 rw [e2] at e
 have e3 : 18446744073709551615 - m * 2 ^ p = 2 ^ p - 1 + q * 2 ^ p := by omega
 rw [e3, Nat.add_mul_mod_self_right, Nat.mod_eq_of_lt (by omega)]
theorem put (p sz b v : Nat) (w : World) (hs : sz <= 63) (hp : p + sz <= 64) (h1 : 1 <= sz) (hb : b < 2 ^ p) (hv : v < 2 ^ sz) :
  Calls Tryz.prog 69 #[.agg #[.int .i64 (p : Int), .int .i64 (sz : Int)], .int .u64 (b : Int), .int .u64 (v : Int)] w fun e w' => e = .returned (.int .u64 ((b + v * 2 ^ p : Nat) : Int)) /\ Below w.heap.size w w' := by
 have HM := vv fun w => mask sz w hs
 obtain ⟨M, hM⟩ := yx (R3.tw sz - 1)
 rw [<- hM] at HM
 have hM1 : M + 1 = 2 ^ sz := by have := R3.tw_pos sz; unfold R3.tw at *; omega
 have hsz : 2 ^ sz <= 2 ^ (64 - p) := Nat.pow_le_pow_right (by omega) (by omega)
 have e64 : (18446744073709551616 : Nat) = 2 ^ (64 - p) * 2 ^ p := by rw [<- Nat.pow_add, show 64 - p + p = 64 by omega]
 have hMp : (M + 1) * 2 ^ p <= 18446744073709551616 := by rw [e64]; exact Nat.mul_le_mul_right _ (by omega)
 have hvp : (v + 1) * 2 ^ p <= 18446744073709551616 := by rw [e64]; exact Nat.mul_le_mul_right _ (by omega)
 rw [Nat.add_mul, Nat.one_mul] at hMp hvp
 have hpos := Nat.two_pow_pos p
 have HW1 := vv (wrap_shl M p (by omega))
 have HW2 := vv (wrap_shl v p (by omega))
 have HA : Hid (bits .andNot .u64 (b : Int) ((M : Int) * 2 ^ p) = (b : Int)) := vv (by
  have e : (M : Int) * 2 ^ p = ((M * 2 ^ p : Nat) : Int) := by rw [Int.natCast_mul, Int.natCast_pow]; rfl
  rw [e, u64_andNot_nat _ _ (by omega) (by omega), and_low hb (high_mod (by omega) (by omega))])
 have HO : Hid (bits .or .u64 (b : Int) ((v * 2 ^ p : Nat) : Int) = ((b + v * 2 ^ p : Nat) : Int)) := vv (by
  rw [u64_or_nat _ _ (by omega) (by omega), Nat.or_comm, Nat.mul_comm v, <- Nat.two_pow_add_eq_or_of_lt hb, Nat.add_comm])
 have hpi : (p : Int) <= 63 := by omega
 have hB0 := (Below.refl w.heap.size w).alloc (o := .cells #[.int .i64 (p : Int), .int .i64 (sz : Int)] 104) (Nat.le_refl _)
 obtain ⟨w1, hw1⟩ := yx (w.alloc (.cells #[.int .i64 (p : Int), .int .i64 (sz : Int)] 104))
 have k0 : w1.cell? ⟨w.heap.size, 0, none⟩ = some (.int .i64 (p : Int)) := by rw [hw1]; simp only [World.cell?]; rw [heap_alloc_new]; rfl
 have k1 : w1.cell? ⟨w.heap.size, 1, none⟩ = some (.int .i64 (sz : Int)) := by rw [hw1]; simp only [World.cell?]; rw [heap_alloc_new]; rfl
 have kl : w.heap.size < w1.heap.size := by rw [hw1]; simp
 have HK0 := vv k0
 have HK1 := vv k1
 rw [<- hw1] at hB0
 have HB := vv hB0
 have HW := vv hw1
 clear hs hp h1 hb hv hM hM1 hsz e64 hMp hvp hpos hB0 hw1 k0 k1
 go_enter Tryz.func69, Tryz.ntmps69
 go_wp2_with fail
 rw [<- HW.out]
 refine wp_region_sch (fun w' => w'.cell? ⟨w.heap.size, 0, none⟩ = some (.int .i64 (p : Int)) /\ w'.cell? ⟨w.heap.size, 1, none⟩ = some (.int .i64 (sz : Int))) 8
  (.still 0 (.still 1 (.still 2 (.still 4 (.still 5 (.one 3 (.still 6 (.still 7 .done)))))))) (by kernel_rfl) (by kernel_rfl) (fun _ _ d _ _ h => by cases d <;> exact h) ⟨HK0.out, HK1.out⟩ (fun hS0 => ?_)
 iterate 5
  refine sch_still (v := ?_) rfl (by rfl) ?_ ?_
  rotate_left
  ·intro w hSw; go_simp; with_reducible rfl
  simp only [Act.put, List.setIfInBounds_toArray, List.set_cons_zero, List.set_cons_succ]
 refine sch_one rfl (by rfl) (fun K hK => ?_)
 go_simp
 refine (HM.out _).mono ?_
 rintro e w' ⟨rfl, rfl⟩
 go_wp2_with fail
 refine hK.out _ _ ⟨HK0.out, HK1.out⟩ (fun hHeld => ?_)
 clear hK
 iterate 1
  refine sch_still (v := ?_) rfl (by rfl) ?_ ?_
  rotate_left
  ·intro w hSw; go_simp; with_reducible rfl
  simp only [Act.put, List.setIfInBounds_toArray, List.set_cons_zero, List.set_cons_succ]
 rw [HW1.out]
 iterate 1
  refine sch_still (v := ?_) rfl (by rfl) ?_ ?_
  rotate_left
  ·intro w hSw; go_simp; with_reducible rfl
  simp only [Act.put, List.setIfInBounds_toArray, List.set_cons_zero, List.set_cons_succ]
 rw [HA.out]
 refine sch_done ?_
 have k0 := HK0.out
 have k1 := HK1.out
 go_wp2
 go_ret
 exact ⟨retI (by rw [HW2.out, HO.out]), below_drew HB.out⟩
abbrev layV (E F : Int) : Value := .agg #[.int .i64 0, .int .i64 F, .int .i64 F, .int .i64 E, .int .i64 (F + E), .int .i64 1]
structure LayBox (w : World) (g : Nat) (E F : Int) : Prop where
 c0 : w.cell? ⟨g, 0, none⟩ = some (.int .i64 0)
 c1 : w.cell? ⟨g, 1, none⟩ = some (.int .i64 F)
 c2 : w.cell? ⟨g, 2, none⟩ = some (.int .i64 F)
 c3 : w.cell? ⟨g, 3, none⟩ = some (.int .i64 E)
 c4 : w.cell? ⟨g, 4, none⟩ = some (.int .i64 (F + E))
 c5 : w.cell? ⟨g, 5, none⟩ = some (.int .i64 1)
 lt : g < w.heap.size
theorem LayBox.made (w : World) (E F : Int) (t : TypeId) : LayBox (w.alloc (.cells #[.int .i64 0, .int .i64 F, .int .i64 F, .int .i64 E, .int .i64 (F + E), .int .i64 1] t)) w.heap.size E F := by
 constructor <;> first | (simp only [World.cell?]; rw [heap_alloc_new]; rfl) | simp
theorem LayBox.below {w w' : World} {g : Nat} {E F : Int} (h : LayBox w g E F) (hb : Below w.heap.size w w') : LayBox w' g E F :=
 ⟨(hb.cell (p := ⟨g, 0, none⟩) h.lt).trans h.c0, (hb.cell (p := ⟨g, 1, none⟩) h.lt).trans h.c1, (hb.cell (p := ⟨g, 2, none⟩) h.lt).trans h.c2, (hb.cell (p := ⟨g, 3, none⟩) h.lt).trans h.c3, (hb.cell (p := ⟨g, 4, none⟩) h.lt).trans h.c4, (hb.cell (p := ⟨g, 5, none⟩) h.lt).trans h.c5, Nat.lt_of_lt_of_le h.lt hb.size⟩
theorem layout (E F : Nat) (w : World) (h2 : E <= 11) (h4 : F <= 52) :
  Calls Tryz.prog 68 #[fm E F] w fun e w' => e = .returned (layV E F) /\ Below w.heap.size w w' := by
 have h2i : (E : Int) <= 11 := by omega
 have h4i : (F : Int) <= 52 := by omega
 clear h2 h4
 go_enter Tryz.func68, Tryz.ntmps68
 go_wp2
 exact bodyPost_ret (v := layV E F) (by simp [results, Tryz.results68, go_sem]) rfl ⟨rfl, ((Below.refl _ _).alloc (Nat.le_refl _) _).alloc (by simp) _⟩
set_option maxHeartbeats 1000000 in
theorem join (E F x f : Nat) (neg : Bool) (w : World) (h1 : 2 <= E) (h2 : E <= 11) (h3 : 1 <= F) (h4 : F <= 52) (hx : x < 2 ^ E) (hf : f < 2 ^ F) :
  Calls Tryz.prog 34 #[fm E F, .bool neg, .int .u64 (x : Int), .int .u64 (f : Int)] w fun e w' => e = .returned (.int .u64 ((sgb E F neg + (x * 2 ^ F + f) : Nat) : Int)) /\ Below w.heap.size w w' := by
 have HL := vv fun w => layout E F w h2 h4
 have HP0 := vv fun w => put 0 F 0 f w (by omega) (by omega) (by omega) (Nat.two_pow_pos 0) hf
 have HP1 := vv fun w => put F E f x w (by omega) (by omega) (by omega) hf hx
 have hb : x * 2 ^ F + f < 2 ^ (F + E) := by
  have : (x + 1) * 2 ^ F <= 2 ^ E * 2 ^ F := Nat.mul_le_mul_right _ hx
  rw [Nat.pow_add, Nat.mul_comm (2 ^ F)]
  rw [Nat.add_mul, Nat.one_mul] at this
  omega
 have HP2 := fun w => put (F + E) 1 (x * 2 ^ F + f) 1 w (by omega) (by omega) (by omega) hb (by omega)
 obtain ⟨V, hV⟩ := yx (x * 2 ^ F + f)
 have e1 : f + x * 2 ^ F = V := by rw [hV, Nat.add_comm]
 have e0 : 0 + f * 2 ^ 0 = f := by omega
 have ec : ((F + E : Nat) : Int) = (F : Int) + (E : Int) := by omega
 obtain ⟨W, hW⟩ := yx (V + 1 * 2 ^ (F + E))
 simp only [e0] at HP0
 simp only [e1] at HP1
 simp only [<- hV, <- hW, ec] at HP2
 have HP2 := vv HP2
 rw [<- hV]
 have HRes : Hid (sgb E F neg + V = if neg then W else V) := vv (by unfold sgb; cases neg <;> simp [hW]; rw [Nat.add_comm E F, Nat.add_comm])
 obtain ⟨w0, hw0⟩ := yx (w.alloc (.cells #[.int .i64 (E : Int), .int .i64 (F : Int)] 23))
 have hB0 : Below w.heap.size w w0 := by rw [hw0]; exact (Below.refl _ w).alloc (Nat.le_refl _) _
 have HB := vv hB0
 have HW0 := vv hw0
 clear h1 h2 h3 h4 hx hf hb hV e1 e0 ec hW hw0 hB0
 go_enter Tryz.func34, Tryz.ntmps34
 go_wp2_with fail
 rw [<- HW0.out]
 refine (HL.out _).mono ?_
 rintro e w1 ⟨rfl, hB1⟩
 have HB := vn HB hB1
 clear hB1
 go_wp2_with fail
 have o2 := (Below.refl w1.heap.size w1).alloc (o := .cells #[.int .i64 0, .int .i64 (F : Int), .int .i64 (F : Int), .int .i64 (E : Int), .int .i64 ((F : Int) + (E : Int)), .int .i64 1] 105) (Nat.le_refl _)
 have hL := LayBox.made w1 (E : Int) (F : Int) 105
 obtain ⟨w2, hw2⟩ := yx (w1.alloc (.cells #[.int .i64 0, .int .i64 (F : Int), .int .i64 (F : Int), .int .i64 (E : Int), .int .i64 ((F : Int) + (E : Int)), .int .i64 1] 105))
 rw [<- hw2] at o2 hL ⊢
 have HLB := vv hL
 have HB := vn HB o2
 clear o2 hL hw2
 refine wp_region_sch (fun w' => w'.cell? ⟨w1.heap.size, 0, none⟩ = some (.int .i64 0) /\ w'.cell? ⟨w1.heap.size, 1, none⟩ = some (.int .i64 (F : Int)) /\ w'.cell? ⟨w1.heap.size, 2, none⟩ = some (.int .i64 (F : Int)) /\ w'.cell? ⟨w1.heap.size, 3, none⟩ = some (.int .i64 (E : Int))) 8
  (.still 0 (.still 1 (.still 2 (.still 3 (.still 4 (.still 6 (.one 5 (.one 7 .done)))))))) (by kernel_rfl) (by kernel_rfl) (fun _ _ d _ _ h => by cases d <;> exact h) ⟨HLB.out.c0, HLB.out.c1, HLB.out.c2, HLB.out.c3⟩ (fun hS0 => ?_)
 iterate 6
  refine sch_still (v := ?_) rfl (by rfl) ?_ ?_
  rotate_left
  ·intro w hSw; go_simp; with_reducible rfl
  simp only [Act.put, List.setIfInBounds_toArray, List.set_cons_zero, List.set_cons_succ]
 refine sch_one rfl (by rfl) (fun K hK => ?_)
 go_simp
 refine (HP0.out _).mono ?_
 rintro e w3 ⟨rfl, hB3⟩
 have hB3 : Below w2.heap.size w2 w3 := ⟨hB3.os, hB3.tape, hB3.output, hB3.size, hB3.block⟩
 have HLB := vv (HLB.out.below hB3)
 have HB := vn HB hB3
 clear hB3
 go_wp2_with fail
 refine hK.out _ _ ⟨HLB.out.c0, HLB.out.c1, HLB.out.c2, HLB.out.c3⟩ (fun hHeld => ?_)
 clear hK
 refine sch_one rfl (by rfl) (fun K hK => ?_)
 go_simp
 refine (HP1.out _).mono ?_
 rintro e w4 ⟨rfl, hB4⟩
 have HLB := vv (HLB.out.below hB4)
 have HB := vn HB hB4
 clear hB4
 go_wp2_with fail
 refine hK.out _ _ ⟨HLB.out.c0, HLB.out.c1, HLB.out.c2, HLB.out.c3⟩ (fun hHeld => ?_)
 clear hK
 refine sch_done ?_
 clear hHeld hS0
 have c4 := HLB.out.c4
 have c5 := HLB.out.c5
 have cl := HLB.out.lt
 cases neg
 ·go_wp2
  go_ret
  exact ⟨retI (by rw [HRes.out]; rfl), HB.out⟩
 ·go_wp2_with fail
  refine (HP2.out _).mono ?_
  rintro e w5 ⟨rfl, hB5⟩
  have HB := vn HB hB5
  clear hB5
  go_wp2
  go_ret
  exact ⟨retI (by rw [HRes.out]; rfl), HB.out⟩
theorem Check (E F : Int) (w : World) :
  Calls Tryz.prog 7 #[fm E F] w fun e w' => e = .returned (.int .i64 (R3.chk E F)) /\ Below w.heap.size w w' := by
 by_cases h1 : E < 2
 ·have HV : Hid (R3.formOk E F = false) := vv (by unfold R3.formOk; rw [decide_eq_false (p := 2 <= E) (by omega)]; rfl)
  have d1 : decide (E < 2) = true := decide_eq_true h1
  clear h1
  go_enter Tryz.func7, Tryz.ntmps7
  go_wp2
  go_ret
  exact ⟨retI (R3.chk_no HV.out).symm, (Below.refl _ _).alloc (Nat.le_refl _) _⟩
 have d1 : decide (E < 2) = false := decide_eq_false h1
 by_cases h2 : 11 < E
 ·have HV : Hid (R3.formOk E F = false) := vv (by unfold R3.formOk; rw [decide_eq_false (p := E <= 11) (by omega)]; simp)
  have d2 : decide (11 < E) = true := decide_eq_true h2
  clear h1 h2
  go_enter Tryz.func7, Tryz.ntmps7
  go_wp2
  go_ret
  exact ⟨retI (R3.chk_no HV.out).symm, (Below.refl _ _).alloc (Nat.le_refl _) _⟩
 have d2 : decide (11 < E) = false := decide_eq_false h2
 by_cases h3 : F < 1
 ·have HV : Hid (R3.formOk E F = false) := vv (by unfold R3.formOk; rw [decide_eq_false (p := 1 <= F) (by omega)]; simp)
  have d3 : decide (F < 1) = true := decide_eq_true h3
  clear h1 h2 h3
  go_enter Tryz.func7, Tryz.ntmps7
  go_wp2
  go_ret
  exact ⟨retI (R3.chk_no HV.out).symm, (Below.refl _ _).alloc (Nat.le_refl _) _⟩
 have d3 : decide (F < 1) = false := decide_eq_false h3
 by_cases h4 : 52 < F
 ·have HV : Hid (R3.formOk E F = false) := vv (by unfold R3.formOk; rw [decide_eq_false (p := F <= 52) (by omega)]; simp)
  have d4 : decide (52 < F) = true := decide_eq_true h4
  clear h1 h2 h3 h4
  go_enter Tryz.func7, Tryz.ntmps7
  go_wp2
  go_ret
  exact ⟨retI (R3.chk_no HV.out).symm, (Below.refl _ _).alloc (Nat.le_refl _) _⟩
 have d4 : decide (52 < F) = false := decide_eq_false h4
 have HV : Hid (R3.formOk E F = true) := vv (by unfold R3.formOk; rw [decide_eq_true (p := 2 <= E) (by omega), decide_eq_true (p := E <= 11) (by omega), decide_eq_true (p := 1 <= F) (by omega), decide_eq_true (p := F <= 52) (by omega)]; rfl)
 clear h1 h2 h3 h4
 go_enter Tryz.func7, Tryz.ntmps7
 go_wp2
 go_ret
 exact ⟨retI (R3.chk_ok HV.out).symm, (Below.refl _ _).alloc (Nat.le_refl _) _⟩
theorem formOk_in {E F : Nat} (h1 : 2 <= E) (h2 : E <= 11) (h3 : 1 <= F) (h4 : F <= 52) : R3.formOk (E : Int) (F : Int) = true := by
 unfold R3.formOk; rw [decide_eq_true (p := (2 : Int) <= E) (by omega), decide_eq_true (p := (E : Int) <= 11) (by omega), decide_eq_true (p := (1 : Int) <= F) (by omega), decide_eq_true (p := (F : Int) <= 52) (by omega)]; rfl
theorem inf1 (g E F : Nat) (w : World) (h2 : E <= 11) (hf : FmAt w g E F) :
  Calls Tryz.prog 32 #[.pointer (some ⟨g, 0, none⟩)] w fun e w' => e = .returned (.tuple #[.int .u64 ((R3.tw E - 1 : Nat) : Int), .int .u64 0]) /\ w = w' := by
 have HM := vv fun w => mask E w (by omega)
 obtain ⟨M, hM⟩ := yx (R3.tw E - 1)
 rw [<- hM] at HM ⊢
 have f0 := hf.c0
 have fl := hf.lt
 clear hM h2 hf
 go_enter Tryz.func32, Tryz.ntmps32
 go_wp2_with fail
 refine (HM.out _).mono ?_
 rintro e w' ⟨rfl, rfl⟩
 go_wp2
 go_ret2
 exact ⟨rfl, rfl⟩
theorem known (g E F : Nat) (neg : Bool) (w : World) (h1 : 2 <= E) (h2 : E <= 11) (h3 : 1 <= F) (h4 : F <= 52) (hf : FmAt w g E F) :
  Calls Tryz.prog 31 #[fm E F, .bool neg, .func (.func 32) #[] #[.pointer (some ⟨g, 0, none⟩)]] w fun e w' => e = .returned (.tuple #[.int .u64 ((sgb E F neg + ((2 ^ E - 1) * 2 ^ F) : Nat) : Int), .int .i64 0]) /\ Below w.heap.size w w' := by
 have HCk := vv fun w => Check (E : Int) (F : Int) w
 rw [R3.chk_ok (formOk_in h1 h2 h3 h4)] at HCk
 have HI := vv fun w (hf : FmAt w g E F) => inf1 g E F w h2 hf
 obtain ⟨M, hM⟩ := yx (R3.tw E - 1)
 have HJ := vv fun w => join E F M 0 neg w h1 h2 h3 h4 (by have := R3.tw_pos E; unfold R3.tw at *; omega) (Nat.two_pow_pos _)
 have e : M * 2 ^ F + 0 = (2 ^ E - 1) * 2 ^ F := by rw [hM]; rfl
 rw [e] at HJ
 rw [<- hM] at HI
 obtain ⟨O, hO⟩ := yx (sgb E F neg + (2 ^ E - 1) * 2 ^ F)
 rw [<- hO] at HJ ⊢
 have hB0 := (Below.refl w.heap.size w).alloc (o := .cells #[.int .i64 (E : Int), .int .i64 (F : Int)] 23) (Nat.le_refl _)
 have hF1 := FmAt.made w (E : Int) (F : Int) 23
 obtain ⟨w0, hw0⟩ := yx (w.alloc (.cells #[.int .i64 (E : Int), .int .i64 (F : Int)] 23))
 rw [<- hw0] at hB0 hF1
 have HF0 := vv (hf.below hB0)
 have HF := vv hF1
 have HB := vv hB0
 have HW0 := vv hw0
 have f0 := hF1.c0
 have f1 := hF1.c1
 have fl := hF1.lt
 clear hM hO hf hw0 hB0 hF1 e h1 h2 h3 h4
 go_enter Tryz.func31, Tryz.ntmps31
 go_wp2_with fail
 rw [<- HW0.out]
 refine (HCk.out _).mono ?_
 rintro e w1 ⟨rfl, hB1⟩
 have HF0 := vv (HF0.out.below hB1)
 have HF := vv (HF.out.below hB1)
 have HB := vn HB hB1
 obtain ⟨f0, f1, fl⟩ := HF.out
 clear hB1
 go_wp2_with fail
 refine (HI.out _ HF0.out).mono ?_
 rintro e w' ⟨rfl, rfl⟩
 go_wp2_with fail
 refine (HJ.out _).mono ?_
 rintro e w2 ⟨rfl, hB2⟩
 have HB := vn HB hB2
 clear hB2
 go_wp2
 go_ret2
 exact ⟨rfl, HB.out⟩
theorem Inf (E F : Nat) (neg : Bool) (w : World) (h1 : 2 <= E) (h2 : E <= 11) (h3 : 1 <= F) (h4 : F <= 52) :
  Calls Tryz.prog 11 #[fm E F, .bool neg] w fun e w' => e = .returned (.tuple #[.int .u64 ((sgb E F neg + ((2 ^ E - 1) * 2 ^ F) : Nat) : Int), .int .i64 0]) /\ Below w.heap.size w w' := by
 have HK := vv fun w' (hf : FmAt w' w.heap.size E F) => known w.heap.size E F neg w' h1 h2 h3 h4 hf
 obtain ⟨O, hO⟩ := yx (sgb E F neg + (2 ^ E - 1) * 2 ^ F)
 rw [<- hO] at HK ⊢
 clear hO h1 h2 h3 h4
 go_enter Tryz.func11, Tryz.ntmps11
 go_wp2_with fail
 refine (HK.out _ (FmAt.made w _ _ _)).mono ?_
 rintro e w1 ⟨rfl, hB1⟩
 have HB : Hid (Below w.heap.size w w1) := vv (((Below.refl _ w).alloc (Nat.le_refl _) _).trans (hB1.mono (by simp)))
 clear hB1
 go_wp2
 go_ret2
 exact ⟨rfl, HB.out⟩
set_option maxHeartbeats 1000000 in
theorem NaN (E G p : Nat) (neg : Bool) (w : World) (h1 : 2 <= E) (h2 : E <= 11) (h4 : G <= 51) (hp : p < R3.tw G) :
  Calls Tryz.prog 12 #[fm E ((G : Int) + 1), .bool neg, .int .u64 (p : Int)] w fun e w' => e = .returned (.tuple #[.int .u64 ((sgb E (G + 1) neg + ((2 ^ E - 1) * 2 ^ (G + 1) + (2 ^ G + p)) : Nat) : Int), .int .i64 0]) /\ Below w.heap.size w w' := by
 have ecast : ((G + 1 : Nat) : Int) = (G : Int) + 1 := by omega
 have hok := formOk_in (F := G + 1) h1 h2 (by omega) (by omega)
 rw [ecast] at hok
 have HCk := vv fun w => Check (E : Int) ((G : Int) + 1) w
 rw [R3.chk_ok hok] at HCk
 have HM := vv fun w => mask E w (by omega)
 obtain ⟨M, hM⟩ := yx (R3.tw E - 1)
 rw [<- hM] at HM
 obtain ⟨Q, hQ⟩ : ∃ Q : Nat, Q = R3.tw G := ⟨_, rfl⟩
 have hQ63 : Q <= 4611686018427387904 := by rw [hQ]; exact Nat.le_trans (R3.tw_le (j := G) (k := 62) (by omega)) (by decide)
 have hQF : Q * 2 = 2 ^ (G + 1) := by rw [hQ, Nat.pow_succ]; rfl
 rw [<- hQ] at hp
 have HJ := fun w => join E (G + 1) M (Q + p) neg w h1 h2 (by omega) (by omega) (by have := R3.tw_pos E; unfold R3.tw at *; omega) (by omega)
 have e : M * 2 ^ (G + 1) + (Q + p) = (2 ^ E - 1) * 2 ^ (G + 1) + (2 ^ G + p) := by rw [hM, hQ]; rfl
 simp only [e, ecast] at HJ
 obtain ⟨O, hO⟩ := yx (sgb E (G + 1) neg + ((2 ^ E - 1) * 2 ^ (G + 1) + (2 ^ G + p)))
 simp only [<- hO] at HJ
 have HJ := vv HJ
 rw [<- hO]
 have HWr : Hid (IntKind.u64.wrap ((2 : Int) ^ G) = (Q : Int)) := vv (by
  have e : ((2 : Int) ^ G) = (Q : Int) := by rw [hQ]; unfold R3.tw; rw [Int.natCast_pow]; rfl
  rw [e, IntKind.wrap_u64]; omega)
 have dq : decide (IntKind.u64.wrap ((2 : Int) ^ G) <= (p : Int)) = false := decide_eq_false (by rw [HWr.out]; omega)
 have HOr : Hid (bits .or .u64 (Q : Int) (p : Int) = ((Q + p : Nat) : Int)) := vv (by
  rw [u64_or_nat _ _ (by omega) (by omega)]
  have h := Nat.two_pow_add_eq_or_of_lt (i := G) (b := p) (by rw [hQ] at hp; exact hp) 1
  rw [Nat.mul_one] at h
  have e2 : 2 ^ G = Q := hQ.symm
  rw [e2] at h
  rw [<- h])
 have hGi : (G : Int) <= 51 := by omega
 have hB0 := (Below.refl w.heap.size w).alloc (o := .cells #[.int .i64 (E : Int), .int .i64 ((G : Int) + 1)] 23) (Nat.le_refl _)
 have hF1 := FmAt.made w (E : Int) ((G : Int) + 1) 23
 obtain ⟨w0, hw0⟩ := yx (w.alloc (.cells #[.int .i64 (E : Int), .int .i64 ((G : Int) + 1)] 23))
 rw [<- hw0] at hB0 hF1
 have HF := vv hF1
 have HB := vv hB0
 have HW0 := vv hw0
 have f0 := hF1.c0
 have f1 := hF1.c1
 have fl := hF1.lt
 clear hM hO hw0 hB0 hF1 e h1 h2 h4 hQ hQ63 hQF hp ecast hok
 go_enter Tryz.func12, Tryz.ntmps12
 go_wp2_with fail
 rw [<- HW0.out]
 refine (HCk.out _).mono ?_
 rintro e w1 ⟨rfl, hB1⟩
 have HF := vv (HF.out.below hB1)
 have HB := vn HB hB1
 obtain ⟨f0, f1, fl⟩ := HF.out
 clear hB1
 go_wp2_with fail
 rw [HWr.out]
 clear f0 f1 fl
 refine wp_region_sch (fun w' => w'.cell? ⟨w.heap.size, 0, none⟩ = some (.int .i64 (E : Int)) /\ w'.cell? ⟨w.heap.size, 1, none⟩ = some (.int .i64 ((G : Int) + 1))) 9
  (.still 0 (.still 1 (.still 2 (.still 3 (.still 5 (.still 6 (.still 7 (.one 4 (.one 8 .done))))))))) (by kernel_rfl) (by kernel_rfl) (fun _ _ d _ _ h => by cases d <;> exact h) ⟨HF.out.c0, HF.out.c1⟩ (fun hS0 => ?_)
 iterate 6
  refine sch_still (v := ?_) rfl (by rfl) ?_ ?_
  rotate_left
  ·intro w hSw; go_simp; with_reducible rfl
  simp only [Act.put, List.setIfInBounds_toArray, List.set_cons_zero, List.set_cons_succ]
 iterate 1
  refine sch_still (v := ?_) rfl (by rfl) ?_ ?_
  rotate_left
  ·intro w hSw; go_simp; with_reducible rfl
  simp only [Act.put, List.setIfInBounds_toArray, List.set_cons_zero, List.set_cons_succ]
 rw [HOr.out]
 refine sch_one rfl (by rfl) (fun K hK => ?_)
 go_simp
 refine (HM.out _).mono ?_
 rintro e w' ⟨rfl, rfl⟩
 go_wp2_with fail
 refine hK.out _ _ ⟨HF.out.c0, HF.out.c1⟩ (fun hHeld => ?_)
 clear hK
 refine sch_one rfl (by rfl) (fun K hK => ?_)
 go_simp
 refine (HJ.out _).mono ?_
 rintro e w2 ⟨rfl, hB2⟩
 have hB2 : Below w1.heap.size w1 w2 := ⟨hB2.os, hB2.tape, hB2.output, hB2.size, hB2.block⟩
 have HF := vv (HF.out.below hB2)
 have HB := vn HB hB2
 clear hB2
 go_wp2_with fail
 refine hK.out _ _ ⟨HF.out.c0, HF.out.c1⟩ (fun hHeld => ?_)
 clear hK
 refine sch_done ?_
 go_wp2
 go_ret2
 exact ⟨rfl, HB.out⟩
end Go.Proofs.YtbfmpcfcmbjeeaaGreatDoor.Fms
namespace Go.Proofs.YtbfmpcfcmbjeeaaGreatDoor.Dec
open Go Go.RowKit R5
theorem u8_digit {c : Nat} (h1 : 48 <= c) (h2 : c <= 57) : decide (9 < ((c : Int) - 48) % 256) = false := decide_eq_false (by omega)
theorem u8_other {c : Nat} (h : c < 256) (h1 : ¬ (48 <= c /\ c <= 57)) : decide (9 < ((c : Int) - 48) % 256) = true := decide_eq_true (by omega)
theorem digits (s : ByteArray) (w : World) (hsz : s.size <= 65536) :
  Calls Tryz.prog 53 #[.string s] w fun e w' => e = .returned (.bool (digsB s)) /\ w = w' := by
 have hszi : (s.size : Int) <= 65536 := by omega
 clear hsz
 go_enter Tryz.func53, Tryz.ntmps53
 go_wp2
 go_loop [6] (fun t => ∃ k : Nat, k <= s.size /\ t = .int .i64 k /\ (∀ j (h : j < s.size), j < k -> 48 <= s[j].toNat /\ s[j].toNat <= 57)) (fun t => s.size - (intOf t).toNat)
 case atStart => exact ⟨0, Nat.zero_le _, rfl, fun j _ h => absurd h (by omega)⟩
 case round =>
  obtain ⟨k, hk, rfl, hall⟩ := hrel
  have HA := vv hall
  clear hall
  by_cases hks : k < s.size
  ·by_cases hd : 48 <= s[k].toNat /\ s[k].toNat <= 57
   ·have HD := vv hd
    have d := u8_digit hd.1 hd.2
    clear hd
    go_wp2
    go_round
    case rel =>
     refine ⟨k + 1, by omega, by go_num, fun j h hj => ?_⟩
     rcases (by omega : j < k \/ j = k) with h | rfl
     ·exact HA.out j _ h
     ·exact HD.out
    case measure => simp [intOf]; omega
   ·have HF := vv (digsB_false hks hd)
    have d := u8_other (UInt8.toNat_lt _) hd
    clear hd
    go_wp2
    go_ret
    exact ⟨retB HF.out.symm, rfl⟩
  ·have hks' : k = s.size := by omega
   subst hks'
   have HT : Hid (digsB s = true) := vv (digsB_true.2 (fun j h => HA.out j h h))
   clear hk hks
   go_wp2
   go_ret
   exact ⟨retB HT.out.symm, rfl⟩
def farB (x : Int) : Bool := decide (x < -1073741824) || decide (1073741824 < x)
theorem far (x : Int) (w : World) :
  Calls Tryz.prog 54 #[.int .i64 x] w fun e w' => e = .returned (.bool (farB x)) /\ w = w' := by
 by_cases h1 : x < -1073741824
 ·have HF : Hid (farB x = true) := vv (by unfold farB; rw [decide_eq_true h1]; rfl)
  have d1 : decide (x < -1073741824) = true := decide_eq_true h1
  clear h1
  go_enter Tryz.func54, Tryz.ntmps54
  go_wp2
  go_ret
  exact ⟨retB HF.out.symm, rfl⟩
 ·have HF : Hid (farB x = decide (1073741824 < x)) := vv (by unfold farB; rw [decide_eq_false h1]; rfl)
  have d1 : decide (x < -1073741824) = false := decide_eq_false h1
  clear h1
  go_enter Tryz.func54, Tryz.ntmps54
  go_wp2
  go_ret
  exact ⟨retB HF.out.symm, rfl⟩
def decErr (s : ByteArray) (x : Int) : Int := if 65536 < s.size then 4 else if decMay s x then 0 else 100
theorem decErr_zero (s : ByteArray) (x : Int) : (decErr s x == 0) = decMay s x := by
 unfold decErr
 by_cases h : 65536 < s.size
 ·rw [if_pos h]
  unfold decMay
  rw [decide_eq_false (p := s.size <= 65536) (by omega)]; simp
 ·rw [if_neg h]
  cases decMay s x <;> rfl
theorem decErr_no {s : ByteArray} {x : Int} (h : s.size <= 65536) (hd : decMay s x = false) : decErr s x = 100 := by
 unfold decErr; rw [if_neg (by omega), hd]; rfl
theorem decErr_yes {s : ByteArray} {x : Int} (h : s.size <= 65536) (hd : decMay s x = true) : decErr s x = 0 := by
 unfold decErr; rw [if_neg (by omega), hd]; rfl
theorem decMay_far {s : ByteArray} {x : Int} (h : s.size <= 65536) (h0 : 0 < s.size) : decMay s x = (digsB s && !decide (byteAt s 0 = 48) && !decide (byteAt s (s.size - 1) = 48) && !farB x) := by
 unfold decMay farB
 rw [decide_eq_true h, if_neg (by omega)]
 by_cases h1 : x < -1073741824
 ·rw [decide_eq_true h1, decide_eq_false (p := -1073741824 <= x) (by omega)]; simp
 ·rw [decide_eq_false h1, decide_eq_true (p := -1073741824 <= x) (by omega)]
  by_cases h2 : 1073741824 < x
  ·rw [decide_eq_true h2, decide_eq_false (p := x <= 1073741824) (by omega)]; simp
  ·rw [decide_eq_false h2, decide_eq_true (p := x <= 1073741824) (by omega)]; simp
theorem Check_many (neg : Bool) (s : ByteArray) (x : Int) (w : World) (h : 65536 < s.size) (hmax : (s.size : Int) <= 4611686018427387904) :
  Calls Tryz.prog 20 #[decV neg s x] w fun e w' => e = .returned (.int .i64 (decErr s x)) /\ Below w.heap.size w w' := by
 have HV : Hid (decErr s x = 4) := vv (by unfold decErr; rw [if_pos h])
 have d1 : decide ((65536 : Int) < (s.size : Int)) = true := decide_eq_true (by omega)
 clear h
 go_enter Tryz.func20, Tryz.ntmps20
 go_wp2
 go_ret
 exact ⟨retI HV.out.symm, (Below.refl _ _).alloc (Nat.le_refl _) _⟩
theorem Check_none (neg : Bool) (x : Int) (w : World) :
  Calls Tryz.prog 20 #[decV neg ⟨#[]⟩ x] w fun e w' => e = .returned (.int .i64 (decErr ⟨#[]⟩ x)) /\ Below w.heap.size w w' := by
 have hV : decMay ⟨#[]⟩ x = (x == 0) := by
  unfold decMay
  by_cases h : x = 0
  ·subst h; rfl
  ·have e : (x == 0) = false := by rw [beq_eq_false_iff_ne]; exact h
   rw [e, if_pos (by rfl), decide_eq_false h]; simp
 cases t : (x == 0)
 ·rw [t] at hV
  have HV := vv (decErr_no (s := ⟨#[]⟩) (x := x) (by decide) hV)
  clear hV
  go_enter Tryz.func20, Tryz.ntmps20
  go_wp2
  go_ret
  exact ⟨retI HV.out.symm, (Below.refl _ _).alloc (Nat.le_refl _) _⟩
 ·rw [t] at hV
  have HV := vv (decErr_yes (s := ⟨#[]⟩) (x := x) (by decide) hV)
  clear hV
  go_enter Tryz.func20, Tryz.ntmps20
  go_wp2
  go_ret
  exact ⟨retI HV.out.symm, (Below.refl _ _).alloc (Nat.le_refl _) _⟩
set_option maxHeartbeats 1000000 in
theorem Check_some (neg : Bool) (s : ByteArray) (x : Int) (w : World) (h : s.size <= 65536) (h0 : 0 < s.size) :
  Calls Tryz.prog 20 #[decV neg s x] w fun e w' => e = .returned (.int .i64 (decErr s x)) /\ Below w.heap.size w w' := by
 have hV := decMay_far (x := x) h h0
 have d1 : decide ((65536 : Int) < (s.size : Int)) = false := decide_eq_false (by omega)
 have d2 : ((s.size : Int) == 0) = false := by rw [beq_eq_false_iff_ne]; omega
 have hszi : (s.size : Int) <= 65536 := by omega
 have HDg := vv fun w => digits s w h
 have HNo := vv fun (hd : decMay s x = false) => decErr_no h hd
 have HYes := vv fun (hd : decMay s x = true) => decErr_yes h hd
 have hB0 := (Below.refl w.heap.size w).alloc (o := .cells #[.bool neg, .string s, .int .i64 x] 25) (Nat.le_refl _)
 have hD1 := DecBox.made w neg s x 25
 obtain ⟨w0, hw0⟩ := yx (w.alloc (.cells #[.bool neg, .string s, .int .i64 x] 25))
 rw [<- hw0] at hB0 hD1
 have HB := vv hB0
 have HW0 := vv hw0
 have k1 := hD1.c1
 have k2 := hD1.c2
 have kl := hD1.lt
 have hl1 : s.size - 1 < s.size := by omega
 rw [byteAt_eq h0, byteAt_eq hl1] at hV
 have HV := vv hV
 clear hw0 hB0 hD1 h hV
 cases hdg : digsB s
 ·rw [hdg] at HDg
  have HE := vv (HNo.out (by rw [HV.out, hdg]; rfl))
  clear hdg
  go_enter Tryz.func20, Tryz.ntmps20
  go_wp2_with fail
  rw [<- HW0.out]
  go_wp2_with fail
  refine (HDg.out _).mono ?_
  rintro e w' ⟨rfl, rfl⟩
  go_wp2
  go_ret
  exact ⟨retI HE.out.symm, HB.out⟩
 rw [hdg] at HDg
 by_cases e0 : s[0].toNat = 48
 ·have HE := vv (HNo.out (by rw [HV.out, decide_eq_true e0]; simp))
  clear hdg
  go_enter Tryz.func20, Tryz.ntmps20
  go_wp2_with fail
  rw [<- HW0.out]
  go_wp2_with fail
  refine (HDg.out _).mono ?_
  rintro e w' ⟨rfl, rfl⟩
  go_wp2
  go_ret
  exact ⟨retI HE.out.symm, HB.out⟩
 have t0 : ((s[0].toNat : Int) == 48) = false := by rw [beq_eq_false_iff_ne]; omega
 by_cases e1 : s[s.size - 1].toNat = 48
 ·have HE := vv (HNo.out (by rw [HV.out, decide_eq_true e1]; simp))
  have t1 : ((s[s.size - 1].toNat : Int) == 48) = true := by rw [e1]; rfl
  clear hdg e0 e1
  go_enter Tryz.func20, Tryz.ntmps20
  go_wp2_with fail
  rw [<- HW0.out]
  go_wp2_with fail
  refine (HDg.out _).mono ?_
  rintro e w' ⟨rfl, rfl⟩
  go_wp2
  go_ret
  exact ⟨retI HE.out.symm, HB.out⟩
 have t1 : ((s[s.size - 1].toNat : Int) == 48) = false := by rw [beq_eq_false_iff_ne]; omega
 have HFr := vv fun w => far x w
 cases hf : farB x
 ·rw [hf] at HFr
  have HE := vv (HYes.out (by rw [HV.out, hdg, hf, decide_eq_false e0, decide_eq_false e1]; rfl))
  clear hdg hf e0 e1
  go_enter Tryz.func20, Tryz.ntmps20
  go_wp2_with fail
  rw [<- HW0.out]
  go_wp2_with fail
  refine (HDg.out _).mono ?_
  rintro e w' ⟨rfl, rfl⟩
  go_wp2_with fail
  refine (HFr.out _).mono ?_
  rintro e w' ⟨rfl, rfl⟩
  go_wp2
  go_ret
  exact ⟨retI HE.out.symm, HB.out⟩
 ·rw [hf] at HFr
  have HE := vv (HNo.out (by rw [HV.out, hf]; simp))
  clear hdg hf e0 e1
  go_enter Tryz.func20, Tryz.ntmps20
  go_wp2_with fail
  rw [<- HW0.out]
  go_wp2_with fail
  refine (HDg.out _).mono ?_
  rintro e w' ⟨rfl, rfl⟩
  go_wp2_with fail
  refine (HFr.out _).mono ?_
  rintro e w' ⟨rfl, rfl⟩
  go_wp2
  go_ret
  exact ⟨retI HE.out.symm, HB.out⟩
theorem Check (neg : Bool) (s : ByteArray) (x : Int) (w : World) (hmax : (s.size : Int) <= 4611686018427387904) :
  Calls Tryz.prog 20 #[decV neg s x] w fun e w' => e = .returned (.int .i64 (decErr s x)) /\ Below w.heap.size w w' := by
 by_cases h : s.size <= 65536
 ·by_cases h0 : 0 < s.size
  ·exact Check_some neg s x w h h0
  ·have e : s = ⟨#[]⟩ := R16.bytes_none (by omega)
   rw [e]; exact Check_none neg x w
 ·exact Check_many neg s x w (by omega) hmax
end Go.Proofs.YtbfmpcfcmbjeeaaGreatDoor.Dec
namespace Go.Proofs.YtbfmpcfcmbjeeaaGreatDoor.Nat_
open Go Go.RowKit R5
def natErr (n : Nat) (xs : List Nat) : Int := if 16384 < n then 4 else if natOk n xs then 0 else 10
theorem natErr_ok {n : Nat} {xs : List Nat} (h : natOk n xs = true) : natErr n xs = 0 := by
 unfold natErr
 have := (R16.natOk_facts h).1
 rw [if_neg (by omega), h]; rfl
theorem natErr_zero (n : Nat) (xs : List Nat) : (natErr n xs == 0) = natOk n xs := by
 unfold natErr
 by_cases h : 16384 < n
 ·rw [if_pos h]
  unfold natOk
  rw [decide_eq_false (p := n <= 16384) (by omega)]; rfl
 ·rw [if_neg h]
  cases natOk n xs <;> rfl
theorem Check (A : Option Addr) (n c : Nat) (xs : List Nat) (w : World) (hr : Rd w A n c xs) :
  Calls Tryz.prog 55 #[natV A n c] w fun e w' => e = .returned (.int .i64 (natErr n xs)) /\ Below w.heap.size w w' := by
 have hsm := hr.sm
 by_cases h : 16384 < n
 ·have HV : Hid (natErr n xs = 4) := vv (by unfold natErr; rw [if_pos h])
  have d1 : decide ((16384 : Int) < (n : Int)) = true := decide_eq_true (by omega)
  clear h hr
  go_enter Tryz.func55, Tryz.ntmps55
  go_wp2
  go_ret
  exact ⟨retI HV.out.symm, (Below.refl _ _).alloc (Nat.le_refl _) _⟩
 have d1 : decide ((16384 : Int) < (n : Int)) = false := decide_eq_false (by omega)
 have hni : (n : Int) <= 16384 := by omega
 rcases Nat.eq_zero_or_pos n with h0 | h0
 ·subst h0
  have HV : Hid (natErr 0 xs = 0) := vv rfl
  clear h hr
  go_enter Tryz.func55, Tryz.ntmps55
  go_wp2
  go_ret
  exact ⟨retI HV.out.symm, (Below.refl _ _).alloc (Nat.le_refl _) _⟩
 obtain ⟨m, rfl⟩ : ∃ m, n = m + 1 := ⟨n - 1, by omega⟩
 obtain ⟨b, off, rfl, hbl, hcell⟩ := hr.cell h0
 have hx := hcell m (by omega)
 have hmi : (m : Int) + 1 <= 16384 := by omega
 have d3 : ((m : Int) + 1 == 0) = false := by rw [beq_eq_false_iff_ne]; omega
 have HE : Hid (natErr (m + 1) xs = if nth xs m = 0 then 10 else 0) := vv (by
  unfold natErr
  rw [if_neg h]
  unfold natOk
  rw [decide_eq_true (p := m + 1 <= 16384) (by omega), decide_eq_false (p := m + 1 = 0) (by omega), Nat.add_sub_cancel]
  by_cases hz : nth xs m = 0
  ·rw [if_pos hz, decide_eq_false (p := nth xs m ≠ 0) (by omega)]; rfl
  ·rw [if_neg hz, decide_eq_true (p := nth xs m ≠ 0) hz]; rfl)
 have d4 : decide ((16384 : Int) < (m : Int) + 1) = false := decide_eq_false (by omega)
 have d5 : decide ((0 : Int) < (m : Int) + 1) = true := decide_eq_true (by omega)
 clear h hcell hr h0 hni d1 hsm
 by_cases hz : nth xs m = 0
 ·have HF : Hid (natErr (m + 1) xs = 10) := vv (by rw [HE.out, if_pos hz])
  have t1 : (((nth xs m : Nat) : Int) == 0) = true := by rw [hz]; rfl
  clear hz
  go_enter Tryz.func55, Tryz.ntmps55
  go_wp2
  go_ret
  exact ⟨retI HF.out.symm, (Below.refl _ _).alloc (Nat.le_refl _) _⟩
 ·have HF : Hid (natErr (m + 1) xs = 0) := vv (by rw [HE.out, if_neg hz])
  have t1 : (((nth xs m : Nat) : Int) == 0) = false := by rw [beq_eq_false_iff_ne]; omega
  clear hz
  go_enter Tryz.func55, Tryz.ntmps55
  go_wp2
  go_ret
  exact ⟨retI HF.out.symm, (Below.refl _ _).alloc (Nat.le_refl _) _⟩
end Go.Proofs.YtbfmpcfcmbjeeaaGreatDoor.Nat_
namespace Go.Proofs.YtbfmpcfcmbjeeaaGreatDoor.Exa
open Go Go.RowKit R5
theorem none_ (A : Option Addr) (n c : Nat) (w : World) :
  Calls Tryz.prog 56 #[natV A n c] w fun e w' => e = .returned (.bool ((n : Int) == 0)) /\ Below w.heap.size w w' := by
 go_enter Tryz.func56, Tryz.ntmps56
 go_wp2
 go_ret
 exact ⟨rfl, (Below.refl _ _).alloc (Nat.le_refl _) _⟩
theorem far (x : Int) (w : World) :
  Calls Tryz.prog 57 #[.int .i64 x] w fun e w' => e = .returned (.bool (Dec.farB x)) /\ w = w' := by
 by_cases h1 : x < -1073741824
 ·have HF : Hid (Dec.farB x = true) := vv (by unfold Dec.farB; rw [decide_eq_true h1]; rfl)
  have d1 : decide (x < -1073741824) = true := decide_eq_true h1
  clear h1
  go_enter Tryz.func57, Tryz.ntmps57
  go_wp2
  go_ret
  exact ⟨retB HF.out.symm, rfl⟩
 ·have HF : Hid (Dec.farB x = decide (1073741824 < x)) := vv (by unfold Dec.farB; rw [decide_eq_false h1]; rfl)
  have d1 : decide (x < -1073741824) = false := decide_eq_false h1
  clear h1
  go_enter Tryz.func57, Tryz.ntmps57
  go_wp2
  go_ret
  exact ⟨retB HF.out.symm, rfl⟩
def exaErr (neg : Bool) (n : Nat) (xs : List Nat) (x : Int) : Int :=
 if natOk n xs = false then Nat_.natErr n xs else if twoOk neg n xs x then 0 else 40
theorem exaErr_zero (neg : Bool) (n : Nat) (xs : List Nat) (x : Int) : (exaErr neg n xs x == 0) = twoOk neg n xs x := by
 unfold exaErr
 cases h : natOk n xs
 ·rw [if_pos rfl, Nat_.natErr_zero, h]
  unfold twoOk; rw [h]; rfl
 ·rw [if_neg (by decide)]
  cases twoOk neg n xs x <;> rfl
theorem none_0 (A : Option Addr) (c : Nat) (w : World) :
  Calls Tryz.prog 56 #[natV A 0 c] w fun e w' => e = .returned (.bool true) /\ Below w.heap.size w w' := none_ A 0 c w
theorem none_pos (A : Option Addr) (n c : Nat) (w : World) (h : 0 < n) :
  Calls Tryz.prog 56 #[natV A n c] w fun e w' => e = .returned (.bool false) /\ Below w.heap.size w w' := by
 have e : ((n : Int) == 0) = false := by rw [beq_eq_false_iff_ne]; omega
 have := none_ A n c w
 rw [e] at this
 exact this
set_option maxHeartbeats 4000000 in
theorem Check (neg : Bool) (A : Option Addr) (n c : Nat) (xs : List Nat) (x : Int) (w : World) (hr : Rd w A n c xs) :
  Calls Tryz.prog 21 #[dyadV neg A n c x] w fun e w' => e = .returned (.int .i64 (exaErr neg n xs x)) /\ Below w.heap.size w w' := by
 have HCk := vv fun w' (h : Below w.heap.size w w') => Nat_.Check A n c xs w' (hr.below h rfl)
 obtain ⟨w0, hw0⟩ := yx (w.alloc (.cells #[.bool neg, .slice A n c, .int .i64 x] 30))
 have hB0 : Below w.heap.size w w0 := by rw [hw0]; exact (Below.refl _ w).alloc (Nat.le_refl _) _
 have hX0 : DyadBox w0 w.heap.size neg A n c x := by rw [hw0]; exact DyadBox.made w _ _ _ _ _ _
 have HX := vv hX0
 have HB := vv hB0
 have HW0 := vv hw0
 have x1 := hX0.c1
 have xl := hX0.lt
 clear hw0 hB0 hX0
 cases hok : natOk n xs
 ·have HE : Hid (exaErr neg n xs x = Nat_.natErr n xs) := vv (by unfold exaErr; rw [if_pos hok])
  obtain ⟨v, hv⟩ := yx (Nat_.natErr n xs)
  have hne : (v != 0) = true := by
   have := Nat_.natErr_zero n xs
   rw [<- hv, hok] at this
   rw [bne, this]; rfl
  rw [<- hv] at HCk HE
  clear hv hok
  go_enter Tryz.func21, Tryz.ntmps21
  go_wp2_with fail
  rw [<- HW0.out]
  refine (HCk.out _ HB.out).mono ?_
  rintro e w1 ⟨rfl, hB1⟩
  have HB := vn HB hB1
  clear hB1
  go_wp2
  go_ret
  exact ⟨retI HE.out.symm, HB.out⟩
 have HE : Hid (exaErr neg n xs x = if twoOk neg n xs x then 0 else 40) := vv (by unfold exaErr; rw [if_neg (by rw [hok]; decide)])
 have hTw : twoOk neg n xs x = (decide (x <= 1073741824) && decide (-1073741824 <= x) && (if n = 0 then decide (x = 0) && !neg else decide (nth xs 0 % 2 = 1))) := by unfold twoOk; rw [hok]; rfl
 have HTw := vv hTw
 rw [Nat_.natErr_ok hok] at HCk
 have hn16 := (R16.natOk_facts hok).1
 have hni : (n : Int) <= 16384 := by omega
 clear hTw hn16 hok
 rcases Nat.eq_zero_or_pos n with h0 | h0
 ·subst h0
  have HNo := vv fun w => none_0 A c w
  cases neg
  ·cases tx : (x == 0)
   ·have HF : Hid (exaErr false 0 xs x = 40) := vv (by
     have hx : x ≠ 0 := by rw [beq_eq_false_iff_ne] at tx; exact tx
     rw [HE.out, HTw.out, if_pos rfl, decide_eq_false hx]; simp)
    have tx2 : (x != 0) = true := by rw [bne, tx]; rfl
    clear HE HTw
    go_enter Tryz.func21, Tryz.ntmps21
    go_wp2_with fail
    rw [<- HW0.out]
    refine (HCk.out _ HB.out).mono ?_
    rintro e w1 ⟨rfl, hB1⟩
    have HX := vv (HX.out.below hB1)
    have HB := vn HB hB1
    obtain ⟨x0, x1, x2, xl⟩ := HX.out
    clear hB1
    go_wp2_with fail
    refine (HNo.out _).mono ?_
    rintro e w2 ⟨rfl, hB2⟩
    have HX := vv (HX.out.below hB2)
    have HB := vn HB hB2
    obtain ⟨x0, x1, x2, xl⟩ := HX.out
    clear hB2
    go_wp2
    go_ret
    exact ⟨retI HF.out.symm, HB.out⟩
   ·have hx : x = 0 := by rw [beq_iff_eq] at tx; exact tx
    subst hx
    have HF : Hid (exaErr false 0 xs 0 = 0) := vv (by
     rw [HE.out, HTw.out, if_pos rfl]; rfl)
    clear HE HTw
    go_enter Tryz.func21, Tryz.ntmps21
    go_wp2_with fail
    rw [<- HW0.out]
    refine (HCk.out _ HB.out).mono ?_
    rintro e w1 ⟨rfl, hB1⟩
    have HX := vv (HX.out.below hB1)
    have HB := vn HB hB1
    obtain ⟨x0, x1, x2, xl⟩ := HX.out
    clear hB1
    go_wp2_with fail
    refine (HNo.out _).mono ?_
    rintro e w2 ⟨rfl, hB2⟩
    have HX := vv (HX.out.below hB2)
    have HB := vn HB hB2
    obtain ⟨x0, x1, x2, xl⟩ := HX.out
    clear hB2
    go_wp2_with fail
    refine (HNo.out _).mono ?_
    rintro e w3 ⟨rfl, hB3⟩
    have HX := vv (HX.out.below hB3)
    have HB := vn HB hB3
    obtain ⟨x0, x1, x2, xl⟩ := HX.out
    clear hB3
    go_wp2
    go_ret
    exact ⟨retI HF.out.symm, HB.out⟩
  ·have HF : Hid (exaErr true 0 xs x = 40) := vv (by
    rw [HE.out, HTw.out, if_pos rfl]; simp)
   clear HE HTw
   go_enter Tryz.func21, Tryz.ntmps21
   go_wp2_with fail
   rw [<- HW0.out]
   refine (HCk.out _ HB.out).mono ?_
   rintro e w1 ⟨rfl, hB1⟩
   have HX := vv (HX.out.below hB1)
   have HB := vn HB hB1
   obtain ⟨x0, x1, x2, xl⟩ := HX.out
   clear hB1
   go_wp2_with fail
   refine (HNo.out _).mono ?_
   rintro e w2 ⟨rfl, hB2⟩
   have HX := vv (HX.out.below hB2)
   have HB := vn HB hB2
   obtain ⟨x0, x1, x2, xl⟩ := HX.out
   clear hB2
   go_wp2
   go_ret
   exact ⟨retI HF.out.symm, HB.out⟩
 have HNo := vv fun w => none_pos A n c w h0
 obtain ⟨b, off, rfl, hbl, hcell⟩ := hr.cell h0
 have hx0 := hcell 0 h0
 rw [Nat.add_zero] at hx0
 have HX0 := vv hx0
 have hvl := hr.nth_lt 0
 have HBl := vv hbl
 have HTw2 : Hid (twoOk neg n xs x = (decide (nth xs 0 % 2 = 1) && !Dec.farB x)) := vv (by
  rw [HTw.out, if_neg (by omega)]
  unfold Dec.farB
  by_cases q1 : x < -1073741824
  ·rw [decide_eq_true q1, decide_eq_false (p := -1073741824 <= x) (by omega)]; simp
  ·rw [decide_eq_false q1, decide_eq_true (p := -1073741824 <= x) (by omega)]
   by_cases q2 : 1073741824 < x
   ·rw [decide_eq_true q2, decide_eq_false (p := x <= 1073741824) (by omega)]; simp
   ·rw [decide_eq_false q2, decide_eq_true (p := x <= 1073741824) (by omega)]; simp)
 have d0 : decide ((0 : Int) < (n : Int)) = true := decide_eq_true (by omega)
 clear HTw hcell hr h0 hbl hx0
 have HFr := vv fun w => far x w
 obtain ⟨v, hv⟩ := yx (nth xs 0)
 rw [<- hv] at HX0 HTw2 hvl
 have HBt : Hid (bits .and .u32 (v : Int) 1 = ((v % 2 : Nat) : Int)) := vv (by
  have := u32_and_nat v 1 hvl (by omega)
  rw [Nat.and_one_is_mod] at this
  exact this)
 have hd0 : (0 : Int) < (n : Int) := by simpa using d0
 clear hv
 by_cases hp : v % 2 = 0
 ·have HF : Hid (exaErr neg n xs x = 40) := vv (by rw [HE.out, HTw2.out, decide_eq_false (p := v % 2 = 1) (by omega)]; rfl)
  have t1 : (bits .and .u32 (v : Int) 1 == 0) = true := by rw [HBt.out, hp]; rfl
  have t2 : ((v : Int) % 2 == 0) = true := by rw [beq_iff_eq]; omega
  clear hp HE HTw2 hvl
  go_enter Tryz.func21, Tryz.ntmps21
  go_wp2_with fail
  rw [<- HW0.out]
  refine (HCk.out _ HB.out).mono ?_
  rintro e w1 ⟨rfl, hB1⟩
  have HX := vv (HX.out.below hB1)
  have HB := vn HB hB1
  obtain ⟨x0, x1, x2, xl⟩ := HX.out
  clear hB1
  go_wp2_with fail
  refine (HNo.out _).mono ?_
  rintro e w2 ⟨rfl, hB2⟩
  have HX := vv (HX.out.below hB2)
  have HB := vn HB hB2
  obtain ⟨x0, x1, x2, xl⟩ := HX.out
  clear hB2
  go_wp2_with fail
  refine (HNo.out _).mono ?_
  rintro e w3 ⟨rfl, hB3⟩
  have HX := vv (HX.out.below hB3)
  have HB := vn HB hB3
  obtain ⟨x0, x1, x2, xl⟩ := HX.out
  clear hB3
  have hv := (HB.out.cell (p := ⟨b, off, none⟩) HBl.out).trans HX0.out
  go_wp2
  go_ret
  exact ⟨retI HF.out.symm, HB.out⟩
 have t1 : (bits .and .u32 (v : Int) 1 == 0) = false := by rw [HBt.out, beq_eq_false_iff_ne]; omega
 have t2 : ((v : Int) % 2 == 0) = false := by rw [beq_eq_false_iff_ne]; omega
 cases hf : Dec.farB x
 ·rw [hf] at HFr
  have HF : Hid (exaErr neg n xs x = 0) := vv (by rw [HE.out, HTw2.out, hf, decide_eq_true (p := v % 2 = 1) (by omega)]; rfl)
  clear hp HE HTw2 hvl hf
  go_enter Tryz.func21, Tryz.ntmps21
  go_wp2_with fail
  rw [<- HW0.out]
  refine (HCk.out _ HB.out).mono ?_
  rintro e w1 ⟨rfl, hB1⟩
  have HX := vv (HX.out.below hB1)
  have HB := vn HB hB1
  obtain ⟨x0, x1, x2, xl⟩ := HX.out
  clear hB1
  go_wp2_with fail
  refine (HNo.out _).mono ?_
  rintro e w2 ⟨rfl, hB2⟩
  have HX := vv (HX.out.below hB2)
  have HB := vn HB hB2
  obtain ⟨x0, x1, x2, xl⟩ := HX.out
  clear hB2
  go_wp2_with fail
  refine (HNo.out _).mono ?_
  rintro e w3 ⟨rfl, hB3⟩
  have HX := vv (HX.out.below hB3)
  have HB := vn HB hB3
  obtain ⟨x0, x1, x2, xl⟩ := HX.out
  clear hB3
  have hv := (HB.out.cell (p := ⟨b, off, none⟩) HBl.out).trans HX0.out
  go_wp2_with fail
  refine (HFr.out _).mono ?_
  rintro e w' ⟨rfl, rfl⟩
  go_wp2
  go_ret
  exact ⟨retI HF.out.symm, HB.out⟩
 ·rw [hf] at HFr
  have HF : Hid (exaErr neg n xs x = 40) := vv (by rw [HE.out, HTw2.out, hf, decide_eq_true (p := v % 2 = 1) (by omega)]; rfl)
  clear hp HE HTw2 hvl hf
  go_enter Tryz.func21, Tryz.ntmps21
  go_wp2_with fail
  rw [<- HW0.out]
  refine (HCk.out _ HB.out).mono ?_
  rintro e w1 ⟨rfl, hB1⟩
  have HX := vv (HX.out.below hB1)
  have HB := vn HB hB1
  obtain ⟨x0, x1, x2, xl⟩ := HX.out
  clear hB1
  go_wp2_with fail
  refine (HNo.out _).mono ?_
  rintro e w2 ⟨rfl, hB2⟩
  have HX := vv (HX.out.below hB2)
  have HB := vn HB hB2
  obtain ⟨x0, x1, x2, xl⟩ := HX.out
  clear hB2
  go_wp2_with fail
  refine (HNo.out _).mono ?_
  rintro e w3 ⟨rfl, hB3⟩
  have HX := vv (HX.out.below hB3)
  have HB := vn HB hB3
  obtain ⟨x0, x1, x2, xl⟩ := HX.out
  clear hB3
  have hv := (HB.out.cell (p := ⟨b, off, none⟩) HBl.out).trans HX0.out
  go_wp2_with fail
  refine (HFr.out _).mono ?_
  rintro e w' ⟨rfl, rfl⟩
  go_wp2
  go_ret
  exact ⟨retI HF.out.symm, HB.out⟩
end Go.Proofs.YtbfmpcfcmbjeeaaGreatDoor.Exa
namespace Go.Proofs.YtbfmpcfcmbjeeaaGreatDoor.Nat_
open Go Go.RowKit R5
theorem Rd.cap {w : World} {A : Option Addr} {n c : Nat} {xs : List Nat} (h : Rd w A n c xs) : Rd w A n n xs := ⟨h.len, Nat.le_refl _, h.sm, h.lim, h.cell⟩
set_option maxHeartbeats 1000000 in
theorem trimmed (A : Option Addr) (n c : Nat) (xs : List Nat) (w : World) (hr : Rd w A n c xs) :
  Calls Tryz.prog 58 #[.slice A n c] w fun e w' => ∃ A' m, e = .returned (natV A' m m) /\ Rd w' A' m m (toL (val xs)) /\ (∀ a, A' = some a -> A = some a) /\ Below w.heap.size w w' := by
 have hsm := hr.sm
 have hlen := hr.len
 have hle := hr.le
 have hB0 := (Below.refl w.heap.size w).alloc (o := .cells #[.slice none 0 0] 28) (Nat.le_refl _)
 have hN0 := NatCell.made w 28
 obtain ⟨w0, hw0⟩ := yx (w.alloc (.cells #[.slice none 0 0] 28))
 rw [<- hw0] at hB0 hN0
 have hr0 := hr.below hB0 rfl
 have HW0 := vv hw0
 have HB := vv hB0
 have HR0 := vv hr0
 have HRw := vv hr
 have c0 := hN0.c0
 have fz := hN0.fz
 have nl := hN0.lt
 clear hw0 hN0
 go_enter Tryz.func58, Tryz.ntmps58
 go_wp2_with fail
 rw [<- HW0.out]
 go_loop [3] (fun t => ∃ k : Nat, k <= n /\ t = .int .i64 k /\ ∀ i, k <= i -> nth xs i = 0) (fun t => (intOf t).toNat)
 case atStart => exact ⟨n, Nat.le_refl _, rfl, fun i hi => nth_ge xs i (by omega)⟩
 case round =>
  obtain ⟨k, hk, rfl, hz⟩ := hrel
  have fin : ∀ m, m <= n -> (∀ i, m <= i -> nth xs i = 0) -> (m = 0 \/ nth xs (m - 1) ≠ 0) -> Rd w0 A m c (toL (val xs)) := by
   intro m hm h0 h1
   have e := toL_val_take hr.lim (n := m) h0 (h1.imp id fun h => ⟨by omega, h⟩)
   rw [<- e]
   exact hr0.take hm
  have Fin := vv fin
  clear fin
  rcases Nat.eq_zero_or_pos k with rfl | hpos
  ·have HFn := vv (Fin.out 0 (Nat.zero_le _) hz (.inl rfl))
   have HBel := vv (HB.out.setCell (p := ⟨w.heap.size, 0, none⟩) (Nat.le_refl _) (.slice none 0 0))
   have hcell : (w0.setCell ⟨w.heap.size, 0, none⟩ (.slice none 0 0)).cell? ⟨w.heap.size, 0, none⟩ = some (.slice none 0 0) := cell_eq c0
   clear hz hr0 hr hB0
   go_wp2
   refine bodyPost_ret (v := natV none 0 0) (by simp [results, Tryz.results58, go_sem, hcell]) rfl ⟨none, 0, rfl, ?_, fun a h => (by cases h), HBel.out⟩
   have e : toL (val xs) = [] := List.eq_nil_of_length_eq_zero HFn.out.len
   rw [e]; exact Rd.nil _
  ·obtain ⟨m, rfl⟩ : ∃ m, k = m + 1 := ⟨k - 1, by omega⟩
   have HC0 := HRw.out
   obtain ⟨b, off, rfl, hb, hcell⟩ := hr0.cell (by omega)
   have hx := hcell m (by omega)
   clear hcell
   by_cases h0 : nth xs m = 0
   ·have h1 : (((nth xs m : Nat) : Int) == 0) = true := by rw [h0]; rfl
    have H0 := vv h0
    clear h0 hr0 hr hB0
    go_wp2
    go_round
    case rel => exact ⟨m, by omega, by go_num, fun i hi => by
     rcases Nat.eq_or_lt_of_le hi with rfl | h
     ·exact H0.out
     ·exact hz i (by omega)⟩
    case measure => simp [intOf]
   ·have h1 : (((nth xs m : Nat) : Int) == 0) = false := by rw [beq_eq_false_iff_ne]; omega
    have HFn := vv (Rd.cap (Fin.out (m + 1) (by omega) hz (.inr h0)))
    have hbw : b < w.heap.size := by
     obtain ⟨b', off', e, h, _⟩ := HRw.out.cell (by omega)
     cases e; exact h
    have HBel := vv (HB.out.setCell (p := ⟨w.heap.size, 0, none⟩) (Nat.le_refl _) (.slice (some ⟨b, off, none⟩) (m + 1) (m + 1)))
    have hcell : (w0.setCell ⟨w.heap.size, 0, none⟩ (.slice (some ⟨b, off, none⟩) (m + 1) (m + 1))).cell? ⟨w.heap.size, 0, none⟩ = some (.slice (some ⟨b, off, none⟩) (m + 1) (m + 1)) := cell_eq c0
    have HFin : Hid (Rd (w0.setCell ⟨w.heap.size, 0, none⟩ (.slice (some ⟨b, off, none⟩) (m + 1) (m + 1))) (some ⟨b, off, none⟩) (m + 1) (m + 1) (toL (val xs))) := vv (HFn.out.other _ _ _ (fun a e => by cases e; show b ≠ w.heap.size; omega))
    clear h0 hz hr0 hr hB0 HC0
    go_wp2
    exact bodyPost_ret (v := natV (some ⟨b, off, none⟩) (m + 1) (m + 1)) (by simp [results, Tryz.results58, go_sem, hcell]) rfl ⟨some ⟨b, off, none⟩, m + 1, rfl, HFin.out, fun a h => by simpa using h, HBel.out⟩
theorem Of1 (w : World) :
  Calls Tryz.prog 22 #[.int .u64 1] w fun e w' => ∃ A, e = .returned (natV A 1 1) /\ Rd w' A 1 1 (toL 1) /\ Below w.heap.size w w' := by
 go_enter Tryz.func22, Tryz.ntmps22
 go_wp2_with fail
 obtain ⟨o1, o2⟩ := R1.two_words (w.alloc (.cells #[.slice none 0 0] 28)) 1 0 (by omega) (by omega) 34
 have hN := (NatCell.made w 28).below o2
 have hB := (Below.refl w.heap.size w).alloc (o := .cells #[.slice none 0 0] 28) (Nat.le_refl _)
 have HN := vv hN
 have HB := vv (hB.trans (o2.mono (by simp)))
 have hs : (w.alloc (.cells #[.slice none 0 0] 28)).heap.size = w.heap.size + 1 := by simp
 rw [hs] at o1
 clear o2 hN hB hs
 refine (trimmed (some ⟨w.heap.size + 1, 0, none⟩) 2 2 [1, 0] _ o1).mono ?_
 rintro e w1 ⟨A', m, rfl, hR, hA, hB1⟩
 have hm : m = 1 := hR.words.symm
 subst hm
 have HR1 : Hid (Rd w1 A' 1 1 (toL 1)) := vv hR
 have HN1 := vv (HN.out.below hB1)
 have HB1 := vn HB hB1
 have c0 := HN1.out.c0
 have fz := HN1.out.fz
 have lt := HN1.out.lt
 have HFin : Hid (Rd (w1.setCell ⟨w.heap.size, 0, none⟩ (.slice A' 1 1)) A' 1 1 (toL 1)) := vv (HR1.out.other _ _ _ (fun a e => by have := hA a e; cases this; simp))
 have HBel : Hid (Below w.heap.size w (w1.setCell ⟨w.heap.size, 0, none⟩ (.slice A' 1 1))) := vv (HB1.out.setCell (Nat.le_refl _) _)
 have hcell : (w1.setCell ⟨w.heap.size, 0, none⟩ (.slice A' 1 1)).cell? ⟨w.heap.size, 0, none⟩ = some (.slice A' 1 1) := cell_eq c0
 clear hB1 hR hA o1
 go_wp2
 exact bodyPost_ret (v := natV A' 1 1) (by simp [results, Tryz.results22, go_sem, hcell]) rfl ⟨A', rfl, HFin.out, HBel.out⟩
end Go.Proofs.YtbfmpcfcmbjeeaaGreatDoor.Nat_
namespace Go.Proofs.YtbfmpcfcmbjeeaaGreatDoor.Lex
open Go Go.RowKit R5
theorem twoOk_zero {neg : Bool} {n : Nat} {xs : List Nat} {x : Int} (h : twoOk neg n xs x = true) (hn : n = 0) : x = 0 /\ neg = false := by
 unfold twoOk at h
 rw [if_pos hn] at h
 simp only [Bool.and_eq_true, decide_eq_true_eq, Bool.not_eq_true'] at h
 exact h.2
set_option maxHeartbeats 40000000 in
theorem Check_a (kind : Nat) (neg dneg : Bool) (s : ByteArray) (x : Int) (hneg : Bool) (A : Option Addr) (n c : Nat) (xs : List Nat) (hx : Int) (p : Nat) (w : World) (hr : Rd w A n c xs) (hmax : (s.size : Int) <= 4611686018427387904) (he : s.toList.isEmpty = false) (hd : dneg = false) :
  Calls Tryz.prog 8 #[numV kind neg dneg s x hneg A n c hx p] w fun e w' => e = .returned (.int .i64 (numErr (numOk kind neg dneg s x hneg n xs hx p))) /\ Below w.heap.size w w' := by
 obtain ⟨dec, hdec⟩ := yx (decMay s x)
 obtain ⟨two, htwo⟩ := yx (twoOk hneg n xs hx)
 obtain ⟨nn, hnone⟩ := yx (R11.noTwoB hneg n hx)
 obtain ⟨V, hV⟩ := yx (numOk kind neg dneg s x hneg n xs hx p)
 have HD := vv fun w => Dec.Check dneg s x w hmax
 have HT := vv fun w' (h : Below w.heap.size w w') => Exa.Check hneg A n c xs hx w' (hr.below h rfl)
 have td := Dec.decErr_zero s x
 have tt := Exa.exaErr_zero hneg n xs hx
 obtain ⟨zd, hzd⟩ := yx (Dec.decErr s x)
 obtain ⟨zt, hzt⟩ := yx (Exa.exaErr hneg n xs hx)
 rw [<- hzd, <- hdec] at td
 rw [<- hzd] at HD
 rw [<- hzt, <- htwo] at tt
 rw [<- hzt] at HT
 rw [<- hV]
 unfold numOk at hV
 rw [<- hdec, <- htwo, <- hnone] at hV
 have HV := vv hV
 have HO := vv hnone
 have HTq := vv htwo
 obtain ⟨w0, hw0⟩ := yx (w.alloc (.cells #[.int .u8 (kind : Int), .bool neg, .bool dneg, .string s, .int .i64 x, .bool hneg, .slice A n c, .int .i64 hx, .int .u64 (p : Int)] 33))
 have hB0 : Below w.heap.size w w0 := by rw [hw0]; exact (Below.refl _ w).alloc (Nat.le_refl _) _
 have hN0 : NumBox w0 w.heap.size kind neg dneg s x hneg A n c hx p := by rw [hw0]; exact NumBox.made w _ _ _ _ _ _ _ _ _ _ _ _
 have HN := vv hN0
 have HB := vv hB0
 have HW0 := vv hw0
 have HB0 := vv ((Below.refl w.heap.size w).alloc (o := .cells #[.int .u8 (kind : Int), .bool neg, .bool dneg, .string s, .int .i64 x, .bool hneg, .slice A n c, .int .i64 hx, .int .u64 (p : Int)] 33) (Nat.le_refl _))
 have hsm := hr.sm
 clear hw0 hB0 hN0 hr hdec htwo hnone hV hzd hzt hmax
 obtain ⟨c0, c1, c2, c3, c4, c5, c6, c7, c8, cl⟩ := HN.out
 subst hd
 have HE : Hid (emptyB false s x = false) := vv (by unfold emptyB; rw [he]; rfl)
 go_enter Tryz.func8, Tryz.ntmps8
 by_cases hn : n = 0
 ·have tn : ((n : Int) == 0) = true := by rw [hn]; rfl
  have HNn := vv hn
  cases th : (hx == 0)
  ·have hxne : hx ≠ 0 := by rw [beq_eq_false_iff_ne] at th; exact th
   have HO : Hid (nn = false) := vv (by rw [HO.out]; unfold R11.noTwoB; rw [decide_eq_false hxne]; simp)
   have HZ : Hid (two = true -> n ≠ 0) := vv (fun ht _ => by rw [HTq.out] at ht; exact hxne (twoOk_zero ht hn).1)
   clear hn hxne
   rcases (by omega : kind = 1 \/ kind = 2 \/ kind = 3 \/ kind = 4 \/ (kind ≠ 1 /\ kind ≠ 2 /\ kind ≠ 3 /\ kind ≠ 4)) with hk | hk | hk | hk | ⟨q1, q2, q3, q4⟩
   ·have HK := vv hk
    have t1 : ((kind : Int) == 1) = true := by rw [hk]; rfl
    clear hk
    go_wp2_with fail
    rw [<- HW0.out]
    refine (HD.out _).mono ?_
    rintro e w1 ⟨rfl, hB1⟩
    have HN := vv (HN.out.below hB1)
    have HB := vn HB hB1
    clear hB1 c0 c1 c2 c3 c4 c5 c6 c7 c8 cl
    obtain ⟨c0, c1, c2, c3, c4, c5, c6, c7, c8, cl⟩ := HN.out
    cases dec
    ·have HF : Hid (V = false) := vv (by rw [HV.out, HE.out, HO.out]; simp [HK.out])
     go_wp2
     go_ret
     exact ⟨retI (by rw [HF.out]; rfl), HB.out⟩
    ·cases neg
     ·have HF : Hid (V = false) := vv (by rw [HV.out, HE.out, HO.out]; simp [HK.out])
      go_wp2
      go_ret
      exact ⟨retI (by rw [HF.out]; rfl), HB.out⟩
     ·have HF : Hid (V = false) := vv (by rw [HV.out, HE.out, HO.out]; simp [HK.out])
      go_wp2
      go_ret
      exact ⟨retI (by rw [HF.out]; rfl), HB.out⟩
   ·have HK := vv hk
    have t1 : ((kind : Int) == 1) = false := by rw [beq_eq_false_iff_ne]; omega
    have t2 : ((kind : Int) == 2) = true := by rw [hk]; rfl
    clear hk
    go_wp2_with fail
    rw [<- HW0.out]
    refine (HT.out _ HB.out).mono ?_
    rintro e w1 ⟨rfl, hB1⟩
    have HN := vv (HN.out.below hB1)
    have HB := vn HB hB1
    clear hB1 c0 c1 c2 c3 c4 c5 c6 c7 c8 cl
    obtain ⟨c0, c1, c2, c3, c4, c5, c6, c7, c8, cl⟩ := HN.out
    cases two
    ·have HF : Hid (V = false) := vv (by rw [HV.out, HE.out, HO.out]; simp [HK.out])
     go_wp2
     go_ret
     exact ⟨retI (by rw [HF.out]; rfl), HB.out⟩
    ·cases hneg
     ·cases neg
      ·have HF : Hid (V = false) := vv (by rw [HV.out, HE.out, HO.out]; simp [HK.out])
       go_wp2
       go_ret
       exact ⟨retI (by rw [HF.out]; rfl), HB.out⟩
      ·have HF : Hid (V = false) := vv (by rw [HV.out, HE.out, HO.out]; simp [HK.out])
       go_wp2
       go_ret
       exact ⟨retI (by rw [HF.out]; rfl), HB.out⟩
     ·cases neg
      ·have HF : Hid (V = false) := vv (by rw [HV.out, HE.out, HO.out]; simp [HK.out])
       go_wp2
       go_ret
       exact ⟨retI (by rw [HF.out]; rfl), HB.out⟩
      ·have HF : Hid (V = false) := vv (by rw [HV.out, HE.out, HO.out]; simp [HK.out])
       go_wp2
       go_ret
       exact ⟨retI (by rw [HF.out]; rfl), HB.out⟩
   ·have HK := vv hk
    have t1 : ((kind : Int) == 1) = false := by rw [beq_eq_false_iff_ne]; omega
    have t2 : ((kind : Int) == 2) = false := by rw [beq_eq_false_iff_ne]; omega
    have t3 : ((kind : Int) == 3) = true := by rw [hk]; rfl
    clear hk
    ·have HF : Hid (V = false) := vv (by rw [HV.out, HE.out, HO.out]; simp [HK.out])
     go_wp2
     go_ret
     exact ⟨retI (by rw [HF.out]; rfl), HB0.out⟩
   ·have HK := vv hk
    have t1 : ((kind : Int) == 1) = false := by rw [beq_eq_false_iff_ne]; omega
    have t2 : ((kind : Int) == 2) = false := by rw [beq_eq_false_iff_ne]; omega
    have t3 : ((kind : Int) == 3) = false := by rw [beq_eq_false_iff_ne]; omega
    have t4 : ((kind : Int) == 4) = true := by rw [hk]; rfl
    clear hk
    ·have HF : Hid (V = false) := vv (by rw [HV.out, HE.out, HO.out]; simp [HK.out])
     go_wp2
     go_ret
     exact ⟨retI (by rw [HF.out]; rfl), HB0.out⟩
   ·have t1 : ((kind : Int) == 1) = false := by rw [beq_eq_false_iff_ne]; omega
    have t2 : ((kind : Int) == 2) = false := by rw [beq_eq_false_iff_ne]; omega
    have t3 : ((kind : Int) == 3) = false := by rw [beq_eq_false_iff_ne]; omega
    have t4 : ((kind : Int) == 4) = false := by rw [beq_eq_false_iff_ne]; omega
    ·have HF : Hid (V = false) := vv (by rw [HV.out, HE.out, HO.out]; simp [q1, q2, q3, q4])
     go_wp2
     go_ret
     exact ⟨retI (by rw [HF.out]; rfl), HB0.out⟩
  ·have hxe : hx = 0 := by rw [beq_iff_eq] at th; exact th
   cases hneg
   ·have HO : Hid (nn = true) := vv (by rw [HO.out]; unfold R11.noTwoB; rw [decide_eq_true hn, decide_eq_true hxe]; rfl)
    clear hxe hn
    rcases (by omega : kind = 1 \/ kind = 2 \/ kind = 3 \/ kind = 4 \/ (kind ≠ 1 /\ kind ≠ 2 /\ kind ≠ 3 /\ kind ≠ 4)) with hk | hk | hk | hk | ⟨q1, q2, q3, q4⟩
    ·have HK := vv hk
     have t1 : ((kind : Int) == 1) = true := by rw [hk]; rfl
     clear hk
     go_wp2_with fail
     rw [<- HW0.out]
     refine (HD.out _).mono ?_
     rintro e w1 ⟨rfl, hB1⟩
     have HN := vv (HN.out.below hB1)
     have HB := vn HB hB1
     clear hB1 c0 c1 c2 c3 c4 c5 c6 c7 c8 cl
     obtain ⟨c0, c1, c2, c3, c4, c5, c6, c7, c8, cl⟩ := HN.out
     cases dec
     ·have HF : Hid (V = false) := vv (by rw [HV.out, HE.out, HO.out]; simp [HK.out])
      go_wp2
      go_ret
      exact ⟨retI (by rw [HF.out]; rfl), HB.out⟩
     ·cases neg
      ·by_cases hp : p = 0
       ·have tp : ((p : Int) == 0) = true := by rw [hp]; rfl
        have HP := vv hp
        clear hp
        ·have HF : Hid (V = true) := vv (by rw [HV.out, HE.out, HO.out]; simp [HP.out, HK.out])
         go_wp2
         go_ret
         exact ⟨retI (by rw [HF.out]; rfl), HB.out⟩
       ·have tp : ((p : Int) == 0) = false := by rw [beq_eq_false_iff_ne]; omega
        have HP := vv hp
        clear hp
        ·have HF : Hid (V = false) := vv (by rw [HV.out, HE.out, HO.out]; simp [HP.out, HK.out])
         go_wp2
         go_ret
         exact ⟨retI (by rw [HF.out]; rfl), HB.out⟩
      ·have HF : Hid (V = false) := vv (by rw [HV.out, HE.out, HO.out]; simp [HK.out])
       go_wp2
       go_ret
       exact ⟨retI (by rw [HF.out]; rfl), HB.out⟩
    ·have HK := vv hk
     have t1 : ((kind : Int) == 1) = false := by rw [beq_eq_false_iff_ne]; omega
     have t2 : ((kind : Int) == 2) = true := by rw [hk]; rfl
     clear hk
     go_wp2_with fail
     rw [<- HW0.out]
     refine (HT.out _ HB.out).mono ?_
     rintro e w1 ⟨rfl, hB1⟩
     have HN := vv (HN.out.below hB1)
     have HB := vn HB hB1
     clear hB1 c0 c1 c2 c3 c4 c5 c6 c7 c8 cl
     obtain ⟨c0, c1, c2, c3, c4, c5, c6, c7, c8, cl⟩ := HN.out
     cases two
     ·have HF : Hid (V = false) := vv (by rw [HV.out, HE.out, HO.out]; simp [HK.out])
      go_wp2
      go_ret
      exact ⟨retI (by rw [HF.out]; rfl), HB.out⟩
     ·have HF : Hid (V = false) := vv (by rw [HV.out, HE.out, HO.out]; simp [HK.out])
      go_wp2
      go_ret
      exact ⟨retI (by rw [HF.out]; rfl), HB.out⟩
    ·have HK := vv hk
     have t1 : ((kind : Int) == 1) = false := by rw [beq_eq_false_iff_ne]; omega
     have t2 : ((kind : Int) == 2) = false := by rw [beq_eq_false_iff_ne]; omega
     have t3 : ((kind : Int) == 3) = true := by rw [hk]; rfl
     clear hk
     ·have HF : Hid (V = false) := vv (by rw [HV.out, HE.out, HO.out]; simp [HK.out])
      go_wp2
      go_ret
      exact ⟨retI (by rw [HF.out]; rfl), HB0.out⟩
    ·have HK := vv hk
     have t1 : ((kind : Int) == 1) = false := by rw [beq_eq_false_iff_ne]; omega
     have t2 : ((kind : Int) == 2) = false := by rw [beq_eq_false_iff_ne]; omega
     have t3 : ((kind : Int) == 3) = false := by rw [beq_eq_false_iff_ne]; omega
     have t4 : ((kind : Int) == 4) = true := by rw [hk]; rfl
     clear hk
     ·have HF : Hid (V = false) := vv (by rw [HV.out, HE.out, HO.out]; simp [HK.out])
      go_wp2
      go_ret
      exact ⟨retI (by rw [HF.out]; rfl), HB0.out⟩
    ·have t1 : ((kind : Int) == 1) = false := by rw [beq_eq_false_iff_ne]; omega
     have t2 : ((kind : Int) == 2) = false := by rw [beq_eq_false_iff_ne]; omega
     have t3 : ((kind : Int) == 3) = false := by rw [beq_eq_false_iff_ne]; omega
     have t4 : ((kind : Int) == 4) = false := by rw [beq_eq_false_iff_ne]; omega
     ·have HF : Hid (V = false) := vv (by rw [HV.out, HE.out, HO.out]; simp [q1, q2, q3, q4])
      go_wp2
      go_ret
      exact ⟨retI (by rw [HF.out]; rfl), HB0.out⟩
   ·have HO : Hid (nn = false) := vv (by rw [HO.out]; unfold R11.noTwoB; simp)
    have HZ : Hid (two = true -> n ≠ 0) := vv (fun ht _ => by rw [HTq.out] at ht; exact absurd (twoOk_zero ht hn).2 (by decide))
    clear hn hxe
    rcases (by omega : kind = 1 \/ kind = 2 \/ kind = 3 \/ kind = 4 \/ (kind ≠ 1 /\ kind ≠ 2 /\ kind ≠ 3 /\ kind ≠ 4)) with hk | hk | hk | hk | ⟨q1, q2, q3, q4⟩
    ·have HK := vv hk
     have t1 : ((kind : Int) == 1) = true := by rw [hk]; rfl
     clear hk
     go_wp2_with fail
     rw [<- HW0.out]
     refine (HD.out _).mono ?_
     rintro e w1 ⟨rfl, hB1⟩
     have HN := vv (HN.out.below hB1)
     have HB := vn HB hB1
     clear hB1 c0 c1 c2 c3 c4 c5 c6 c7 c8 cl
     obtain ⟨c0, c1, c2, c3, c4, c5, c6, c7, c8, cl⟩ := HN.out
     cases dec
     ·have HF : Hid (V = false) := vv (by rw [HV.out, HE.out, HO.out]; simp [HK.out])
      go_wp2
      go_ret
      exact ⟨retI (by rw [HF.out]; rfl), HB.out⟩
     ·cases neg
      ·have HF : Hid (V = false) := vv (by rw [HV.out, HE.out, HO.out]; simp [HK.out])
       go_wp2
       go_ret
       exact ⟨retI (by rw [HF.out]; rfl), HB.out⟩
      ·have HF : Hid (V = false) := vv (by rw [HV.out, HE.out, HO.out]; simp [HK.out])
       go_wp2
       go_ret
       exact ⟨retI (by rw [HF.out]; rfl), HB.out⟩
    ·have HK := vv hk
     have t1 : ((kind : Int) == 1) = false := by rw [beq_eq_false_iff_ne]; omega
     have t2 : ((kind : Int) == 2) = true := by rw [hk]; rfl
     clear hk
     go_wp2_with fail
     rw [<- HW0.out]
     refine (HT.out _ HB.out).mono ?_
     rintro e w1 ⟨rfl, hB1⟩
     have HN := vv (HN.out.below hB1)
     have HB := vn HB hB1
     clear hB1 c0 c1 c2 c3 c4 c5 c6 c7 c8 cl
     obtain ⟨c0, c1, c2, c3, c4, c5, c6, c7, c8, cl⟩ := HN.out
     cases two
     ·have HF : Hid (V = false) := vv (by rw [HV.out, HE.out, HO.out]; simp [HK.out])
      go_wp2
      go_ret
      exact ⟨retI (by rw [HF.out]; rfl), HB.out⟩
     ·cases neg
      ·have HF : Hid (V = false) := vv (by rw [HV.out, HE.out, HO.out]; simp [HK.out])
       go_wp2
       go_ret
       exact ⟨retI (by rw [HF.out]; rfl), HB.out⟩
      ·have HF : Hid (V = false) := vv (by rw [HV.out, HE.out, HO.out]; simp [HK.out])
       go_wp2
       go_ret
       exact ⟨retI (by rw [HF.out]; rfl), HB.out⟩
    ·have HK := vv hk
     have t1 : ((kind : Int) == 1) = false := by rw [beq_eq_false_iff_ne]; omega
     have t2 : ((kind : Int) == 2) = false := by rw [beq_eq_false_iff_ne]; omega
     have t3 : ((kind : Int) == 3) = true := by rw [hk]; rfl
     clear hk
     ·have HF : Hid (V = false) := vv (by rw [HV.out, HE.out, HO.out]; simp [HK.out])
      go_wp2
      go_ret
      exact ⟨retI (by rw [HF.out]; rfl), HB0.out⟩
    ·have HK := vv hk
     have t1 : ((kind : Int) == 1) = false := by rw [beq_eq_false_iff_ne]; omega
     have t2 : ((kind : Int) == 2) = false := by rw [beq_eq_false_iff_ne]; omega
     have t3 : ((kind : Int) == 3) = false := by rw [beq_eq_false_iff_ne]; omega
     have t4 : ((kind : Int) == 4) = true := by rw [hk]; rfl
     clear hk
     ·have HF : Hid (V = false) := vv (by rw [HV.out, HE.out, HO.out]; simp [HK.out])
      go_wp2
      go_ret
      exact ⟨retI (by rw [HF.out]; rfl), HB0.out⟩
    ·have t1 : ((kind : Int) == 1) = false := by rw [beq_eq_false_iff_ne]; omega
     have t2 : ((kind : Int) == 2) = false := by rw [beq_eq_false_iff_ne]; omega
     have t3 : ((kind : Int) == 3) = false := by rw [beq_eq_false_iff_ne]; omega
     have t4 : ((kind : Int) == 4) = false := by rw [beq_eq_false_iff_ne]; omega
     ·have HF : Hid (V = false) := vv (by rw [HV.out, HE.out, HO.out]; simp [q1, q2, q3, q4])
      go_wp2
      go_ret
      exact ⟨retI (by rw [HF.out]; rfl), HB0.out⟩
 ·have tn : ((n : Int) == 0) = false := by rw [beq_eq_false_iff_ne]; omega
  have HO : Hid (nn = false) := vv (by rw [HO.out]; unfold R11.noTwoB; rw [decide_eq_false hn]; rfl)
  have HZ : Hid (two = true -> n ≠ 0) := vv (fun _ => hn)
  clear hn
  rcases (by omega : kind = 1 \/ kind = 2 \/ kind = 3 \/ kind = 4 \/ (kind ≠ 1 /\ kind ≠ 2 /\ kind ≠ 3 /\ kind ≠ 4)) with hk | hk | hk | hk | ⟨q1, q2, q3, q4⟩
  ·have HK := vv hk
   have t1 : ((kind : Int) == 1) = true := by rw [hk]; rfl
   clear hk
   go_wp2_with fail
   rw [<- HW0.out]
   refine (HD.out _).mono ?_
   rintro e w1 ⟨rfl, hB1⟩
   have HN := vv (HN.out.below hB1)
   have HB := vn HB hB1
   clear hB1 c0 c1 c2 c3 c4 c5 c6 c7 c8 cl
   obtain ⟨c0, c1, c2, c3, c4, c5, c6, c7, c8, cl⟩ := HN.out
   cases dec
   ·have HF : Hid (V = false) := vv (by rw [HV.out, HE.out, HO.out]; simp [HK.out])
    go_wp2
    go_ret
    exact ⟨retI (by rw [HF.out]; rfl), HB.out⟩
   ·cases neg
    ·have HF : Hid (V = false) := vv (by rw [HV.out, HE.out, HO.out]; simp [HK.out])
     go_wp2
     go_ret
     exact ⟨retI (by rw [HF.out]; rfl), HB.out⟩
    ·have HF : Hid (V = false) := vv (by rw [HV.out, HE.out, HO.out]; simp [HK.out])
     go_wp2
     go_ret
     exact ⟨retI (by rw [HF.out]; rfl), HB.out⟩
  ·have HK := vv hk
   have t1 : ((kind : Int) == 1) = false := by rw [beq_eq_false_iff_ne]; omega
   have t2 : ((kind : Int) == 2) = true := by rw [hk]; rfl
   clear hk
   go_wp2_with fail
   rw [<- HW0.out]
   refine (HT.out _ HB.out).mono ?_
   rintro e w1 ⟨rfl, hB1⟩
   have HN := vv (HN.out.below hB1)
   have HB := vn HB hB1
   clear hB1 c0 c1 c2 c3 c4 c5 c6 c7 c8 cl
   obtain ⟨c0, c1, c2, c3, c4, c5, c6, c7, c8, cl⟩ := HN.out
   cases two
   ·have HF : Hid (V = false) := vv (by rw [HV.out, HE.out, HO.out]; simp [HK.out])
    go_wp2
    go_ret
    exact ⟨retI (by rw [HF.out]; rfl), HB.out⟩
   ·cases hneg
    ·cases neg
     ·have HF : Hid (V = false) := vv (by rw [HV.out, HE.out, HO.out]; simp [HK.out])
      go_wp2
      go_ret
      exact ⟨retI (by rw [HF.out]; rfl), HB.out⟩
     ·have HF : Hid (V = false) := vv (by rw [HV.out, HE.out, HO.out]; simp [HK.out])
      go_wp2
      go_ret
      exact ⟨retI (by rw [HF.out]; rfl), HB.out⟩
    ·cases neg
     ·have HF : Hid (V = false) := vv (by rw [HV.out, HE.out, HO.out]; simp [HK.out])
      go_wp2
      go_ret
      exact ⟨retI (by rw [HF.out]; rfl), HB.out⟩
     ·have HF : Hid (V = false) := vv (by rw [HV.out, HE.out, HO.out]; simp [HK.out])
      go_wp2
      go_ret
      exact ⟨retI (by rw [HF.out]; rfl), HB.out⟩
  ·have HK := vv hk
   have t1 : ((kind : Int) == 1) = false := by rw [beq_eq_false_iff_ne]; omega
   have t2 : ((kind : Int) == 2) = false := by rw [beq_eq_false_iff_ne]; omega
   have t3 : ((kind : Int) == 3) = true := by rw [hk]; rfl
   clear hk
   ·have HF : Hid (V = false) := vv (by rw [HV.out, HE.out, HO.out]; simp [HK.out])
    go_wp2
    go_ret
    exact ⟨retI (by rw [HF.out]; rfl), HB0.out⟩
  ·have HK := vv hk
   have t1 : ((kind : Int) == 1) = false := by rw [beq_eq_false_iff_ne]; omega
   have t2 : ((kind : Int) == 2) = false := by rw [beq_eq_false_iff_ne]; omega
   have t3 : ((kind : Int) == 3) = false := by rw [beq_eq_false_iff_ne]; omega
   have t4 : ((kind : Int) == 4) = true := by rw [hk]; rfl
   clear hk
   ·have HF : Hid (V = false) := vv (by rw [HV.out, HE.out, HO.out]; simp [HK.out])
    go_wp2
    go_ret
    exact ⟨retI (by rw [HF.out]; rfl), HB0.out⟩
  ·have t1 : ((kind : Int) == 1) = false := by rw [beq_eq_false_iff_ne]; omega
   have t2 : ((kind : Int) == 2) = false := by rw [beq_eq_false_iff_ne]; omega
   have t3 : ((kind : Int) == 3) = false := by rw [beq_eq_false_iff_ne]; omega
   have t4 : ((kind : Int) == 4) = false := by rw [beq_eq_false_iff_ne]; omega
   ·have HF : Hid (V = false) := vv (by rw [HV.out, HE.out, HO.out]; simp [q1, q2, q3, q4])
    go_wp2
    go_ret
    exact ⟨retI (by rw [HF.out]; rfl), HB0.out⟩
set_option maxHeartbeats 40000000 in
theorem Check_b (kind : Nat) (neg dneg : Bool) (s : ByteArray) (x : Int) (hneg : Bool) (A : Option Addr) (n c : Nat) (xs : List Nat) (hx : Int) (p : Nat) (w : World) (hr : Rd w A n c xs) (hmax : (s.size : Int) <= 4611686018427387904) (he : s.toList.isEmpty = true) (hd : dneg = false) (tx : (x == 0) = false) :
  Calls Tryz.prog 8 #[numV kind neg dneg s x hneg A n c hx p] w fun e w' => e = .returned (.int .i64 (numErr (numOk kind neg dneg s x hneg n xs hx p))) /\ Below w.heap.size w w' := by
 obtain ⟨dec, hdec⟩ := yx (decMay s x)
 obtain ⟨two, htwo⟩ := yx (twoOk hneg n xs hx)
 obtain ⟨nn, hnone⟩ := yx (R11.noTwoB hneg n hx)
 obtain ⟨V, hV⟩ := yx (numOk kind neg dneg s x hneg n xs hx p)
 have HD := vv fun w => Dec.Check dneg s x w hmax
 have HT := vv fun w' (h : Below w.heap.size w w') => Exa.Check hneg A n c xs hx w' (hr.below h rfl)
 have td := Dec.decErr_zero s x
 have tt := Exa.exaErr_zero hneg n xs hx
 obtain ⟨zd, hzd⟩ := yx (Dec.decErr s x)
 obtain ⟨zt, hzt⟩ := yx (Exa.exaErr hneg n xs hx)
 rw [<- hzd, <- hdec] at td
 rw [<- hzd] at HD
 rw [<- hzt, <- htwo] at tt
 rw [<- hzt] at HT
 rw [<- hV]
 unfold numOk at hV
 rw [<- hdec, <- htwo, <- hnone] at hV
 have HV := vv hV
 have HO := vv hnone
 have HTq := vv htwo
 obtain ⟨w0, hw0⟩ := yx (w.alloc (.cells #[.int .u8 (kind : Int), .bool neg, .bool dneg, .string s, .int .i64 x, .bool hneg, .slice A n c, .int .i64 hx, .int .u64 (p : Int)] 33))
 have hB0 : Below w.heap.size w w0 := by rw [hw0]; exact (Below.refl _ w).alloc (Nat.le_refl _) _
 have hN0 : NumBox w0 w.heap.size kind neg dneg s x hneg A n c hx p := by rw [hw0]; exact NumBox.made w _ _ _ _ _ _ _ _ _ _ _ _
 have HN := vv hN0
 have HB := vv hB0
 have HW0 := vv hw0
 have HB0 := vv ((Below.refl w.heap.size w).alloc (o := .cells #[.int .u8 (kind : Int), .bool neg, .bool dneg, .string s, .int .i64 x, .bool hneg, .slice A n c, .int .i64 hx, .int .u64 (p : Int)] 33) (Nat.le_refl _))
 have hsm := hr.sm
 clear hw0 hB0 hN0 hr hdec htwo hnone hV hzd hzt hmax
 obtain ⟨c0, c1, c2, c3, c4, c5, c6, c7, c8, cl⟩ := HN.out
 subst hd
 have HE : Hid (emptyB false s x = false) := vv (by unfold emptyB; rw [he, tx]; rfl)
 go_enter Tryz.func8, Tryz.ntmps8
 by_cases hn : n = 0
 ·have tn : ((n : Int) == 0) = true := by rw [hn]; rfl
  have HNn := vv hn
  cases th : (hx == 0)
  ·have hxne : hx ≠ 0 := by rw [beq_eq_false_iff_ne] at th; exact th
   have HO : Hid (nn = false) := vv (by rw [HO.out]; unfold R11.noTwoB; rw [decide_eq_false hxne]; simp)
   have HZ : Hid (two = true -> n ≠ 0) := vv (fun ht _ => by rw [HTq.out] at ht; exact hxne (twoOk_zero ht hn).1)
   clear hn hxne
   rcases (by omega : kind = 1 \/ kind = 2 \/ kind = 3 \/ kind = 4 \/ (kind ≠ 1 /\ kind ≠ 2 /\ kind ≠ 3 /\ kind ≠ 4)) with hk | hk | hk | hk | ⟨q1, q2, q3, q4⟩
   ·have HK := vv hk
    have t1 : ((kind : Int) == 1) = true := by rw [hk]; rfl
    clear hk
    go_wp2_with fail
    rw [<- HW0.out]
    refine (HD.out _).mono ?_
    rintro e w1 ⟨rfl, hB1⟩
    have HN := vv (HN.out.below hB1)
    have HB := vn HB hB1
    clear hB1 c0 c1 c2 c3 c4 c5 c6 c7 c8 cl
    obtain ⟨c0, c1, c2, c3, c4, c5, c6, c7, c8, cl⟩ := HN.out
    cases dec
    ·have HF : Hid (V = false) := vv (by rw [HV.out, HE.out, HO.out]; simp [HK.out])
     go_wp2
     go_ret
     exact ⟨retI (by rw [HF.out]; rfl), HB.out⟩
    ·cases neg
     ·have HF : Hid (V = false) := vv (by rw [HV.out, HE.out, HO.out]; simp [HK.out])
      go_wp2
      go_ret
      exact ⟨retI (by rw [HF.out]; rfl), HB.out⟩
     ·have HF : Hid (V = false) := vv (by rw [HV.out, HE.out, HO.out]; simp [HK.out])
      go_wp2
      go_ret
      exact ⟨retI (by rw [HF.out]; rfl), HB.out⟩
   ·have HK := vv hk
    have t1 : ((kind : Int) == 1) = false := by rw [beq_eq_false_iff_ne]; omega
    have t2 : ((kind : Int) == 2) = true := by rw [hk]; rfl
    clear hk
    go_wp2_with fail
    rw [<- HW0.out]
    refine (HT.out _ HB.out).mono ?_
    rintro e w1 ⟨rfl, hB1⟩
    have HN := vv (HN.out.below hB1)
    have HB := vn HB hB1
    clear hB1 c0 c1 c2 c3 c4 c5 c6 c7 c8 cl
    obtain ⟨c0, c1, c2, c3, c4, c5, c6, c7, c8, cl⟩ := HN.out
    cases two
    ·have HF : Hid (V = false) := vv (by rw [HV.out, HE.out, HO.out]; simp [HK.out])
     go_wp2
     go_ret
     exact ⟨retI (by rw [HF.out]; rfl), HB.out⟩
    ·cases hneg
     ·cases neg
      ·have HF : Hid (V = false) := vv (by rw [HV.out, HE.out, HO.out]; simp [HK.out])
       go_wp2
       go_ret
       exact ⟨retI (by rw [HF.out]; rfl), HB.out⟩
      ·have HF : Hid (V = false) := vv (by rw [HV.out, HE.out, HO.out]; simp [HK.out])
       go_wp2
       go_ret
       exact ⟨retI (by rw [HF.out]; rfl), HB.out⟩
     ·cases neg
      ·have HF : Hid (V = false) := vv (by rw [HV.out, HE.out, HO.out]; simp [HK.out])
       go_wp2
       go_ret
       exact ⟨retI (by rw [HF.out]; rfl), HB.out⟩
      ·have HF : Hid (V = false) := vv (by rw [HV.out, HE.out, HO.out]; simp [HK.out])
       go_wp2
       go_ret
       exact ⟨retI (by rw [HF.out]; rfl), HB.out⟩
   ·have HK := vv hk
    have t1 : ((kind : Int) == 1) = false := by rw [beq_eq_false_iff_ne]; omega
    have t2 : ((kind : Int) == 2) = false := by rw [beq_eq_false_iff_ne]; omega
    have t3 : ((kind : Int) == 3) = true := by rw [hk]; rfl
    clear hk
    ·have HF : Hid (V = false) := vv (by rw [HV.out, HE.out, HO.out]; simp [HK.out])
     go_wp2
     go_ret
     exact ⟨retI (by rw [HF.out]; rfl), HB0.out⟩
   ·have HK := vv hk
    have t1 : ((kind : Int) == 1) = false := by rw [beq_eq_false_iff_ne]; omega
    have t2 : ((kind : Int) == 2) = false := by rw [beq_eq_false_iff_ne]; omega
    have t3 : ((kind : Int) == 3) = false := by rw [beq_eq_false_iff_ne]; omega
    have t4 : ((kind : Int) == 4) = true := by rw [hk]; rfl
    clear hk
    ·have HF : Hid (V = false) := vv (by rw [HV.out, HE.out, HO.out]; simp [HK.out])
     go_wp2
     go_ret
     exact ⟨retI (by rw [HF.out]; rfl), HB0.out⟩
   ·have t1 : ((kind : Int) == 1) = false := by rw [beq_eq_false_iff_ne]; omega
    have t2 : ((kind : Int) == 2) = false := by rw [beq_eq_false_iff_ne]; omega
    have t3 : ((kind : Int) == 3) = false := by rw [beq_eq_false_iff_ne]; omega
    have t4 : ((kind : Int) == 4) = false := by rw [beq_eq_false_iff_ne]; omega
    ·have HF : Hid (V = false) := vv (by rw [HV.out, HE.out, HO.out]; simp [q1, q2, q3, q4])
     go_wp2
     go_ret
     exact ⟨retI (by rw [HF.out]; rfl), HB0.out⟩
  ·have hxe : hx = 0 := by rw [beq_iff_eq] at th; exact th
   cases hneg
   ·have HO : Hid (nn = true) := vv (by rw [HO.out]; unfold R11.noTwoB; rw [decide_eq_true hn, decide_eq_true hxe]; rfl)
    clear hxe hn
    rcases (by omega : kind = 1 \/ kind = 2 \/ kind = 3 \/ kind = 4 \/ (kind ≠ 1 /\ kind ≠ 2 /\ kind ≠ 3 /\ kind ≠ 4)) with hk | hk | hk | hk | ⟨q1, q2, q3, q4⟩
    ·have HK := vv hk
     have t1 : ((kind : Int) == 1) = true := by rw [hk]; rfl
     clear hk
     go_wp2_with fail
     rw [<- HW0.out]
     refine (HD.out _).mono ?_
     rintro e w1 ⟨rfl, hB1⟩
     have HN := vv (HN.out.below hB1)
     have HB := vn HB hB1
     clear hB1 c0 c1 c2 c3 c4 c5 c6 c7 c8 cl
     obtain ⟨c0, c1, c2, c3, c4, c5, c6, c7, c8, cl⟩ := HN.out
     cases dec
     ·have HF : Hid (V = false) := vv (by rw [HV.out, HE.out, HO.out]; simp [HK.out])
      go_wp2
      go_ret
      exact ⟨retI (by rw [HF.out]; rfl), HB.out⟩
     ·cases neg
      ·by_cases hp : p = 0
       ·have tp : ((p : Int) == 0) = true := by rw [hp]; rfl
        have HP := vv hp
        clear hp
        ·have HF : Hid (V = true) := vv (by rw [HV.out, HE.out, HO.out]; simp [HP.out, HK.out])
         go_wp2
         go_ret
         exact ⟨retI (by rw [HF.out]; rfl), HB.out⟩
       ·have tp : ((p : Int) == 0) = false := by rw [beq_eq_false_iff_ne]; omega
        have HP := vv hp
        clear hp
        ·have HF : Hid (V = false) := vv (by rw [HV.out, HE.out, HO.out]; simp [HP.out, HK.out])
         go_wp2
         go_ret
         exact ⟨retI (by rw [HF.out]; rfl), HB.out⟩
      ·have HF : Hid (V = false) := vv (by rw [HV.out, HE.out, HO.out]; simp [HK.out])
       go_wp2
       go_ret
       exact ⟨retI (by rw [HF.out]; rfl), HB.out⟩
    ·have HK := vv hk
     have t1 : ((kind : Int) == 1) = false := by rw [beq_eq_false_iff_ne]; omega
     have t2 : ((kind : Int) == 2) = true := by rw [hk]; rfl
     clear hk
     go_wp2_with fail
     rw [<- HW0.out]
     refine (HT.out _ HB.out).mono ?_
     rintro e w1 ⟨rfl, hB1⟩
     have HN := vv (HN.out.below hB1)
     have HB := vn HB hB1
     clear hB1 c0 c1 c2 c3 c4 c5 c6 c7 c8 cl
     obtain ⟨c0, c1, c2, c3, c4, c5, c6, c7, c8, cl⟩ := HN.out
     cases two
     ·have HF : Hid (V = false) := vv (by rw [HV.out, HE.out, HO.out]; simp [HK.out])
      go_wp2
      go_ret
      exact ⟨retI (by rw [HF.out]; rfl), HB.out⟩
     ·have HF : Hid (V = false) := vv (by rw [HV.out, HE.out, HO.out]; simp [HK.out])
      go_wp2
      go_ret
      exact ⟨retI (by rw [HF.out]; rfl), HB.out⟩
    ·have HK := vv hk
     have t1 : ((kind : Int) == 1) = false := by rw [beq_eq_false_iff_ne]; omega
     have t2 : ((kind : Int) == 2) = false := by rw [beq_eq_false_iff_ne]; omega
     have t3 : ((kind : Int) == 3) = true := by rw [hk]; rfl
     clear hk
     ·have HF : Hid (V = false) := vv (by rw [HV.out, HE.out, HO.out]; simp [HK.out])
      go_wp2
      go_ret
      exact ⟨retI (by rw [HF.out]; rfl), HB0.out⟩
    ·have HK := vv hk
     have t1 : ((kind : Int) == 1) = false := by rw [beq_eq_false_iff_ne]; omega
     have t2 : ((kind : Int) == 2) = false := by rw [beq_eq_false_iff_ne]; omega
     have t3 : ((kind : Int) == 3) = false := by rw [beq_eq_false_iff_ne]; omega
     have t4 : ((kind : Int) == 4) = true := by rw [hk]; rfl
     clear hk
     ·have HF : Hid (V = false) := vv (by rw [HV.out, HE.out, HO.out]; simp [HK.out])
      go_wp2
      go_ret
      exact ⟨retI (by rw [HF.out]; rfl), HB0.out⟩
    ·have t1 : ((kind : Int) == 1) = false := by rw [beq_eq_false_iff_ne]; omega
     have t2 : ((kind : Int) == 2) = false := by rw [beq_eq_false_iff_ne]; omega
     have t3 : ((kind : Int) == 3) = false := by rw [beq_eq_false_iff_ne]; omega
     have t4 : ((kind : Int) == 4) = false := by rw [beq_eq_false_iff_ne]; omega
     ·have HF : Hid (V = false) := vv (by rw [HV.out, HE.out, HO.out]; simp [q1, q2, q3, q4])
      go_wp2
      go_ret
      exact ⟨retI (by rw [HF.out]; rfl), HB0.out⟩
   ·have HO : Hid (nn = false) := vv (by rw [HO.out]; unfold R11.noTwoB; simp)
    have HZ : Hid (two = true -> n ≠ 0) := vv (fun ht _ => by rw [HTq.out] at ht; exact absurd (twoOk_zero ht hn).2 (by decide))
    clear hn hxe
    rcases (by omega : kind = 1 \/ kind = 2 \/ kind = 3 \/ kind = 4 \/ (kind ≠ 1 /\ kind ≠ 2 /\ kind ≠ 3 /\ kind ≠ 4)) with hk | hk | hk | hk | ⟨q1, q2, q3, q4⟩
    ·have HK := vv hk
     have t1 : ((kind : Int) == 1) = true := by rw [hk]; rfl
     clear hk
     go_wp2_with fail
     rw [<- HW0.out]
     refine (HD.out _).mono ?_
     rintro e w1 ⟨rfl, hB1⟩
     have HN := vv (HN.out.below hB1)
     have HB := vn HB hB1
     clear hB1 c0 c1 c2 c3 c4 c5 c6 c7 c8 cl
     obtain ⟨c0, c1, c2, c3, c4, c5, c6, c7, c8, cl⟩ := HN.out
     cases dec
     ·have HF : Hid (V = false) := vv (by rw [HV.out, HE.out, HO.out]; simp [HK.out])
      go_wp2
      go_ret
      exact ⟨retI (by rw [HF.out]; rfl), HB.out⟩
     ·cases neg
      ·have HF : Hid (V = false) := vv (by rw [HV.out, HE.out, HO.out]; simp [HK.out])
       go_wp2
       go_ret
       exact ⟨retI (by rw [HF.out]; rfl), HB.out⟩
      ·have HF : Hid (V = false) := vv (by rw [HV.out, HE.out, HO.out]; simp [HK.out])
       go_wp2
       go_ret
       exact ⟨retI (by rw [HF.out]; rfl), HB.out⟩
    ·have HK := vv hk
     have t1 : ((kind : Int) == 1) = false := by rw [beq_eq_false_iff_ne]; omega
     have t2 : ((kind : Int) == 2) = true := by rw [hk]; rfl
     clear hk
     go_wp2_with fail
     rw [<- HW0.out]
     refine (HT.out _ HB.out).mono ?_
     rintro e w1 ⟨rfl, hB1⟩
     have HN := vv (HN.out.below hB1)
     have HB := vn HB hB1
     clear hB1 c0 c1 c2 c3 c4 c5 c6 c7 c8 cl
     obtain ⟨c0, c1, c2, c3, c4, c5, c6, c7, c8, cl⟩ := HN.out
     cases two
     ·have HF : Hid (V = false) := vv (by rw [HV.out, HE.out, HO.out]; simp [HK.out])
      go_wp2
      go_ret
      exact ⟨retI (by rw [HF.out]; rfl), HB.out⟩
     ·cases neg
      ·have HF : Hid (V = false) := vv (by rw [HV.out, HE.out, HO.out]; simp [HK.out])
       go_wp2
       go_ret
       exact ⟨retI (by rw [HF.out]; rfl), HB.out⟩
      ·have HF : Hid (V = false) := vv (by rw [HV.out, HE.out, HO.out]; simp [HK.out])
       go_wp2
       go_ret
       exact ⟨retI (by rw [HF.out]; rfl), HB.out⟩
    ·have HK := vv hk
     have t1 : ((kind : Int) == 1) = false := by rw [beq_eq_false_iff_ne]; omega
     have t2 : ((kind : Int) == 2) = false := by rw [beq_eq_false_iff_ne]; omega
     have t3 : ((kind : Int) == 3) = true := by rw [hk]; rfl
     clear hk
     ·have HF : Hid (V = false) := vv (by rw [HV.out, HE.out, HO.out]; simp [HK.out])
      go_wp2
      go_ret
      exact ⟨retI (by rw [HF.out]; rfl), HB0.out⟩
    ·have HK := vv hk
     have t1 : ((kind : Int) == 1) = false := by rw [beq_eq_false_iff_ne]; omega
     have t2 : ((kind : Int) == 2) = false := by rw [beq_eq_false_iff_ne]; omega
     have t3 : ((kind : Int) == 3) = false := by rw [beq_eq_false_iff_ne]; omega
     have t4 : ((kind : Int) == 4) = true := by rw [hk]; rfl
     clear hk
     ·have HF : Hid (V = false) := vv (by rw [HV.out, HE.out, HO.out]; simp [HK.out])
      go_wp2
      go_ret
      exact ⟨retI (by rw [HF.out]; rfl), HB0.out⟩
    ·have t1 : ((kind : Int) == 1) = false := by rw [beq_eq_false_iff_ne]; omega
     have t2 : ((kind : Int) == 2) = false := by rw [beq_eq_false_iff_ne]; omega
     have t3 : ((kind : Int) == 3) = false := by rw [beq_eq_false_iff_ne]; omega
     have t4 : ((kind : Int) == 4) = false := by rw [beq_eq_false_iff_ne]; omega
     ·have HF : Hid (V = false) := vv (by rw [HV.out, HE.out, HO.out]; simp [q1, q2, q3, q4])
      go_wp2
      go_ret
      exact ⟨retI (by rw [HF.out]; rfl), HB0.out⟩
 ·have tn : ((n : Int) == 0) = false := by rw [beq_eq_false_iff_ne]; omega
  have HO : Hid (nn = false) := vv (by rw [HO.out]; unfold R11.noTwoB; rw [decide_eq_false hn]; rfl)
  have HZ : Hid (two = true -> n ≠ 0) := vv (fun _ => hn)
  clear hn
  rcases (by omega : kind = 1 \/ kind = 2 \/ kind = 3 \/ kind = 4 \/ (kind ≠ 1 /\ kind ≠ 2 /\ kind ≠ 3 /\ kind ≠ 4)) with hk | hk | hk | hk | ⟨q1, q2, q3, q4⟩
  ·have HK := vv hk
   have t1 : ((kind : Int) == 1) = true := by rw [hk]; rfl
   clear hk
   go_wp2_with fail
   rw [<- HW0.out]
   refine (HD.out _).mono ?_
   rintro e w1 ⟨rfl, hB1⟩
   have HN := vv (HN.out.below hB1)
   have HB := vn HB hB1
   clear hB1 c0 c1 c2 c3 c4 c5 c6 c7 c8 cl
   obtain ⟨c0, c1, c2, c3, c4, c5, c6, c7, c8, cl⟩ := HN.out
   cases dec
   ·have HF : Hid (V = false) := vv (by rw [HV.out, HE.out, HO.out]; simp [HK.out])
    go_wp2
    go_ret
    exact ⟨retI (by rw [HF.out]; rfl), HB.out⟩
   ·cases neg
    ·have HF : Hid (V = false) := vv (by rw [HV.out, HE.out, HO.out]; simp [HK.out])
     go_wp2
     go_ret
     exact ⟨retI (by rw [HF.out]; rfl), HB.out⟩
    ·have HF : Hid (V = false) := vv (by rw [HV.out, HE.out, HO.out]; simp [HK.out])
     go_wp2
     go_ret
     exact ⟨retI (by rw [HF.out]; rfl), HB.out⟩
  ·have HK := vv hk
   have t1 : ((kind : Int) == 1) = false := by rw [beq_eq_false_iff_ne]; omega
   have t2 : ((kind : Int) == 2) = true := by rw [hk]; rfl
   clear hk
   go_wp2_with fail
   rw [<- HW0.out]
   refine (HT.out _ HB.out).mono ?_
   rintro e w1 ⟨rfl, hB1⟩
   have HN := vv (HN.out.below hB1)
   have HB := vn HB hB1
   clear hB1 c0 c1 c2 c3 c4 c5 c6 c7 c8 cl
   obtain ⟨c0, c1, c2, c3, c4, c5, c6, c7, c8, cl⟩ := HN.out
   cases two
   ·have HF : Hid (V = false) := vv (by rw [HV.out, HE.out, HO.out]; simp [HK.out])
    go_wp2
    go_ret
    exact ⟨retI (by rw [HF.out]; rfl), HB.out⟩
   ·cases hneg
    ·cases neg
     ·have HF : Hid (V = false) := vv (by rw [HV.out, HE.out, HO.out]; simp [HK.out])
      go_wp2
      go_ret
      exact ⟨retI (by rw [HF.out]; rfl), HB.out⟩
     ·have HF : Hid (V = false) := vv (by rw [HV.out, HE.out, HO.out]; simp [HK.out])
      go_wp2
      go_ret
      exact ⟨retI (by rw [HF.out]; rfl), HB.out⟩
    ·cases neg
     ·have HF : Hid (V = false) := vv (by rw [HV.out, HE.out, HO.out]; simp [HK.out])
      go_wp2
      go_ret
      exact ⟨retI (by rw [HF.out]; rfl), HB.out⟩
     ·have HF : Hid (V = false) := vv (by rw [HV.out, HE.out, HO.out]; simp [HK.out])
      go_wp2
      go_ret
      exact ⟨retI (by rw [HF.out]; rfl), HB.out⟩
  ·have HK := vv hk
   have t1 : ((kind : Int) == 1) = false := by rw [beq_eq_false_iff_ne]; omega
   have t2 : ((kind : Int) == 2) = false := by rw [beq_eq_false_iff_ne]; omega
   have t3 : ((kind : Int) == 3) = true := by rw [hk]; rfl
   clear hk
   ·have HF : Hid (V = false) := vv (by rw [HV.out, HE.out, HO.out]; simp [HK.out])
    go_wp2
    go_ret
    exact ⟨retI (by rw [HF.out]; rfl), HB0.out⟩
  ·have HK := vv hk
   have t1 : ((kind : Int) == 1) = false := by rw [beq_eq_false_iff_ne]; omega
   have t2 : ((kind : Int) == 2) = false := by rw [beq_eq_false_iff_ne]; omega
   have t3 : ((kind : Int) == 3) = false := by rw [beq_eq_false_iff_ne]; omega
   have t4 : ((kind : Int) == 4) = true := by rw [hk]; rfl
   clear hk
   ·have HF : Hid (V = false) := vv (by rw [HV.out, HE.out, HO.out]; simp [HK.out])
    go_wp2
    go_ret
    exact ⟨retI (by rw [HF.out]; rfl), HB0.out⟩
  ·have t1 : ((kind : Int) == 1) = false := by rw [beq_eq_false_iff_ne]; omega
   have t2 : ((kind : Int) == 2) = false := by rw [beq_eq_false_iff_ne]; omega
   have t3 : ((kind : Int) == 3) = false := by rw [beq_eq_false_iff_ne]; omega
   have t4 : ((kind : Int) == 4) = false := by rw [beq_eq_false_iff_ne]; omega
   ·have HF : Hid (V = false) := vv (by rw [HV.out, HE.out, HO.out]; simp [q1, q2, q3, q4])
    go_wp2
    go_ret
    exact ⟨retI (by rw [HF.out]; rfl), HB0.out⟩
set_option maxHeartbeats 40000000 in
theorem Check_c (kind : Nat) (neg dneg : Bool) (s : ByteArray) (x : Int) (hneg : Bool) (A : Option Addr) (n c : Nat) (xs : List Nat) (hx : Int) (p : Nat) (w : World) (hr : Rd w A n c xs) (hmax : (s.size : Int) <= 4611686018427387904) (he : s.toList.isEmpty = true) (hd : dneg = false) (tx : (x == 0) = true) :
  Calls Tryz.prog 8 #[numV kind neg dneg s x hneg A n c hx p] w fun e w' => e = .returned (.int .i64 (numErr (numOk kind neg dneg s x hneg n xs hx p))) /\ Below w.heap.size w w' := by
 obtain ⟨dec, hdec⟩ := yx (decMay s x)
 obtain ⟨two, htwo⟩ := yx (twoOk hneg n xs hx)
 obtain ⟨nn, hnone⟩ := yx (R11.noTwoB hneg n hx)
 obtain ⟨V, hV⟩ := yx (numOk kind neg dneg s x hneg n xs hx p)
 have HD := vv fun w => Dec.Check dneg s x w hmax
 have HT := vv fun w' (h : Below w.heap.size w w') => Exa.Check hneg A n c xs hx w' (hr.below h rfl)
 have td := Dec.decErr_zero s x
 have tt := Exa.exaErr_zero hneg n xs hx
 obtain ⟨zd, hzd⟩ := yx (Dec.decErr s x)
 obtain ⟨zt, hzt⟩ := yx (Exa.exaErr hneg n xs hx)
 rw [<- hzd, <- hdec] at td
 rw [<- hzd] at HD
 rw [<- hzt, <- htwo] at tt
 rw [<- hzt] at HT
 rw [<- hV]
 unfold numOk at hV
 rw [<- hdec, <- htwo, <- hnone] at hV
 have HV := vv hV
 have HO := vv hnone
 have HTq := vv htwo
 obtain ⟨w0, hw0⟩ := yx (w.alloc (.cells #[.int .u8 (kind : Int), .bool neg, .bool dneg, .string s, .int .i64 x, .bool hneg, .slice A n c, .int .i64 hx, .int .u64 (p : Int)] 33))
 have hB0 : Below w.heap.size w w0 := by rw [hw0]; exact (Below.refl _ w).alloc (Nat.le_refl _) _
 have hN0 : NumBox w0 w.heap.size kind neg dneg s x hneg A n c hx p := by rw [hw0]; exact NumBox.made w _ _ _ _ _ _ _ _ _ _ _ _
 have HN := vv hN0
 have HB := vv hB0
 have HW0 := vv hw0
 have HB0 := vv ((Below.refl w.heap.size w).alloc (o := .cells #[.int .u8 (kind : Int), .bool neg, .bool dneg, .string s, .int .i64 x, .bool hneg, .slice A n c, .int .i64 hx, .int .u64 (p : Int)] 33) (Nat.le_refl _))
 have hsm := hr.sm
 clear hw0 hB0 hN0 hr hdec htwo hnone hV hzd hzt hmax
 obtain ⟨c0, c1, c2, c3, c4, c5, c6, c7, c8, cl⟩ := HN.out
 subst hd
 have HE : Hid (emptyB false s x = true) := vv (by unfold emptyB; rw [he, tx]; rfl)
 go_enter Tryz.func8, Tryz.ntmps8
 by_cases hn : n = 0
 ·have tn : ((n : Int) == 0) = true := by rw [hn]; rfl
  have HNn := vv hn
  cases th : (hx == 0)
  ·have hxne : hx ≠ 0 := by rw [beq_eq_false_iff_ne] at th; exact th
   have HO : Hid (nn = false) := vv (by rw [HO.out]; unfold R11.noTwoB; rw [decide_eq_false hxne]; simp)
   have HZ : Hid (two = true -> n ≠ 0) := vv (fun ht _ => by rw [HTq.out] at ht; exact hxne (twoOk_zero ht hn).1)
   clear hn hxne
   rcases (by omega : kind = 1 \/ kind = 2 \/ kind = 3 \/ kind = 4 \/ (kind ≠ 1 /\ kind ≠ 2 /\ kind ≠ 3 /\ kind ≠ 4)) with hk | hk | hk | hk | ⟨q1, q2, q3, q4⟩
   ·have HK := vv hk
    have t1 : ((kind : Int) == 1) = true := by rw [hk]; rfl
    clear hk
    go_wp2_with fail
    rw [<- HW0.out]
    refine (HD.out _).mono ?_
    rintro e w1 ⟨rfl, hB1⟩
    have HN := vv (HN.out.below hB1)
    have HB := vn HB hB1
    clear hB1 c0 c1 c2 c3 c4 c5 c6 c7 c8 cl
    obtain ⟨c0, c1, c2, c3, c4, c5, c6, c7, c8, cl⟩ := HN.out
    cases dec
    ·have HF : Hid (V = false) := vv (by rw [HV.out, HE.out, HO.out]; simp [HK.out])
     go_wp2
     go_ret
     exact ⟨retI (by rw [HF.out]; rfl), HB.out⟩
    ·cases neg
     ·have HF : Hid (V = false) := vv (by rw [HV.out, HE.out, HO.out]; simp [HK.out])
      go_wp2
      go_ret
      exact ⟨retI (by rw [HF.out]; rfl), HB.out⟩
     ·have HF : Hid (V = false) := vv (by rw [HV.out, HE.out, HO.out]; simp [HK.out])
      go_wp2
      go_ret
      exact ⟨retI (by rw [HF.out]; rfl), HB.out⟩
   ·have HK := vv hk
    have t1 : ((kind : Int) == 1) = false := by rw [beq_eq_false_iff_ne]; omega
    have t2 : ((kind : Int) == 2) = true := by rw [hk]; rfl
    clear hk
    go_wp2_with fail
    rw [<- HW0.out]
    refine (HT.out _ HB.out).mono ?_
    rintro e w1 ⟨rfl, hB1⟩
    have HN := vv (HN.out.below hB1)
    have HB := vn HB hB1
    clear hB1 c0 c1 c2 c3 c4 c5 c6 c7 c8 cl
    obtain ⟨c0, c1, c2, c3, c4, c5, c6, c7, c8, cl⟩ := HN.out
    cases two
    ·have HF : Hid (V = false) := vv (by rw [HV.out, HE.out, HO.out]; simp [HK.out])
     go_wp2
     go_ret
     exact ⟨retI (by rw [HF.out]; rfl), HB.out⟩
    ·cases hneg
     ·cases neg
      ·by_cases hp : p = 0
       ·have tp : ((p : Int) == 0) = true := by rw [hp]; rfl
        have HP := vv hp
        clear hp
        ·have HF : Hid (V = true) := vv (by rw [HV.out, HE.out, HO.out]; simp [HP.out, HK.out])
         go_wp2
         go_ret
         exact ⟨retI (by rw [HF.out]; rfl), HB.out⟩
       ·have tp : ((p : Int) == 0) = false := by rw [beq_eq_false_iff_ne]; omega
        have HP := vv hp
        clear hp
        ·have HF : Hid (V = false) := vv (by rw [HV.out, HE.out, HO.out]; simp [HP.out, HK.out])
         go_wp2
         go_ret
         exact ⟨retI (by rw [HF.out]; rfl), HB.out⟩
      ·have HF : Hid (V = false) := vv (by rw [HV.out, HE.out, HO.out]; simp [HZ.out rfl, HK.out])
       go_wp2
       go_ret
       exact ⟨retI (by rw [HF.out]; rfl), HB.out⟩
     ·cases neg
      ·have HF : Hid (V = false) := vv (by rw [HV.out, HE.out, HO.out]; simp [HZ.out rfl, HK.out])
       go_wp2
       go_ret
       exact ⟨retI (by rw [HF.out]; rfl), HB.out⟩
      ·by_cases hp : p = 0
       ·have tp : ((p : Int) == 0) = true := by rw [hp]; rfl
        have HP := vv hp
        clear hp
        ·have HF : Hid (V = true) := vv (by rw [HV.out, HE.out, HO.out]; simp [HP.out, HK.out])
         go_wp2
         go_ret
         exact ⟨retI (by rw [HF.out]; rfl), HB.out⟩
       ·have tp : ((p : Int) == 0) = false := by rw [beq_eq_false_iff_ne]; omega
        have HP := vv hp
        clear hp
        ·have HF : Hid (V = false) := vv (by rw [HV.out, HE.out, HO.out]; simp [HP.out, HK.out])
         go_wp2
         go_ret
         exact ⟨retI (by rw [HF.out]; rfl), HB.out⟩
   ·have HK := vv hk
    have t1 : ((kind : Int) == 1) = false := by rw [beq_eq_false_iff_ne]; omega
    have t2 : ((kind : Int) == 2) = false := by rw [beq_eq_false_iff_ne]; omega
    have t3 : ((kind : Int) == 3) = true := by rw [hk]; rfl
    clear hk
    ·have HF : Hid (V = false) := vv (by rw [HV.out, HE.out, HO.out]; simp [HK.out])
     go_wp2
     go_ret
     exact ⟨retI (by rw [HF.out]; rfl), HB0.out⟩
   ·have HK := vv hk
    have t1 : ((kind : Int) == 1) = false := by rw [beq_eq_false_iff_ne]; omega
    have t2 : ((kind : Int) == 2) = false := by rw [beq_eq_false_iff_ne]; omega
    have t3 : ((kind : Int) == 3) = false := by rw [beq_eq_false_iff_ne]; omega
    have t4 : ((kind : Int) == 4) = true := by rw [hk]; rfl
    clear hk
    ·have HF : Hid (V = false) := vv (by rw [HV.out, HE.out, HO.out]; simp [HK.out])
     go_wp2
     go_ret
     exact ⟨retI (by rw [HF.out]; rfl), HB0.out⟩
   ·have t1 : ((kind : Int) == 1) = false := by rw [beq_eq_false_iff_ne]; omega
    have t2 : ((kind : Int) == 2) = false := by rw [beq_eq_false_iff_ne]; omega
    have t3 : ((kind : Int) == 3) = false := by rw [beq_eq_false_iff_ne]; omega
    have t4 : ((kind : Int) == 4) = false := by rw [beq_eq_false_iff_ne]; omega
    ·have HF : Hid (V = false) := vv (by rw [HV.out, HE.out, HO.out]; simp [q1, q2, q3, q4])
     go_wp2
     go_ret
     exact ⟨retI (by rw [HF.out]; rfl), HB0.out⟩
  ·have hxe : hx = 0 := by rw [beq_iff_eq] at th; exact th
   cases hneg
   ·have HO : Hid (nn = true) := vv (by rw [HO.out]; unfold R11.noTwoB; rw [decide_eq_true hn, decide_eq_true hxe]; rfl)
    clear hxe hn
    rcases (by omega : kind = 1 \/ kind = 2 \/ kind = 3 \/ kind = 4 \/ (kind ≠ 1 /\ kind ≠ 2 /\ kind ≠ 3 /\ kind ≠ 4)) with hk | hk | hk | hk | ⟨q1, q2, q3, q4⟩
    ·have HK := vv hk
     have t1 : ((kind : Int) == 1) = true := by rw [hk]; rfl
     clear hk
     go_wp2_with fail
     rw [<- HW0.out]
     refine (HD.out _).mono ?_
     rintro e w1 ⟨rfl, hB1⟩
     have HN := vv (HN.out.below hB1)
     have HB := vn HB hB1
     clear hB1 c0 c1 c2 c3 c4 c5 c6 c7 c8 cl
     obtain ⟨c0, c1, c2, c3, c4, c5, c6, c7, c8, cl⟩ := HN.out
     cases dec
     ·have HF : Hid (V = false) := vv (by rw [HV.out, HE.out, HO.out]; simp [HK.out])
      go_wp2
      go_ret
      exact ⟨retI (by rw [HF.out]; rfl), HB.out⟩
     ·cases neg
      ·by_cases hp : p = 0
       ·have tp : ((p : Int) == 0) = true := by rw [hp]; rfl
        have HP := vv hp
        clear hp
        ·have HF : Hid (V = true) := vv (by rw [HV.out, HE.out, HO.out]; simp [HP.out, HK.out])
         go_wp2
         go_ret
         exact ⟨retI (by rw [HF.out]; rfl), HB.out⟩
       ·have tp : ((p : Int) == 0) = false := by rw [beq_eq_false_iff_ne]; omega
        have HP := vv hp
        clear hp
        ·have HF : Hid (V = false) := vv (by rw [HV.out, HE.out, HO.out]; simp [HP.out, HK.out])
         go_wp2
         go_ret
         exact ⟨retI (by rw [HF.out]; rfl), HB.out⟩
      ·have HF : Hid (V = false) := vv (by rw [HV.out, HE.out, HO.out]; simp [HK.out])
       go_wp2
       go_ret
       exact ⟨retI (by rw [HF.out]; rfl), HB.out⟩
    ·have HK := vv hk
     have t1 : ((kind : Int) == 1) = false := by rw [beq_eq_false_iff_ne]; omega
     have t2 : ((kind : Int) == 2) = true := by rw [hk]; rfl
     clear hk
     go_wp2_with fail
     rw [<- HW0.out]
     refine (HT.out _ HB.out).mono ?_
     rintro e w1 ⟨rfl, hB1⟩
     have HN := vv (HN.out.below hB1)
     have HB := vn HB hB1
     clear hB1 c0 c1 c2 c3 c4 c5 c6 c7 c8 cl
     obtain ⟨c0, c1, c2, c3, c4, c5, c6, c7, c8, cl⟩ := HN.out
     cases two
     ·have HF : Hid (V = false) := vv (by rw [HV.out, HE.out, HO.out]; simp [HK.out])
      go_wp2
      go_ret
      exact ⟨retI (by rw [HF.out]; rfl), HB.out⟩
     ·by_cases hp : p = 0
      ·have tp : ((p : Int) == 0) = true := by rw [hp]; rfl
       have HP := vv hp
       clear hp
       ·have HF : Hid (V = true) := vv (by rw [HV.out, HE.out, HO.out]; simp [HP.out, HNn.out, HK.out])
        go_wp2
        go_ret
        exact ⟨retI (by rw [HF.out]; rfl), HB.out⟩
      ·have tp : ((p : Int) == 0) = false := by rw [beq_eq_false_iff_ne]; omega
       have HP := vv hp
       clear hp
       ·have HF : Hid (V = false) := vv (by rw [HV.out, HE.out, HO.out]; simp [HP.out, HK.out])
        go_wp2
        go_ret
        exact ⟨retI (by rw [HF.out]; rfl), HB.out⟩
    ·have HK := vv hk
     have t1 : ((kind : Int) == 1) = false := by rw [beq_eq_false_iff_ne]; omega
     have t2 : ((kind : Int) == 2) = false := by rw [beq_eq_false_iff_ne]; omega
     have t3 : ((kind : Int) == 3) = true := by rw [hk]; rfl
     clear hk
     ·by_cases hp : p = 0
      ·have tp : ((p : Int) == 0) = true := by rw [hp]; rfl
       have HP := vv hp
       clear hp
       ·have HF : Hid (V = true) := vv (by rw [HV.out, HE.out, HO.out]; simp [HP.out, HK.out])
        go_wp2
        go_ret
        exact ⟨retI (by rw [HF.out]; rfl), HB0.out⟩
      ·have tp : ((p : Int) == 0) = false := by rw [beq_eq_false_iff_ne]; omega
       have HP := vv hp
       clear hp
       ·have HF : Hid (V = false) := vv (by rw [HV.out, HE.out, HO.out]; simp [HP.out, HK.out])
        go_wp2
        go_ret
        exact ⟨retI (by rw [HF.out]; rfl), HB0.out⟩
    ·have HK := vv hk
     have t1 : ((kind : Int) == 1) = false := by rw [beq_eq_false_iff_ne]; omega
     have t2 : ((kind : Int) == 2) = false := by rw [beq_eq_false_iff_ne]; omega
     have t3 : ((kind : Int) == 3) = false := by rw [beq_eq_false_iff_ne]; omega
     have t4 : ((kind : Int) == 4) = true := by rw [hk]; rfl
     clear hk
     ·by_cases hp : p <= 2251799813685247
      ·have tp : decide ((p : Int) <= 2251799813685247) = true := decide_eq_true (by omega)
       have HP := vv hp
       clear hp
       ·have HF : Hid (V = true) := vv (by rw [HV.out, HE.out, HO.out]; simp [HP.out, HK.out])
        go_wp2
        go_ret
        exact ⟨retI (by rw [HF.out]; rfl), HB0.out⟩
      ·have tp : decide ((p : Int) <= 2251799813685247) = false := decide_eq_false (by omega)
       have HP := vv hp
       clear hp
       ·have HF : Hid (V = false) := vv (by rw [HV.out, HE.out, HO.out]; simp [HP.out, HK.out])
        go_wp2
        go_ret
        exact ⟨retI (by rw [HF.out]; rfl), HB0.out⟩
    ·have t1 : ((kind : Int) == 1) = false := by rw [beq_eq_false_iff_ne]; omega
     have t2 : ((kind : Int) == 2) = false := by rw [beq_eq_false_iff_ne]; omega
     have t3 : ((kind : Int) == 3) = false := by rw [beq_eq_false_iff_ne]; omega
     have t4 : ((kind : Int) == 4) = false := by rw [beq_eq_false_iff_ne]; omega
     ·have HF : Hid (V = false) := vv (by rw [HV.out, HE.out, HO.out]; simp [q1, q2, q3, q4])
      go_wp2
      go_ret
      exact ⟨retI (by rw [HF.out]; rfl), HB0.out⟩
   ·have HO : Hid (nn = false) := vv (by rw [HO.out]; unfold R11.noTwoB; simp)
    have HZ : Hid (two = true -> n ≠ 0) := vv (fun ht _ => by rw [HTq.out] at ht; exact absurd (twoOk_zero ht hn).2 (by decide))
    clear hn hxe
    rcases (by omega : kind = 1 \/ kind = 2 \/ kind = 3 \/ kind = 4 \/ (kind ≠ 1 /\ kind ≠ 2 /\ kind ≠ 3 /\ kind ≠ 4)) with hk | hk | hk | hk | ⟨q1, q2, q3, q4⟩
    ·have HK := vv hk
     have t1 : ((kind : Int) == 1) = true := by rw [hk]; rfl
     clear hk
     go_wp2_with fail
     rw [<- HW0.out]
     refine (HD.out _).mono ?_
     rintro e w1 ⟨rfl, hB1⟩
     have HN := vv (HN.out.below hB1)
     have HB := vn HB hB1
     clear hB1 c0 c1 c2 c3 c4 c5 c6 c7 c8 cl
     obtain ⟨c0, c1, c2, c3, c4, c5, c6, c7, c8, cl⟩ := HN.out
     cases dec
     ·have HF : Hid (V = false) := vv (by rw [HV.out, HE.out, HO.out]; simp [HK.out])
      go_wp2
      go_ret
      exact ⟨retI (by rw [HF.out]; rfl), HB.out⟩
     ·cases neg
      ·have HF : Hid (V = false) := vv (by rw [HV.out, HE.out, HO.out]; simp [HK.out])
       go_wp2
       go_ret
       exact ⟨retI (by rw [HF.out]; rfl), HB.out⟩
      ·have HF : Hid (V = false) := vv (by rw [HV.out, HE.out, HO.out]; simp [HK.out])
       go_wp2
       go_ret
       exact ⟨retI (by rw [HF.out]; rfl), HB.out⟩
    ·have HK := vv hk
     have t1 : ((kind : Int) == 1) = false := by rw [beq_eq_false_iff_ne]; omega
     have t2 : ((kind : Int) == 2) = true := by rw [hk]; rfl
     clear hk
     go_wp2_with fail
     rw [<- HW0.out]
     refine (HT.out _ HB.out).mono ?_
     rintro e w1 ⟨rfl, hB1⟩
     have HN := vv (HN.out.below hB1)
     have HB := vn HB hB1
     clear hB1 c0 c1 c2 c3 c4 c5 c6 c7 c8 cl
     obtain ⟨c0, c1, c2, c3, c4, c5, c6, c7, c8, cl⟩ := HN.out
     cases two
     ·have HF : Hid (V = false) := vv (by rw [HV.out, HE.out, HO.out]; simp [HK.out])
      go_wp2
      go_ret
      exact ⟨retI (by rw [HF.out]; rfl), HB.out⟩
     ·cases neg
      ·have HF : Hid (V = false) := vv (by rw [HV.out, HE.out, HO.out]; simp [HZ.out rfl, HK.out])
       go_wp2
       go_ret
       exact ⟨retI (by rw [HF.out]; rfl), HB.out⟩
      ·by_cases hp : p = 0
       ·have tp : ((p : Int) == 0) = true := by rw [hp]; rfl
        have HP := vv hp
        clear hp
        ·have HF : Hid (V = true) := vv (by rw [HV.out, HE.out, HO.out]; simp [HP.out, HK.out])
         go_wp2
         go_ret
         exact ⟨retI (by rw [HF.out]; rfl), HB.out⟩
       ·have tp : ((p : Int) == 0) = false := by rw [beq_eq_false_iff_ne]; omega
        have HP := vv hp
        clear hp
        ·have HF : Hid (V = false) := vv (by rw [HV.out, HE.out, HO.out]; simp [HP.out, HK.out])
         go_wp2
         go_ret
         exact ⟨retI (by rw [HF.out]; rfl), HB.out⟩
    ·have HK := vv hk
     have t1 : ((kind : Int) == 1) = false := by rw [beq_eq_false_iff_ne]; omega
     have t2 : ((kind : Int) == 2) = false := by rw [beq_eq_false_iff_ne]; omega
     have t3 : ((kind : Int) == 3) = true := by rw [hk]; rfl
     clear hk
     ·have HF : Hid (V = false) := vv (by rw [HV.out, HE.out, HO.out]; simp [HK.out])
      go_wp2
      go_ret
      exact ⟨retI (by rw [HF.out]; rfl), HB0.out⟩
    ·have HK := vv hk
     have t1 : ((kind : Int) == 1) = false := by rw [beq_eq_false_iff_ne]; omega
     have t2 : ((kind : Int) == 2) = false := by rw [beq_eq_false_iff_ne]; omega
     have t3 : ((kind : Int) == 3) = false := by rw [beq_eq_false_iff_ne]; omega
     have t4 : ((kind : Int) == 4) = true := by rw [hk]; rfl
     clear hk
     ·have HF : Hid (V = false) := vv (by rw [HV.out, HE.out, HO.out]; simp [HK.out])
      go_wp2
      go_ret
      exact ⟨retI (by rw [HF.out]; rfl), HB0.out⟩
    ·have t1 : ((kind : Int) == 1) = false := by rw [beq_eq_false_iff_ne]; omega
     have t2 : ((kind : Int) == 2) = false := by rw [beq_eq_false_iff_ne]; omega
     have t3 : ((kind : Int) == 3) = false := by rw [beq_eq_false_iff_ne]; omega
     have t4 : ((kind : Int) == 4) = false := by rw [beq_eq_false_iff_ne]; omega
     ·have HF : Hid (V = false) := vv (by rw [HV.out, HE.out, HO.out]; simp [q1, q2, q3, q4])
      go_wp2
      go_ret
      exact ⟨retI (by rw [HF.out]; rfl), HB0.out⟩
 ·have tn : ((n : Int) == 0) = false := by rw [beq_eq_false_iff_ne]; omega
  have HO : Hid (nn = false) := vv (by rw [HO.out]; unfold R11.noTwoB; rw [decide_eq_false hn]; rfl)
  have HZ : Hid (two = true -> n ≠ 0) := vv (fun _ => hn)
  clear hn
  rcases (by omega : kind = 1 \/ kind = 2 \/ kind = 3 \/ kind = 4 \/ (kind ≠ 1 /\ kind ≠ 2 /\ kind ≠ 3 /\ kind ≠ 4)) with hk | hk | hk | hk | ⟨q1, q2, q3, q4⟩
  ·have HK := vv hk
   have t1 : ((kind : Int) == 1) = true := by rw [hk]; rfl
   clear hk
   go_wp2_with fail
   rw [<- HW0.out]
   refine (HD.out _).mono ?_
   rintro e w1 ⟨rfl, hB1⟩
   have HN := vv (HN.out.below hB1)
   have HB := vn HB hB1
   clear hB1 c0 c1 c2 c3 c4 c5 c6 c7 c8 cl
   obtain ⟨c0, c1, c2, c3, c4, c5, c6, c7, c8, cl⟩ := HN.out
   cases dec
   ·have HF : Hid (V = false) := vv (by rw [HV.out, HE.out, HO.out]; simp [HK.out])
    go_wp2
    go_ret
    exact ⟨retI (by rw [HF.out]; rfl), HB.out⟩
   ·cases neg
    ·have HF : Hid (V = false) := vv (by rw [HV.out, HE.out, HO.out]; simp [HK.out])
     go_wp2
     go_ret
     exact ⟨retI (by rw [HF.out]; rfl), HB.out⟩
    ·have HF : Hid (V = false) := vv (by rw [HV.out, HE.out, HO.out]; simp [HK.out])
     go_wp2
     go_ret
     exact ⟨retI (by rw [HF.out]; rfl), HB.out⟩
  ·have HK := vv hk
   have t1 : ((kind : Int) == 1) = false := by rw [beq_eq_false_iff_ne]; omega
   have t2 : ((kind : Int) == 2) = true := by rw [hk]; rfl
   clear hk
   go_wp2_with fail
   rw [<- HW0.out]
   refine (HT.out _ HB.out).mono ?_
   rintro e w1 ⟨rfl, hB1⟩
   have HN := vv (HN.out.below hB1)
   have HB := vn HB hB1
   clear hB1 c0 c1 c2 c3 c4 c5 c6 c7 c8 cl
   obtain ⟨c0, c1, c2, c3, c4, c5, c6, c7, c8, cl⟩ := HN.out
   cases two
   ·have HF : Hid (V = false) := vv (by rw [HV.out, HE.out, HO.out]; simp [HK.out])
    go_wp2
    go_ret
    exact ⟨retI (by rw [HF.out]; rfl), HB.out⟩
   ·cases hneg
    ·cases neg
     ·by_cases hp : p = 0
      ·have tp : ((p : Int) == 0) = true := by rw [hp]; rfl
       have HP := vv hp
       clear hp
       ·have HF : Hid (V = true) := vv (by rw [HV.out, HE.out, HO.out]; simp [HP.out, HK.out])
        go_wp2
        go_ret
        exact ⟨retI (by rw [HF.out]; rfl), HB.out⟩
      ·have tp : ((p : Int) == 0) = false := by rw [beq_eq_false_iff_ne]; omega
       have HP := vv hp
       clear hp
       ·have HF : Hid (V = false) := vv (by rw [HV.out, HE.out, HO.out]; simp [HP.out, HK.out])
        go_wp2
        go_ret
        exact ⟨retI (by rw [HF.out]; rfl), HB.out⟩
     ·have HF : Hid (V = false) := vv (by rw [HV.out, HE.out, HO.out]; simp [HZ.out rfl, HK.out])
      go_wp2
      go_ret
      exact ⟨retI (by rw [HF.out]; rfl), HB.out⟩
    ·cases neg
     ·have HF : Hid (V = false) := vv (by rw [HV.out, HE.out, HO.out]; simp [HZ.out rfl, HK.out])
      go_wp2
      go_ret
      exact ⟨retI (by rw [HF.out]; rfl), HB.out⟩
     ·by_cases hp : p = 0
      ·have tp : ((p : Int) == 0) = true := by rw [hp]; rfl
       have HP := vv hp
       clear hp
       ·have HF : Hid (V = true) := vv (by rw [HV.out, HE.out, HO.out]; simp [HP.out, HK.out])
        go_wp2
        go_ret
        exact ⟨retI (by rw [HF.out]; rfl), HB.out⟩
      ·have tp : ((p : Int) == 0) = false := by rw [beq_eq_false_iff_ne]; omega
       have HP := vv hp
       clear hp
       ·have HF : Hid (V = false) := vv (by rw [HV.out, HE.out, HO.out]; simp [HP.out, HK.out])
        go_wp2
        go_ret
        exact ⟨retI (by rw [HF.out]; rfl), HB.out⟩
  ·have HK := vv hk
   have t1 : ((kind : Int) == 1) = false := by rw [beq_eq_false_iff_ne]; omega
   have t2 : ((kind : Int) == 2) = false := by rw [beq_eq_false_iff_ne]; omega
   have t3 : ((kind : Int) == 3) = true := by rw [hk]; rfl
   clear hk
   ·have HF : Hid (V = false) := vv (by rw [HV.out, HE.out, HO.out]; simp [HK.out])
    go_wp2
    go_ret
    exact ⟨retI (by rw [HF.out]; rfl), HB0.out⟩
  ·have HK := vv hk
   have t1 : ((kind : Int) == 1) = false := by rw [beq_eq_false_iff_ne]; omega
   have t2 : ((kind : Int) == 2) = false := by rw [beq_eq_false_iff_ne]; omega
   have t3 : ((kind : Int) == 3) = false := by rw [beq_eq_false_iff_ne]; omega
   have t4 : ((kind : Int) == 4) = true := by rw [hk]; rfl
   clear hk
   ·have HF : Hid (V = false) := vv (by rw [HV.out, HE.out, HO.out]; simp [HK.out])
    go_wp2
    go_ret
    exact ⟨retI (by rw [HF.out]; rfl), HB0.out⟩
  ·have t1 : ((kind : Int) == 1) = false := by rw [beq_eq_false_iff_ne]; omega
   have t2 : ((kind : Int) == 2) = false := by rw [beq_eq_false_iff_ne]; omega
   have t3 : ((kind : Int) == 3) = false := by rw [beq_eq_false_iff_ne]; omega
   have t4 : ((kind : Int) == 4) = false := by rw [beq_eq_false_iff_ne]; omega
   ·have HF : Hid (V = false) := vv (by rw [HV.out, HE.out, HO.out]; simp [q1, q2, q3, q4])
    go_wp2
    go_ret
    exact ⟨retI (by rw [HF.out]; rfl), HB0.out⟩
end Go.Proofs.YtbfmpcfcmbjeeaaGreatDoor.Lex
