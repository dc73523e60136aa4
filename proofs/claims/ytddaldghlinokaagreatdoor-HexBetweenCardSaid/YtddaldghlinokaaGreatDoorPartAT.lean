/- Lemmas. -/
import Derived.Test.YtddaldghlinokaaGreatDoorPartAJ
import Derived.Test.YtddaldghlinokaaGreatDoorPartAS
import Derived.Deep.RegionWith
set_option linter.all false
namespace Go.Proofs.YtddaldghlinokaaGreatDoor.B
open Go Go.RowKit
end Go.Proofs.YtddaldghlinokaaGreatDoor.B
namespace Go.Proofs.YtddaldghlinokaaGreatDoor.A
open Go Go.RowKit
theorem set_ (g o : Nat) (v u : Int) (b : Bool) (A : Option Addr) (n c : Nat) (xs : List Nat) (w : World) (h : IntAt w g o v) (hr : Rd w A n c xs) (hz : ∀ a, A = some a -> a.off = 0)
  (hu : u.natAbs = val xs) (hb : decide (u < 0) = (b && decide (0 < val xs))) :
  Calls Tryz.prog 247 #[.pointer (some ⟨g, o, none⟩), .bool b, .slice A n c] w (SetPost g o u w) := by
 have hsm := hr.sm
 have HT := vv (trim A n c xs w hr)
 have HI := vv h
 have hlt := h.lt
 have hf0 := h.fz o
 have hf1 := h.fz (o + 1)
 obtain ⟨A', n', c', h0, h1, hr', hz'⟩ := h.ex
 have HU := vv hu
 have HB := vv hb
 clear h hr hr' hz' hu hb
 go_enter Tryz.func247, Tryz.ntmps247
 go_wp2_with fail
 refine HT.out.mono ?_
 rintro e w' ⟨m, rfl, rfl, hR⟩
 have hms := hR.sm
 have hme : m = 0 ↔ val xs = 0 := by rw [<- hR.words]; exact words_eq_zero
 have HR := vv hR
 clear hR HT hsm
 cases b
 ·have HF : Hid (decide (u < 0) = false) := vv (by rw [HB.out]; rfl)
  clear hme
  go_wp2
  go_ret
  exact ⟨rfl, HI.out.put HF.out.symm (by rw [HU.out]; exact HR.out) hz, put_fm _ _ _ _ _⟩
 ·have HF : Hid (decide (u < 0) = decide (0 < m)) := vv (by rw [HB.out, Bool.true_and]; by_cases h : m = 0 <;> simp <;> omega)
  clear hme
  go_wp2
  go_ret
  exact ⟨rfl, HI.out.put HF.out.symm (by rw [HU.out]; exact HR.out) hz, put_fm _ _ _ _ _⟩
theorem set_of (g o : Nat) (v u : Int) (b : Bool) (A : Option Addr) (n c N : Nat) (w : World) (h : IntAt w g o v) (hr : Rd w A n c (toL N)) (hf : ∀ a, A = some a -> a.off = 0)
  (hu : u.natAbs = N) (hb : decide (u < 0) = (b && decide (0 < N))) :
  Calls Tryz.prog 247 #[.pointer (some ⟨g, o, none⟩), .bool b, .slice A n c] w (SetPost g o u w) :=
 set_ g o v u b A n c (toL N) w h hr hf (by rw [val_toL]; exact hu) (by rw [val_toL]; exact hb)
theorem Set (g o gx ox : Nat) (v u : Int) (w : World) (h : IntAt w g o v) (hx : IntAt w gx ox u) :
  Calls Tryz.prog 257 #[.pointer (some ⟨g, o, none⟩), .pointer (some ⟨gx, ox, none⟩)] w (SetPost g o u w) := by
 have HI := vv h
 have hlt := hx.lt
 obtain ⟨A, n, c, h0, h1, hr, hz⟩ := hx.ex
 have HR := vv hr.drew
 have HZ := vv hz
 clear hr hz h hx
 go_enter Tryz.func257, Tryz.ntmps257
 go_wp2_with fail
 go_region_with (first
  | (go_at_call 248; (with_reducible refine (copied _ _ _ _ _ HR.out).mono ?_); rintro e w1 ⟨rfl, hO, hB⟩; have HO1 : Hid (Rd w1 (some ⟨w.heap.size, 0, none⟩) n n (toL u.natAbs)) := vv (hO.rd HR.out.len.symm (Nat.le_refl _) HR.out.sm); have h0' := (hB.cell (p := ⟨gx, ox, none⟩) hlt).trans h0)
  | (go_at_call 247; (with_reducible refine (set_of g o v u _ _ n n u.natAbs _ (HI.out.drew.below hB) HO1.out (fun a e => by cases e; rfl) rfl (sg_same u)).mono ?_); rintro e w2 ⟨rfl, hI, hF⟩))
 all_goals
  go_wp2
  go_ret
  exact ⟨rfl, hI, ((Fm.of_below hB HI.out.lt).trans hF).undrew⟩
theorem Abs (g o gx ox : Nat) (v u : Int) (w : World) (h : IntAt w g o v) (hx : IntAt w gx ox u) :
  Calls Tryz.prog 258 #[.pointer (some ⟨g, o, none⟩), .pointer (some ⟨gx, ox, none⟩)] w (SetPost g o (u.natAbs : Int) w) := by
 have HI := vv h
 have hlt := hx.lt
 obtain ⟨A, n, c, h0, h1, hr, hz⟩ := hx.ex
 have HR := vv hr
 clear hr hz h hx
 go_enter Tryz.func258, Tryz.ntmps258
 go_wp2_with fail
 refine (copied _ _ _ _ _ HR.out).mono ?_
 rintro e w1 ⟨rfl, hO, hB⟩
 have HO := vv hO
 clear hO
 go_wp2_with fail
 refine (set_of g o v (u.natAbs : Int) _ _ n n u.natAbs _ (HI.out.below hB) (HO.out.rd HR.out.len.symm (Nat.le_refl _) HR.out.sm) (fun a e => by cases e; rfl) rfl (sg_pos (by omega))).mono ?_
 rintro e w2 ⟨rfl, hI, hF⟩
 go_wp2
 go_ret
 exact ⟨rfl, hI, (Fm.of_below hB HI.out.lt).trans hF⟩
theorem Neg (g o gx ox : Nat) (v u : Int) (w : World) (h : IntAt w g o v) (hx : IntAt w gx ox u) :
  Calls Tryz.prog 159 #[.pointer (some ⟨g, o, none⟩), .pointer (some ⟨gx, ox, none⟩)] w (SetPost g o (-u) w) := by
 have HI := vv h
 have hlt := hx.lt
 obtain ⟨A, n, c, h0, h1, hr, hz⟩ := hx.ex
 have HR := vv hr.drew
 clear hr hz h hx
 go_enter Tryz.func159, Tryz.ntmps159
 go_wp2_with fail
 go_region_with (first
  | (go_at_call 248; (with_reducible refine (copied _ _ _ _ _ HR.out).mono ?_); rintro e w1 ⟨rfl, hO, hB⟩; have HO1 : Hid (Rd w1 (some ⟨w.heap.size, 0, none⟩) n n (toL u.natAbs)) := vv (hO.rd HR.out.len.symm (Nat.le_refl _) HR.out.sm); have h0' := (hB.cell (p := ⟨gx, ox, none⟩) hlt).trans h0)
  | (go_at_call 247; (with_reducible refine (set_of g o v (-u) _ _ n n u.natAbs _ (HI.out.drew.below hB) HO1.out (fun a e => by cases e; rfl) (Int.natAbs_neg u) (sg_neg u)).mono ?_); rintro e w2 ⟨rfl, hI, hF⟩))
 all_goals
  go_wp2
  go_ret
  exact ⟨rfl, hI, ((Fm.of_below hB HI.out.lt).trans hF).undrew⟩
theorem SetWords (g o : Nat) (v : Int) (A : Option Addr) (n c : Nat) (xs : List Nat) (w : World) (h : IntAt w g o v) (hr : Rd w A n c xs) :
  Calls Tryz.prog 309 #[.pointer (some ⟨g, o, none⟩), .slice A n c] w (SetPost g o (val xs : Int) w) := by
 have HI := vv h
 have HR := vv hr
 clear hr h
 go_enter Tryz.func309, Tryz.ntmps309
 go_wp2_with fail
 refine (copied _ _ _ _ _ HR.out).mono ?_
 rintro e w1 ⟨rfl, hO, hB⟩
 have HO := vv hO
 clear hO
 go_wp2_with fail
 refine (set_ g o v (val xs : Int) _ _ n n xs _ (HI.out.below hB) (HO.out.rd HR.out.len.symm (Nat.le_refl _) HR.out.sm) (fun a e => by cases e; rfl) rfl (sg_pos (by omega))).mono ?_
 rintro e w2 ⟨rfl, hI, hF⟩
 go_wp2
 go_ret
 exact ⟨rfl, hI, (Fm.of_below hB HI.out.lt).trans hF⟩
theorem SetInt64 (g o : Nat) (v x : Int) (w : World) (h : IntAt w g o v) (h1 : -9223372036854775808 <= x) (h2 : x <= 9223372036854775807) :
  Calls Tryz.prog 212 #[.pointer (some ⟨g, o, none⟩), .int .i64 x] w (SetPost g o x w) := by
 have HI := vv h
 clear h
 rcases Int.lt_or_le x 0 with hx | hx
 ·obtain ⟨k, hk⟩ : ∃ k : Nat, k = x.natAbs := ⟨_, rfl⟩
  have hk2 : k < 18446744073709551616 := by omega
  have e1 : IntKind.u64.wrap (-IntKind.u64.wrap x) = (k : Int) := by rw [IntKind.wrap_u64, IntKind.wrap_u64]; omega
  have e2 : IntKind.u64.wrap (-(x % 18446744073709551616)) = (k : Int) := by rw [IntKind.wrap_u64]; omega
  have HF := vv (fromUint k w hk2)
  have HK := vv hk
  clear hk hk2
  go_enter Tryz.func212, Tryz.ntmps212
  go_wp2_with fail
  refine HF.out.mono ?_
  rintro e w1 ⟨A, m, c, rfl, hR, hFr, hB⟩
  have HR := vv hR
  clear hR
  go_wp2_with fail
  refine (set_of g o v x _ A m c k _ (HI.out.below hB) HR.out (fun a e => (hFr a e).2) HK.out.symm (by have := HK.out; simp; omega)).mono ?_
  rintro e w2 ⟨rfl, hI, hF⟩
  go_wp2
  go_ret
  exact ⟨rfl, hI, (Fm.of_below hB HI.out.lt).trans hF⟩
 ·obtain ⟨k, rfl⟩ : ∃ k : Nat, x = k := ⟨x.toNat, by omega⟩
  have HF := vv (fromUint k w (by omega))
  go_enter Tryz.func212, Tryz.ntmps212
  go_wp2_with fail
  refine HF.out.mono ?_
  rintro e w1 ⟨A, m, c, rfl, hR, hFr, hB⟩
  have HR := vv hR
  clear hR
  go_wp2_with fail
  refine (set_of g o v k _ A m c k _ (HI.out.below hB) HR.out (fun a e => (hFr a e).2) rfl (sg_pos (by omega))).mono ?_
  rintro e w2 ⟨rfl, hI, hF⟩
  go_wp2
  go_ret
  exact ⟨rfl, hI, (Fm.of_below hB HI.out.lt).trans hF⟩
theorem Sign (g o : Nat) (u : Int) (w : World) (h : IntAt w g o u) :
  Calls Tryz.prog 172 #[.pointer (some ⟨g, o, none⟩)] w fun e w' => e = .returned (.int .i64 u.sign) /\ w = w' := by
 have hlt := h.lt
 obtain ⟨A, n, c, h0, h1, hr, hz⟩ := h.ex
 have hn : n = 0 ↔ u = 0 := by rw [<- hr.words, words_eq_zero]; omega
 have hsm := hr.sm
 clear hr hz h
 rcases Int.lt_trichotomy u 0 with hu | hu | hu
 ·have hd : decide (u < 0) = true := decide_eq_true hu
  have e1 : ((n : Int) == 0) = false := by simp; omega
  have HS := vv (Int.sign_eq_neg_one_of_neg hu)
  rw [hd] at h0
  clear hn hu hd
  go_enter Tryz.func172, Tryz.ntmps172
  go_wp2
  go_ret
  exact ⟨retI HS.out.symm, rfl⟩
 ·obtain rfl : n = 0 := hn.2 hu
  subst hu
  clear hn
  go_enter Tryz.func172, Tryz.ntmps172
  go_wp2
  go_ret
  exact ⟨rfl, rfl⟩
 ·have hd : decide (u < 0) = false := decide_eq_false (by omega)
  have e1 : ((n : Int) == 0) = false := by simp; omega
  have HS := vv (Int.sign_eq_one_of_pos hu)
  rw [hd] at h0
  clear hn hu hd
  go_enter Tryz.func172, Tryz.ntmps172
  go_wp2
  go_ret
  exact ⟨retI HS.out.symm, rfl⟩
theorem BitLen (g o : Nat) (u : Int) (w : World) (h : IntAt w g o u) :
  Calls Tryz.prog 114 #[.pointer (some ⟨g, o, none⟩)] w fun e w' => e = .returned (.int .i64 ((bl u.natAbs : Nat) : Int)) /\ w = w' := by
 have hlt := h.lt
 obtain ⟨A, n, c, h0, h1, hr, hz⟩ := h.ex
 have HB := vv (bitLen _ _ _ _ _ hr)
 clear hr hz h h0
 go_enter Tryz.func114, Tryz.ntmps114
 go_wp2_with fail
 refine HB.out.mono ?_
 rintro e w' ⟨rfl, rfl⟩
 go_wp2
 go_ret
 exact ⟨rfl, rfl⟩
end Go.Proofs.YtddaldghlinokaaGreatDoor.A
