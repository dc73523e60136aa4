/- Lemmas. -/
import Derived.Test.YtddaldghlinokaaGreatDoorPartAU
import Derived.Laws.AppendOwn
import Derived.Maps.AppendAt
set_option linter.all false
namespace Go.Proofs.YtddaldghlinokaaGreatDoor
open Go Go.RowKit
end Go.Proofs.YtddaldghlinokaaGreatDoor
namespace Go.Proofs.YtddaldghlinokaaGreatDoor.R1
open Go Go.RowKit
end Go.Proofs.YtddaldghlinokaaGreatDoor.R1
namespace Go.Proofs.YtddaldghlinokaaGreatDoor
open Go Go.RowKit
def dv (l : List UInt8) : Nat := l.foldl (fun a c => 10 * a + (c.toNat - 48)) 0
def Digs (s : ByteArray) : Prop := ∀ k (h : k < s.size), 48 <= s[k].toNat /\ s[k].toNat <= 57
def dvk (s : ByteArray) (k : Nat) : Nat := dv (s.data.toList.take k)
def dvm (s : ByteArray) (i j : Nat) : Nat := dv ((s.data.toList.drop i).take j)
theorem dvm_zero (s : ByteArray) (i : Nat) : dvm s i 0 = 0 := rfl
def tn (j : Nat) : Nat := 10 ^ j
structure NatCell (w : World) (g : Nat) : Prop where
 c0 : w.cell? ⟨g, 0, none⟩ = some (.slice none 0 0)
 fz : w.frozen? ⟨g, 0, none⟩ = false
 lt : g < w.heap.size
theorem NatCell.made (w : World) (t : TypeId) : NatCell (w.alloc (.cells #[.slice none 0 0] t)) w.heap.size :=
 ⟨by simp only [World.cell?]; rw [heap_alloc_new]; rfl, by simp only [World.frozen?]; rw [heap_alloc_new]; simp, by simp⟩
theorem NatCell.below {w w' : World} {g : Nat} (h : NatCell w g) (hb : Below w.heap.size w w') : NatCell w' g :=
 ⟨(hb.cell (p := ⟨g, 0, none⟩) h.lt).trans h.c0, (hb.frozen (p := ⟨g, 0, none⟩) h.lt).trans h.fz, Nat.lt_of_lt_of_le h.lt hb.size⟩
theorem Rd.other {w : World} {A : Option Addr} {n c : Nat} {xs : List Nat} (h : Rd w A n c xs) (g o : Nat) (v : Value) (hf : ∀ a, A = some a -> a.block ≠ g) : Rd (w.setCell ⟨g, o, none⟩ v) A n c xs :=
 h.fm (Fm.set0 (g := g) (o := o) w v (.inl rfl)) (fun _ => hf)
end Go.Proofs.YtddaldghlinokaaGreatDoor
namespace Go.Proofs.YtddaldghlinokaaGreatDoor.R1
open Go Go.RowKit
end Go.Proofs.YtddaldghlinokaaGreatDoor.R1
namespace Go.Proofs.YtddaldghlinokaaGreatDoor.R3
open Go Go.RowKit R5
def formOk (E F : Int) : Bool := decide (2 <= E) && decide (E <= 11) && decide (1 <= F) && decide (F <= 52)
def chk (E F : Int) : Int := if formOk E F then 0 else 5
theorem chk_ok {E F : Int} (h : formOk E F = true) : chk E F = 0 := if_pos h
theorem chk_no {E F : Int} (h : formOk E F = false) : chk E F = 5 := by unfold chk; rw [h]; rfl
theorem formOk_nat {E F : Int} (h : formOk E F = true) : ∃ e f : Nat, E = e /\ F = f /\ 2 <= e /\ e <= 11 /\ 1 <= f /\ f <= 52 := by
 unfold formOk at h
 simp only [Bool.and_eq_true, decide_eq_true_eq] at h
 exact ⟨E.toNat, F.toNat, by omega, by omega, by omega, by omega, by omega, by omega⟩
def tw (j : Nat) : Nat := 2 ^ j
theorem tw_succ (j : Nat) : tw (j + 1) = tw j * 2 := by unfold tw; rw [Nat.pow_succ]
theorem tw_le {j k : Nat} (h : j <= k) : tw j <= tw k := Nat.pow_le_pow_right (by omega) h
theorem tw_pos (j : Nat) : 0 < tw j := Nat.two_pow_pos j
structure PartsBox (w : World) (g : Nat) (neg : Bool) (x f : Nat) : Prop where
 c0 : w.cell? ⟨g, 0, none⟩ = some (.bool neg)
 c1 : w.cell? ⟨g, 1, none⟩ = some (.int .i64 (x : Int))
 c2 : w.cell? ⟨g, 2, none⟩ = some (.int .u64 (f : Int))
 lt : g < w.heap.size
end Go.Proofs.YtddaldghlinokaaGreatDoor.R3
namespace Go.Proofs.YtddaldghlinokaaGreatDoor
open Go Go.RowKit
def digsB (s : ByteArray) : Bool := s.data.toList.all fun c => decide (48 <= c.toNat) && decide (c.toNat <= 57)
def byteAt (s : ByteArray) (k : Nat) : Nat := if h : k < s.size then s[k].toNat else 0
def decMay (s : ByteArray) (x : Int) : Bool :=
 decide (x <= 1073741824) && decide (-1073741824 <= x) && decide (s.size <= 65536) &&
  (if s.size = 0 then decide (x = 0) else digsB s && !decide (byteAt s 0 = 48) && !decide (byteAt s (s.size - 1) = 48))
structure DecBox (w : World) (g : Nat) (neg : Bool) (s : ByteArray) (x : Int) : Prop where
 c0 : w.cell? ⟨g, 0, none⟩ = some (.bool neg)
 c1 : w.cell? ⟨g, 1, none⟩ = some (.string s)
 c2 : w.cell? ⟨g, 2, none⟩ = some (.int .i64 x)
 lt : g < w.heap.size
abbrev decV (neg : Bool) (s : ByteArray) (x : Int) : Value := .agg #[.bool neg, .string s, .int .i64 x]
end Go.Proofs.YtddaldghlinokaaGreatDoor
namespace Go.Proofs.YtddaldghlinokaaGreatDoor.R11
open Go Go.RowKit R5
def noTwoB (neg : Bool) (n : Nat) (x : Int) : Bool := decide (n = 0) && decide (x = 0) && !neg
end Go.Proofs.YtddaldghlinokaaGreatDoor.R11
namespace Go.Proofs.YtddaldghlinokaaGreatDoor
open Go Go.RowKit
theorem str_some {s : ByteArray} (h : 0 < s.size) : s.toList.isEmpty = false := by
 rw [ByteArray.toList_eq]
 have e : s.data.toList.length = s.size := Array.length_toList
 cases hl : s.data.toList with
 | nil => rw [hl] at e; simp at e; omega
 | cons _ _ => rfl
end Go.Proofs.YtddaldghlinokaaGreatDoor
namespace Go.Proofs.YtddaldghlinokaaGreatDoor.R11
open Go Go.RowKit R5
end Go.Proofs.YtddaldghlinokaaGreatDoor.R11
namespace Go.Proofs.YtddaldghlinokaaGreatDoor
open Go Go.RowKit
abbrev numV (kind : Nat) (neg dneg : Bool) (s : ByteArray) (x : Int) (hneg : Bool) (A : Option Addr) (n c : Nat) (hx : Int) (p : Nat) : Value :=
 .agg #[.int .u8 (kind : Int), .bool neg, .bool dneg, .string s, .int .i64 x, .bool hneg, .slice A n c, .int .i64 hx, .int .u64 (p : Int)]
structure NumBox (w : World) (g : Nat) (kind : Nat) (neg dneg : Bool) (s : ByteArray) (x : Int) (hneg : Bool) (A : Option Addr) (n c : Nat) (hx : Int) (p : Nat) : Prop where
 c0 : w.cell? ⟨g, 0, none⟩ = some (.int .u8 (kind : Int))
 c1 : w.cell? ⟨g, 1, none⟩ = some (.bool neg)
 c2 : w.cell? ⟨g, 2, none⟩ = some (.bool dneg)
 c3 : w.cell? ⟨g, 3, none⟩ = some (.string s)
 c4 : w.cell? ⟨g, 4, none⟩ = some (.int .i64 x)
 c5 : w.cell? ⟨g, 5, none⟩ = some (.bool hneg)
 c6 : w.cell? ⟨g, 6, none⟩ = some (.slice A n c)
 c7 : w.cell? ⟨g, 7, none⟩ = some (.int .i64 hx)
 c8 : w.cell? ⟨g, 8, none⟩ = some (.int .u64 (p : Int))
 lt : g < w.heap.size
def emptyB (neg : Bool) (s : ByteArray) (x : Int) : Bool := !neg && s.toList.isEmpty && (x == 0)
def numOk (kind : Nat) (neg dneg : Bool) (s : ByteArray) (x : Int) (hneg : Bool) (n : Nat) (xs : List Nat) (hx : Int) (p : Nat) : Bool :=
 if kind = 1 then decMay s x && (dneg == neg) && R11.noTwoB hneg n hx && decide (p = 0)
 else if kind = 2 then R5.twoOk hneg n xs hx && emptyB dneg s x && decide (p = 0) && ((hneg == neg) || decide (n = 0))
 else if kind = 3 then emptyB dneg s x && R11.noTwoB hneg n hx && decide (p = 0)
 else if kind = 4 then emptyB dneg s x && R11.noTwoB hneg n hx && decide (p <= 2251799813685247)
 else false
def numErr (b : Bool) : Int := if b then 0 else 110
end Go.Proofs.YtddaldghlinokaaGreatDoor
namespace Go.Proofs.YtddaldghlinokaaGreatDoor.R11
open Go Go.RowKit R5
end Go.Proofs.YtddaldghlinokaaGreatDoor.R11
namespace Go.Proofs.YtddaldghlinokaaGreatDoor.R1
open Go Go.RowKit
theorem two_words (w : World) (x y : Nat) (hx : x < 4294967296) (hy : y < 4294967296) (t : TypeId) : Rd (w.alloc (.cells #[.int .u32 (x : Int), .int .u32 (y : Int)] t)) (some ⟨w.heap.size, 0, none⟩) 2 2 [x, y] /\ Below w.heap.size w (w.alloc (.cells #[.int .u32 (x : Int), .int .u32 (y : Int)] t)) :=
 ⟨(Own.lit (t := t) [x, y] (Lim_cons.2 ⟨hx, Lim_cons.2 ⟨hy, Lim_nil⟩⟩) (by simp [u32s])).rd rfl (Nat.le_refl _) (by omega), (Below.refl _ _).alloc (Nat.le_refl _) _⟩
end Go.Proofs.YtddaldghlinokaaGreatDoor.R1
namespace Go.Proofs.YtddaldghlinokaaGreatDoor.R11
open Go Go.RowKit R5
end Go.Proofs.YtddaldghlinokaaGreatDoor.R11
namespace Go.Proofs.YtddaldghlinokaaGreatDoor
open Go Go.RowKit R5
def decOut (E F : Nat) (neg : Bool) (s : ByteArray) (x : Int) (mode : Nat) : Nat × Nat :=
 signedS E F neg neg mode (dvk s s.size * t10 x) (t10 (-x))
def numAns (E F : Int) (kind : Nat) (neg dneg : Bool) (s : ByteArray) (x : Int) (hneg : Bool) (n : Nat) (xs : List Nat) (hx : Int) (p mode : Nat) : Nat × Nat × Nat :=
 if R3.formOk E F = false then (0, 0, 5)
 else if numOk kind neg dneg s x hneg n xs hx p = false then (0, 0, 110)
 else if 4 < mode then (0, 0, 7)
 else if kind = 1 then ((decOut E.toNat F.toNat dneg s x mode).1, (decOut E.toNat F.toNat dneg s x mode).2, 0)
 else if kind = 2 then ((signedS E.toNat F.toNat hneg neg mode (val xs * p2 hx) (p2 (-hx))).1, (signedS E.toNat F.toNat hneg neg mode (val xs * p2 hx) (p2 (-hx))).2, 0)
 else if kind = 3 then (sgb E.toNat F.toNat neg + (2 ^ E.toNat - 1) * 2 ^ F.toNat, 0, 0)
 else if 2 ^ (F.toNat - 1) <= p then (0, 0, 115)
 else (sgb E.toNat F.toNat neg + ((2 ^ E.toNat - 1) * 2 ^ F.toNat + (2 ^ (F.toNat - 1) + p)), 0, 0)
def NumPost (o : Nat × Nat × Nat) (w : World) (e : Ending) (w' : World) : Prop := e = .returned (.tuple #[.int .u64 (o.1 : Int), .int .u8 (o.2.1 : Int), .int .i64 (o.2.2 : Int)]) /\ Below w.heap.size w w'
end Go.Proofs.YtddaldghlinokaaGreatDoor
namespace Go.Proofs.YtddaldghlinokaaGreatDoor.R16
open Go Go.RowKit R5
theorem natOk_facts {n : Nat} {xs : List Nat} (h : natOk n xs = true) : n <= 16384 /\ (n = 0 \/ nth xs (n - 1) ≠ 0) := by
 unfold natOk at h
 simp only [Bool.and_eq_true, Bool.or_eq_true, decide_eq_true_eq] at h
 exact h
end Go.Proofs.YtddaldghlinokaaGreatDoor.R16
namespace Go.Proofs.YtddaldghlinokaaGreatDoor.R1
open Go Go.RowKit
end Go.Proofs.YtddaldghlinokaaGreatDoor.R1
namespace Go.Proofs.YtddaldghlinokaaGreatDoor.Fms
open Go Go.RowKit R5
theorem mask_eq : ∀ n : Fin 64, bits .andNot .u64 18446744073709551615 (IntKind.u64.wrap (18446744073709551615 * 2 ^ n.val)) = ((R3.tw n.val - 1 : Nat) : Int) := by decide +kernel
theorem mask (n : Nat) (w : World) (hn : n <= 63) :
  Calls Tryz.prog 118 #[.int .i64 (n : Int)] w fun e w' => e = .returned (.int .u64 ((R3.tw n - 1 : Nat) : Int)) /\ w = w' := by
 have HM := vv (mask_eq ⟨n, by omega⟩)
 go_enter Tryz.func118, Tryz.ntmps118
 go_wp2
 go_ret
 exact ⟨retI HM.out, rfl⟩
abbrev layV (E F : Int) : Value := .agg #[.int .i64 0, .int .i64 F, .int .i64 F, .int .i64 E, .int .i64 (F + E), .int .i64 1]
structure LayBox (w : World) (g : Nat) (E F : Int) : Prop where
 c0 : w.cell? ⟨g, 0, none⟩ = some (.int .i64 0)
 c1 : w.cell? ⟨g, 1, none⟩ = some (.int .i64 F)
 c2 : w.cell? ⟨g, 2, none⟩ = some (.int .i64 F)
 c3 : w.cell? ⟨g, 3, none⟩ = some (.int .i64 E)
 c4 : w.cell? ⟨g, 4, none⟩ = some (.int .i64 (F + E))
 c5 : w.cell? ⟨g, 5, none⟩ = some (.int .i64 1)
 lt : g < w.heap.size
theorem LayBox.made (w : World) (E F : Int) (t : TypeId) : LayBox (w.alloc (.cells #[.int .i64 0, .int .i64 F, .int .i64 F, .int .i64 E, .int .i64 (F + E), .int .i64 1] t)) w.heap.size E F := by
 constructor <;> first | (simp only [World.cell?]; rw [heap_alloc_new]; rfl) | simp
theorem LayBox.below {w w' : World} {g : Nat} {E F : Int} (h : LayBox w g E F) (hb : Below w.heap.size w w') : LayBox w' g E F :=
 ⟨(hb.cell (p := ⟨g, 0, none⟩) h.lt).trans h.c0, (hb.cell (p := ⟨g, 1, none⟩) h.lt).trans h.c1, (hb.cell (p := ⟨g, 2, none⟩) h.lt).trans h.c2, (hb.cell (p := ⟨g, 3, none⟩) h.lt).trans h.c3, (hb.cell (p := ⟨g, 4, none⟩) h.lt).trans h.c4, (hb.cell (p := ⟨g, 5, none⟩) h.lt).trans h.c5, Nat.lt_of_lt_of_le h.lt hb.size⟩
theorem layout (E F : Nat) (w : World) (h2 : E <= 11) (h4 : F <= 52) :
  Calls Tryz.prog 197 #[fm E F] w fun e w' => e = .returned (layV E F) /\ Below w.heap.size w w' := by
 have h2i : (E : Int) <= 11 := by omega
 have h4i : (F : Int) <= 52 := by omega
 clear h2 h4
 go_enter Tryz.func197, Tryz.ntmps197
 go_wp2
 exact bodyPost_ret (v := layV E F) (by simp [results, Tryz.results197, go_sem]) rfl ⟨rfl, ((Below.refl _ _).alloc (Nat.le_refl _) _).alloc (by simp) _⟩
theorem Check (E F : Int) (w : World) :
  Calls Tryz.prog 39 #[fm E F] w fun e w' => e = .returned (.int .i64 (R3.chk E F)) /\ Below w.heap.size w w' := by
 by_cases h1 : E < 2
 ·have HV : Hid (R3.formOk E F = false) := vv (by unfold R3.formOk; rw [decide_eq_false (p := 2 <= E) (by omega)]; rfl)
  have d1 : decide (E < 2) = true := decide_eq_true h1
  clear h1
  go_enter Tryz.func39, Tryz.ntmps39
  go_wp2
  go_ret
  exact ⟨retI (R3.chk_no HV.out).symm, (Below.refl _ _).alloc (Nat.le_refl _) _⟩
 have d1 : decide (E < 2) = false := decide_eq_false h1
 by_cases h2 : 11 < E
 ·have HV : Hid (R3.formOk E F = false) := vv (by unfold R3.formOk; rw [decide_eq_false (p := E <= 11) (by omega)]; simp)
  have d2 : decide (11 < E) = true := decide_eq_true h2
  clear h1 h2
  go_enter Tryz.func39, Tryz.ntmps39
  go_wp2
  go_ret
  exact ⟨retI (R3.chk_no HV.out).symm, (Below.refl _ _).alloc (Nat.le_refl _) _⟩
 have d2 : decide (11 < E) = false := decide_eq_false h2
 by_cases h3 : F < 1
 ·have HV : Hid (R3.formOk E F = false) := vv (by unfold R3.formOk; rw [decide_eq_false (p := 1 <= F) (by omega)]; simp)
  have d3 : decide (F < 1) = true := decide_eq_true h3
  clear h1 h2 h3
  go_enter Tryz.func39, Tryz.ntmps39
  go_wp2
  go_ret
  exact ⟨retI (R3.chk_no HV.out).symm, (Below.refl _ _).alloc (Nat.le_refl _) _⟩
 have d3 : decide (F < 1) = false := decide_eq_false h3
 by_cases h4 : 52 < F
 ·have HV : Hid (R3.formOk E F = false) := vv (by unfold R3.formOk; rw [decide_eq_false (p := F <= 52) (by omega)]; simp)
  have d4 : decide (52 < F) = true := decide_eq_true h4
  clear h1 h2 h3 h4
  go_enter Tryz.func39, Tryz.ntmps39
  go_wp2
  go_ret
  exact ⟨retI (R3.chk_no HV.out).symm, (Below.refl _ _).alloc (Nat.le_refl _) _⟩
 have d4 : decide (52 < F) = false := decide_eq_false h4
 have HV : Hid (R3.formOk E F = true) := vv (by unfold R3.formOk; rw [decide_eq_true (p := 2 <= E) (by omega), decide_eq_true (p := E <= 11) (by omega), decide_eq_true (p := 1 <= F) (by omega), decide_eq_true (p := F <= 52) (by omega)]; rfl)
 clear h1 h2 h3 h4
 go_enter Tryz.func39, Tryz.ntmps39
 go_wp2
 go_ret
 exact ⟨retI (R3.chk_ok HV.out).symm, (Below.refl _ _).alloc (Nat.le_refl _) _⟩
theorem formOk_in {E F : Nat} (h1 : 2 <= E) (h2 : E <= 11) (h3 : 1 <= F) (h4 : F <= 52) : R3.formOk (E : Int) (F : Int) = true := by
 unfold R3.formOk; rw [decide_eq_true (p := (2 : Int) <= E) (by omega), decide_eq_true (p := (E : Int) <= 11) (by omega), decide_eq_true (p := (1 : Int) <= F) (by omega), decide_eq_true (p := (F : Int) <= 52) (by omega)]; rfl
end Go.Proofs.YtddaldghlinokaaGreatDoor.Fms
namespace Go.Proofs.YtddaldghlinokaaGreatDoor.Dec
open Go Go.RowKit R5
def farB (x : Int) : Bool := decide (x < -1073741824) || decide (1073741824 < x)
def decErr (s : ByteArray) (x : Int) : Int := if 65536 < s.size then 4 else if decMay s x then 0 else 100
end Go.Proofs.YtddaldghlinokaaGreatDoor.Dec
namespace Go.Proofs.YtddaldghlinokaaGreatDoor.Nat_
open Go Go.RowKit R5
def natErr (n : Nat) (xs : List Nat) : Int := if 16384 < n then 4 else if natOk n xs then 0 else 10
theorem natErr_ok {n : Nat} {xs : List Nat} (h : natOk n xs = true) : natErr n xs = 0 := by
 unfold natErr
 have := (R16.natOk_facts h).1
 rw [if_neg (by omega), h]; rfl
theorem natErr_zero (n : Nat) (xs : List Nat) : (natErr n xs == 0) = natOk n xs := by
 unfold natErr
 by_cases h : 16384 < n
 ·rw [if_pos h]
  unfold natOk
  rw [decide_eq_false (p := n <= 16384) (by omega)]; rfl
 ·rw [if_neg h]
  cases natOk n xs <;> rfl
theorem Check (A : Option Addr) (n c : Nat) (xs : List Nat) (w : World) (hr : Rd w A n c xs) :
  Calls Tryz.prog 138 #[natV A n c] w fun e w' => e = .returned (.int .i64 (natErr n xs)) /\ Below w.heap.size w w' := by
 have hsm := hr.sm
 by_cases h : 16384 < n
 ·have HV : Hid (natErr n xs = 4) := vv (by unfold natErr; rw [if_pos h])
  have d1 : decide ((16384 : Int) < (n : Int)) = true := decide_eq_true (by omega)
  clear h hr
  go_enter Tryz.func138, Tryz.ntmps138
  go_wp2
  go_ret
  exact ⟨retI HV.out.symm, (Below.refl _ _).alloc (Nat.le_refl _) _⟩
 have d1 : decide ((16384 : Int) < (n : Int)) = false := decide_eq_false (by omega)
 have hni : (n : Int) <= 16384 := by omega
 rcases Nat.eq_zero_or_pos n with h0 | h0
 ·subst h0
  have HV : Hid (natErr 0 xs = 0) := vv rfl
  clear h hr
  go_enter Tryz.func138, Tryz.ntmps138
  go_wp2
  go_ret
  exact ⟨retI HV.out.symm, (Below.refl _ _).alloc (Nat.le_refl _) _⟩
 obtain ⟨m, rfl⟩ : ∃ m, n = m + 1 := ⟨n - 1, by omega⟩
 obtain ⟨b, off, rfl, hbl, hcell⟩ := hr.cell h0
 have hx := hcell m (by omega)
 have hmi : (m : Int) + 1 <= 16384 := by omega
 have d3 : ((m : Int) + 1 == 0) = false := by rw [beq_eq_false_iff_ne]; omega
 have HE : Hid (natErr (m + 1) xs = if nth xs m = 0 then 10 else 0) := vv (by
  unfold natErr
  rw [if_neg h]
  unfold natOk
  rw [decide_eq_true (p := m + 1 <= 16384) (by omega), decide_eq_false (p := m + 1 = 0) (by omega), Nat.add_sub_cancel]
  by_cases hz : nth xs m = 0
  ·rw [if_pos hz, decide_eq_false (p := nth xs m ≠ 0) (by omega)]; rfl
  ·rw [if_neg hz, decide_eq_true (p := nth xs m ≠ 0) hz]; rfl)
 have d4 : decide ((16384 : Int) < (m : Int) + 1) = false := decide_eq_false (by omega)
 have d5 : decide ((0 : Int) < (m : Int) + 1) = true := decide_eq_true (by omega)
 clear h hcell hr h0 hni d1 hsm
 by_cases hz : nth xs m = 0
 ·have HF : Hid (natErr (m + 1) xs = 10) := vv (by rw [HE.out, if_pos hz])
  have t1 : (((nth xs m : Nat) : Int) == 0) = true := by rw [hz]; rfl
  clear hz
  go_enter Tryz.func138, Tryz.ntmps138
  go_wp2
  go_ret
  exact ⟨retI HF.out.symm, (Below.refl _ _).alloc (Nat.le_refl _) _⟩
 ·have HF : Hid (natErr (m + 1) xs = 0) := vv (by rw [HE.out, if_neg hz])
  have t1 : (((nth xs m : Nat) : Int) == 0) = false := by rw [beq_eq_false_iff_ne]; omega
  clear hz
  go_enter Tryz.func138, Tryz.ntmps138
  go_wp2
  go_ret
  exact ⟨retI HF.out.symm, (Below.refl _ _).alloc (Nat.le_refl _) _⟩
end Go.Proofs.YtddaldghlinokaaGreatDoor.Nat_
namespace Go.Proofs.YtddaldghlinokaaGreatDoor.Exa
open Go Go.RowKit R5
theorem none_ (A : Option Addr) (n c : Nat) (w : World) :
  Calls Tryz.prog 199 #[natV A n c] w fun e w' => e = .returned (.bool ((n : Int) == 0)) /\ Below w.heap.size w w' := by
 go_enter Tryz.func199, Tryz.ntmps199
 go_wp2
 go_ret
 exact ⟨rfl, (Below.refl _ _).alloc (Nat.le_refl _) _⟩
theorem far (x : Int) (w : World) :
  Calls Tryz.prog 201 #[.int .i64 x] w fun e w' => e = .returned (.bool (Dec.farB x)) /\ w = w' := by
 by_cases h1 : x < -1073741824
 ·have HF : Hid (Dec.farB x = true) := vv (by unfold Dec.farB; rw [decide_eq_true h1]; rfl)
  have d1 : decide (x < -1073741824) = true := decide_eq_true h1
  clear h1
  go_enter Tryz.func201, Tryz.ntmps201
  go_wp2
  go_ret
  exact ⟨retB HF.out.symm, rfl⟩
 ·have HF : Hid (Dec.farB x = decide (1073741824 < x)) := vv (by unfold Dec.farB; rw [decide_eq_false h1]; rfl)
  have d1 : decide (x < -1073741824) = false := decide_eq_false h1
  clear h1
  go_enter Tryz.func201, Tryz.ntmps201
  go_wp2
  go_ret
  exact ⟨retB HF.out.symm, rfl⟩
def exaErr (neg : Bool) (n : Nat) (xs : List Nat) (x : Int) : Int :=
 if natOk n xs = false then Nat_.natErr n xs else if twoOk neg n xs x then 0 else 40
theorem exaErr_zero (neg : Bool) (n : Nat) (xs : List Nat) (x : Int) : (exaErr neg n xs x == 0) = twoOk neg n xs x := by
 unfold exaErr
 cases h : natOk n xs
 ·rw [if_pos rfl, Nat_.natErr_zero, h]
  unfold twoOk; rw [h]; rfl
 ·rw [if_neg (by decide)]
  cases twoOk neg n xs x <;> rfl
theorem none_0 (A : Option Addr) (c : Nat) (w : World) :
  Calls Tryz.prog 199 #[natV A 0 c] w fun e w' => e = .returned (.bool true) /\ Below w.heap.size w w' := none_ A 0 c w
theorem none_pos (A : Option Addr) (n c : Nat) (w : World) (h : 0 < n) :
  Calls Tryz.prog 199 #[natV A n c] w fun e w' => e = .returned (.bool false) /\ Below w.heap.size w w' := by
 have e : ((n : Int) == 0) = false := by rw [beq_eq_false_iff_ne]; omega
 have := none_ A n c w
 rw [e] at this
 exact this
set_option maxHeartbeats 4000000 in
theorem Check (neg : Bool) (A : Option Addr) (n c : Nat) (xs : List Nat) (x : Int) (w : World) (hr : Rd w A n c xs) :
  Calls Tryz.prog 107 #[dyadV neg A n c x] w fun e w' => e = .returned (.int .i64 (exaErr neg n xs x)) /\ Below w.heap.size w w' := by
 have HCk := vv fun w' (h : Below w.heap.size w w') => Nat_.Check A n c xs w' (hr.below h rfl)
 obtain ⟨w0, hw0⟩ := yx (w.alloc (.cells #[.bool neg, .slice A n c, .int .i64 x] 30))
 have hB0 : Below w.heap.size w w0 := by rw [hw0]; exact (Below.refl _ w).alloc (Nat.le_refl _) _
 have hX0 : DyadBox w0 w.heap.size neg A n c x := by rw [hw0]; exact DyadBox.made w _ _ _ _ _ _
 have HX := vv hX0
 have HB := vv hB0
 have HW0 := vv hw0
 have x1 := hX0.c1
 have xl := hX0.lt
 clear hw0 hB0 hX0
 cases hok : natOk n xs
 ·have HE : Hid (exaErr neg n xs x = Nat_.natErr n xs) := vv (by unfold exaErr; rw [if_pos hok])
  obtain ⟨v, hv⟩ := yx (Nat_.natErr n xs)
  have hne : (v != 0) = true := by
   have := Nat_.natErr_zero n xs
   rw [<- hv, hok] at this
   rw [bne, this]; rfl
  rw [<- hv] at HCk HE
  clear hv hok
  go_enter Tryz.func107, Tryz.ntmps107
  go_wp2_with fail
  rw [<- HW0.out]
  refine (HCk.out _ HB.out).mono ?_
  rintro e w1 ⟨rfl, hB1⟩
  have HB := vn HB hB1
  clear hB1
  go_wp2
  go_ret
  exact ⟨retI HE.out.symm, HB.out⟩
 have HE : Hid (exaErr neg n xs x = if twoOk neg n xs x then 0 else 40) := vv (by unfold exaErr; rw [if_neg (by rw [hok]; decide)])
 have hTw : twoOk neg n xs x = (decide (x <= 1073741824) && decide (-1073741824 <= x) && (if n = 0 then decide (x = 0) && !neg else decide (nth xs 0 % 2 = 1))) := by unfold twoOk; rw [hok]; rfl
 have HTw := vv hTw
 rw [Nat_.natErr_ok hok] at HCk
 have hn16 := (R16.natOk_facts hok).1
 have hni : (n : Int) <= 16384 := by omega
 clear hTw hn16 hok
 rcases Nat.eq_zero_or_pos n with h0 | h0
 ·subst h0
  have HNo := vv fun w => none_0 A c w
  cases neg
  ·cases tx : (x == 0)
   ·have HF : Hid (exaErr false 0 xs x = 40) := vv (by
     have hx : x ≠ 0 := by rw [beq_eq_false_iff_ne] at tx; exact tx
     rw [HE.out, HTw.out, if_pos rfl, decide_eq_false hx]; simp)
    have tx2 : (x != 0) = true := by rw [bne, tx]; rfl
    clear HE HTw
    go_enter Tryz.func107, Tryz.ntmps107
    go_wp2_with fail
    rw [<- HW0.out]
    refine (HCk.out _ HB.out).mono ?_
    rintro e w1 ⟨rfl, hB1⟩
    have HX := vv (HX.out.below hB1)
    have HB := vn HB hB1
    obtain ⟨x0, x1, x2, xl⟩ := HX.out
    clear hB1
    go_wp2_with fail
    refine (HNo.out _).mono ?_
    rintro e w2 ⟨rfl, hB2⟩
    have HX := vv (HX.out.below hB2)
    have HB := vn HB hB2
    obtain ⟨x0, x1, x2, xl⟩ := HX.out
    clear hB2
    go_wp2
    go_ret
    exact ⟨retI HF.out.symm, HB.out⟩
   ·have hx : x = 0 := by rw [beq_iff_eq] at tx; exact tx
    subst hx
    have HF : Hid (exaErr false 0 xs 0 = 0) := vv (by
     rw [HE.out, HTw.out, if_pos rfl]; rfl)
    clear HE HTw
    go_enter Tryz.func107, Tryz.ntmps107
    go_wp2_with fail
    rw [<- HW0.out]
    refine (HCk.out _ HB.out).mono ?_
    rintro e w1 ⟨rfl, hB1⟩
    have HX := vv (HX.out.below hB1)
    have HB := vn HB hB1
    obtain ⟨x0, x1, x2, xl⟩ := HX.out
    clear hB1
    go_wp2_with fail
    refine (HNo.out _).mono ?_
    rintro e w2 ⟨rfl, hB2⟩
    have HX := vv (HX.out.below hB2)
    have HB := vn HB hB2
    obtain ⟨x0, x1, x2, xl⟩ := HX.out
    clear hB2
    go_wp2_with fail
    refine (HNo.out _).mono ?_
    rintro e w3 ⟨rfl, hB3⟩
    have HX := vv (HX.out.below hB3)
    have HB := vn HB hB3
    obtain ⟨x0, x1, x2, xl⟩ := HX.out
    clear hB3
    go_wp2
    go_ret
    exact ⟨retI HF.out.symm, HB.out⟩
  ·have HF : Hid (exaErr true 0 xs x = 40) := vv (by
    rw [HE.out, HTw.out, if_pos rfl]; simp)
   clear HE HTw
   go_enter Tryz.func107, Tryz.ntmps107
   go_wp2_with fail
   rw [<- HW0.out]
   refine (HCk.out _ HB.out).mono ?_
   rintro e w1 ⟨rfl, hB1⟩
   have HX := vv (HX.out.below hB1)
   have HB := vn HB hB1
   obtain ⟨x0, x1, x2, xl⟩ := HX.out
   clear hB1
   go_wp2_with fail
   refine (HNo.out _).mono ?_
   rintro e w2 ⟨rfl, hB2⟩
   have HX := vv (HX.out.below hB2)
   have HB := vn HB hB2
   obtain ⟨x0, x1, x2, xl⟩ := HX.out
   clear hB2
   go_wp2
   go_ret
   exact ⟨retI HF.out.symm, HB.out⟩
 have HNo := vv fun w => none_pos A n c w h0
 obtain ⟨b, off, rfl, hbl, hcell⟩ := hr.cell h0
 have hx0 := hcell 0 h0
 rw [Nat.add_zero] at hx0
 have HX0 := vv hx0
 have hvl := hr.nth_lt 0
 have HBl := vv hbl
 have HTw2 : Hid (twoOk neg n xs x = (decide (nth xs 0 % 2 = 1) && !Dec.farB x)) := vv (by
  rw [HTw.out, if_neg (by omega)]
  unfold Dec.farB
  by_cases q1 : x < -1073741824
  ·rw [decide_eq_true q1, decide_eq_false (p := -1073741824 <= x) (by omega)]; simp
  ·rw [decide_eq_false q1, decide_eq_true (p := -1073741824 <= x) (by omega)]
   by_cases q2 : 1073741824 < x
   ·rw [decide_eq_true q2, decide_eq_false (p := x <= 1073741824) (by omega)]; simp
   ·rw [decide_eq_false q2, decide_eq_true (p := x <= 1073741824) (by omega)]; simp)
 have d0 : decide ((0 : Int) < (n : Int)) = true := decide_eq_true (by omega)
 clear HTw hcell hr h0 hbl hx0
 have HFr := vv fun w => far x w
 obtain ⟨v, hv⟩ := yx (nth xs 0)
 rw [<- hv] at HX0 HTw2 hvl
 have HBt : Hid (bits .and .u32 (v : Int) 1 = ((v % 2 : Nat) : Int)) := vv (by
  have := u32_and_nat v 1 hvl (by omega)
  rw [Nat.and_one_is_mod] at this
  exact this)
 have hd0 : (0 : Int) < (n : Int) := by simpa using d0
 clear hv
 by_cases hp : v % 2 = 0
 ·have HF : Hid (exaErr neg n xs x = 40) := vv (by rw [HE.out, HTw2.out, decide_eq_false (p := v % 2 = 1) (by omega)]; rfl)
  have t1 : (bits .and .u32 (v : Int) 1 == 0) = true := by rw [HBt.out, hp]; rfl
  have t2 : ((v : Int) % 2 == 0) = true := by rw [beq_iff_eq]; omega
  clear hp HE HTw2 hvl
  go_enter Tryz.func107, Tryz.ntmps107
  go_wp2_with fail
  rw [<- HW0.out]
  refine (HCk.out _ HB.out).mono ?_
  rintro e w1 ⟨rfl, hB1⟩
  have HX := vv (HX.out.below hB1)
  have HB := vn HB hB1
  obtain ⟨x0, x1, x2, xl⟩ := HX.out
  clear hB1
  go_wp2_with fail
  refine (HNo.out _).mono ?_
  rintro e w2 ⟨rfl, hB2⟩
  have HX := vv (HX.out.below hB2)
  have HB := vn HB hB2
  obtain ⟨x0, x1, x2, xl⟩ := HX.out
  clear hB2
  go_wp2_with fail
  refine (HNo.out _).mono ?_
  rintro e w3 ⟨rfl, hB3⟩
  have HX := vv (HX.out.below hB3)
  have HB := vn HB hB3
  obtain ⟨x0, x1, x2, xl⟩ := HX.out
  clear hB3
  have hv := (HB.out.cell (p := ⟨b, off, none⟩) HBl.out).trans HX0.out
  go_wp2
  go_ret
  exact ⟨retI HF.out.symm, HB.out⟩
 have t1 : (bits .and .u32 (v : Int) 1 == 0) = false := by rw [HBt.out, beq_eq_false_iff_ne]; omega
 have t2 : ((v : Int) % 2 == 0) = false := by rw [beq_eq_false_iff_ne]; omega
 cases hf : Dec.farB x
 ·rw [hf] at HFr
  have HF : Hid (exaErr neg n xs x = 0) := vv (by rw [HE.out, HTw2.out, hf, decide_eq_true (p := v % 2 = 1) (by omega)]; rfl)
  clear hp HE HTw2 hvl hf
  go_enter Tryz.func107, Tryz.ntmps107
  go_wp2_with fail
  rw [<- HW0.out]
  refine (HCk.out _ HB.out).mono ?_
  rintro e w1 ⟨rfl, hB1⟩
  have HX := vv (HX.out.below hB1)
  have HB := vn HB hB1
  obtain ⟨x0, x1, x2, xl⟩ := HX.out
  clear hB1
  go_wp2_with fail
  refine (HNo.out _).mono ?_
  rintro e w2 ⟨rfl, hB2⟩
  have HX := vv (HX.out.below hB2)
  have HB := vn HB hB2
  obtain ⟨x0, x1, x2, xl⟩ := HX.out
  clear hB2
  go_wp2_with fail
  refine (HNo.out _).mono ?_
  rintro e w3 ⟨rfl, hB3⟩
  have HX := vv (HX.out.below hB3)
  have HB := vn HB hB3
  obtain ⟨x0, x1, x2, xl⟩ := HX.out
  clear hB3
  have hv := (HB.out.cell (p := ⟨b, off, none⟩) HBl.out).trans HX0.out
  go_wp2_with fail
  refine (HFr.out _).mono ?_
  rintro e w' ⟨rfl, rfl⟩
  go_wp2
  go_ret
  exact ⟨retI HF.out.symm, HB.out⟩
 ·rw [hf] at HFr
  have HF : Hid (exaErr neg n xs x = 40) := vv (by rw [HE.out, HTw2.out, hf, decide_eq_true (p := v % 2 = 1) (by omega)]; rfl)
  clear hp HE HTw2 hvl hf
  go_enter Tryz.func107, Tryz.ntmps107
  go_wp2_with fail
  rw [<- HW0.out]
  refine (HCk.out _ HB.out).mono ?_
  rintro e w1 ⟨rfl, hB1⟩
  have HX := vv (HX.out.below hB1)
  have HB := vn HB hB1
  obtain ⟨x0, x1, x2, xl⟩ := HX.out
  clear hB1
  go_wp2_with fail
  refine (HNo.out _).mono ?_
  rintro e w2 ⟨rfl, hB2⟩
  have HX := vv (HX.out.below hB2)
  have HB := vn HB hB2
  obtain ⟨x0, x1, x2, xl⟩ := HX.out
  clear hB2
  go_wp2_with fail
  refine (HNo.out _).mono ?_
  rintro e w3 ⟨rfl, hB3⟩
  have HX := vv (HX.out.below hB3)
  have HB := vn HB hB3
  obtain ⟨x0, x1, x2, xl⟩ := HX.out
  clear hB3
  have hv := (HB.out.cell (p := ⟨b, off, none⟩) HBl.out).trans HX0.out
  go_wp2_with fail
  refine (HFr.out _).mono ?_
  rintro e w' ⟨rfl, rfl⟩
  go_wp2
  go_ret
  exact ⟨retI HF.out.symm, HB.out⟩
end Go.Proofs.YtddaldghlinokaaGreatDoor.Exa
namespace Go.Proofs.YtddaldghlinokaaGreatDoor.Nat_
open Go Go.RowKit R5
theorem Rd.cap {w : World} {A : Option Addr} {n c : Nat} {xs : List Nat} (h : Rd w A n c xs) : Rd w A n n xs := ⟨h.len, Nat.le_refl _, h.sm, h.lim, h.cell⟩
set_option maxHeartbeats 1000000 in
theorem trimmed (A : Option Addr) (n c : Nat) (xs : List Nat) (w : World) (hr : Rd w A n c xs) :
  Calls Tryz.prog 140 #[.slice A n c] w fun e w' => ∃ A' m, e = .returned (natV A' m m) /\ Rd w' A' m m (toL (val xs)) /\ (∀ a, A' = some a -> A = some a) /\ Below w.heap.size w w' := by
 have hsm := hr.sm
 have hlen := hr.len
 have hle := hr.le
 have hB0 := (Below.refl w.heap.size w).alloc (o := .cells #[.slice none 0 0] 28) (Nat.le_refl _)
 have hN0 := NatCell.made w 28
 obtain ⟨w0, hw0⟩ := yx (w.alloc (.cells #[.slice none 0 0] 28))
 rw [<- hw0] at hB0 hN0
 have hr0 := hr.below hB0 rfl
 have HW0 := vv hw0
 have HB := vv hB0
 have HR0 := vv hr0
 have HRw := vv hr
 have c0 := hN0.c0
 have fz := hN0.fz
 have nl := hN0.lt
 clear hw0 hN0
 go_enter Tryz.func140, Tryz.ntmps140
 go_wp2_with fail
 rw [<- HW0.out]
 go_loop [3] (fun t => ∃ k : Nat, k <= n /\ t = .int .i64 k /\ ∀ i, k <= i -> nth xs i = 0) (fun t => (intOf t).toNat)
 case atStart => exact ⟨n, Nat.le_refl _, rfl, fun i hi => nth_ge xs i (by omega)⟩
 case round =>
  obtain ⟨k, hk, rfl, hz⟩ := hrel
  have fin : ∀ m, m <= n -> (∀ i, m <= i -> nth xs i = 0) -> (m = 0 \/ nth xs (m - 1) ≠ 0) -> Rd w0 A m c (toL (val xs)) := by
   intro m hm h0 h1
   have e := toL_val_take hr.lim (n := m) h0 (h1.imp id fun h => ⟨by omega, h⟩)
   rw [<- e]
   exact hr0.take hm
  have Fin := vv fin
  clear fin
  rcases Nat.eq_zero_or_pos k with rfl | hpos
  ·have HFn := vv (Fin.out 0 (Nat.zero_le _) hz (.inl rfl))
   have HBel := vv (HB.out.setCell (p := ⟨w.heap.size, 0, none⟩) (Nat.le_refl _) (.slice none 0 0))
   have hcell : (w0.setCell ⟨w.heap.size, 0, none⟩ (.slice none 0 0)).cell? ⟨w.heap.size, 0, none⟩ = some (.slice none 0 0) := cell_eq c0
   clear hz hr0 hr hB0
   go_wp2
   refine bodyPost_ret (v := natV none 0 0) (by simp [results, Tryz.results140, go_sem, hcell]) rfl ⟨none, 0, rfl, ?_, fun a h => (by cases h), HBel.out⟩
   have e : toL (val xs) = [] := List.eq_nil_of_length_eq_zero HFn.out.len
   rw [e]; exact Rd.nil _
  ·obtain ⟨m, rfl⟩ : ∃ m, k = m + 1 := ⟨k - 1, by omega⟩
   have HC0 := HRw.out
   obtain ⟨b, off, rfl, hb, hcell⟩ := hr0.cell (by omega)
   have hx := hcell m (by omega)
   clear hcell
   by_cases h0 : nth xs m = 0
   ·have h1 : (((nth xs m : Nat) : Int) == 0) = true := by rw [h0]; rfl
    have H0 := vv h0
    clear h0 hr0 hr hB0
    go_wp2
    go_round
    case rel => exact ⟨m, by omega, by go_num, fun i hi => by
     rcases Nat.eq_or_lt_of_le hi with rfl | h
     ·exact H0.out
     ·exact hz i (by omega)⟩
    case measure => simp [intOf]
   ·have h1 : (((nth xs m : Nat) : Int) == 0) = false := by rw [beq_eq_false_iff_ne]; omega
    have HFn := vv (Rd.cap (Fin.out (m + 1) (by omega) hz (.inr h0)))
    have hbw : b < w.heap.size := by
     obtain ⟨b', off', e, h, _⟩ := HRw.out.cell (by omega)
     cases e; exact h
    have HBel := vv (HB.out.setCell (p := ⟨w.heap.size, 0, none⟩) (Nat.le_refl _) (.slice (some ⟨b, off, none⟩) (m + 1) (m + 1)))
    have hcell : (w0.setCell ⟨w.heap.size, 0, none⟩ (.slice (some ⟨b, off, none⟩) (m + 1) (m + 1))).cell? ⟨w.heap.size, 0, none⟩ = some (.slice (some ⟨b, off, none⟩) (m + 1) (m + 1)) := cell_eq c0
    have HFin : Hid (Rd (w0.setCell ⟨w.heap.size, 0, none⟩ (.slice (some ⟨b, off, none⟩) (m + 1) (m + 1))) (some ⟨b, off, none⟩) (m + 1) (m + 1) (toL (val xs))) := vv (HFn.out.other _ _ _ (fun a e => by cases e; show b ≠ w.heap.size; omega))
    clear h0 hz hr0 hr hB0 HC0
    go_wp2
    exact bodyPost_ret (v := natV (some ⟨b, off, none⟩) (m + 1) (m + 1)) (by simp [results, Tryz.results140, go_sem, hcell]) rfl ⟨some ⟨b, off, none⟩, m + 1, rfl, HFin.out, fun a h => by simpa using h, HBel.out⟩
theorem Of1 (w : World) :
  Calls Tryz.prog 69 #[.int .u64 1] w fun e w' => ∃ A, e = .returned (natV A 1 1) /\ Rd w' A 1 1 (toL 1) /\ Below w.heap.size w w' := by
 go_enter Tryz.func69, Tryz.ntmps69
 go_wp2_with fail
 obtain ⟨o1, o2⟩ := R1.two_words (w.alloc (.cells #[.slice none 0 0] 28)) 1 0 (by omega) (by omega) 34
 have hN := (NatCell.made w 28).below o2
 have hB := (Below.refl w.heap.size w).alloc (o := .cells #[.slice none 0 0] 28) (Nat.le_refl _)
 have HN := vv hN
 have HB := vv (hB.trans (o2.mono (by simp)))
 have hs : (w.alloc (.cells #[.slice none 0 0] 28)).heap.size = w.heap.size + 1 := by simp
 rw [hs] at o1
 clear o2 hN hB hs
 refine (trimmed (some ⟨w.heap.size + 1, 0, none⟩) 2 2 [1, 0] _ o1).mono ?_
 rintro e w1 ⟨A', m, rfl, hR, hA, hB1⟩
 have hm : m = 1 := hR.words.symm
 subst hm
 have HR1 : Hid (Rd w1 A' 1 1 (toL 1)) := vv hR
 have HN1 := vv (HN.out.below hB1)
 have HB1 := vn HB hB1
 have c0 := HN1.out.c0
 have fz := HN1.out.fz
 have lt := HN1.out.lt
 have HFin : Hid (Rd (w1.setCell ⟨w.heap.size, 0, none⟩ (.slice A' 1 1)) A' 1 1 (toL 1)) := vv (HR1.out.other _ _ _ (fun a e => by have := hA a e; cases this; simp))
 have HBel : Hid (Below w.heap.size w (w1.setCell ⟨w.heap.size, 0, none⟩ (.slice A' 1 1))) := vv (HB1.out.setCell (Nat.le_refl _) _)
 have hcell : (w1.setCell ⟨w.heap.size, 0, none⟩ (.slice A' 1 1)).cell? ⟨w.heap.size, 0, none⟩ = some (.slice A' 1 1) := cell_eq c0
 clear hB1 hR hA o1
 go_wp2
 exact bodyPost_ret (v := natV A' 1 1) (by simp [results, Tryz.results69, go_sem, hcell]) rfl ⟨A', rfl, HFin.out, HBel.out⟩
end Go.Proofs.YtddaldghlinokaaGreatDoor.Nat_
namespace Go.Proofs.YtddaldghlinokaaGreatDoor.Rtp
open Go Go.RowKit R5
theorem toL_of {W : List Nat} {N : Nat} (hl : Lim W) (hv : val W = N) (hw : W.length = words N) : W = toL N :=
 ext_nth hw fun i _ => by rw [nth_toL, <- hv, nth_val hl]
theorem words_bytes (N : Nat) : ((bl N + 7) / 8 + 3) / 4 = words N := by
 have h1 := A.bl_words N
 have h2 : N < 4294967296 ^ (((bl N + 7) / 8 + 3) / 4) := by
  rw [pow4]
  exact Nat.lt_of_lt_of_le (A.lt_bytes N) (Nat.pow_le_pow_right (by decide) (by omega))
 have h3 := words_le h2
 omega
set_option maxRecDepth 100000 in
set_option maxHeartbeats 2000000 in
theorem limbs (g o : Nat) (u : Int) (w : World) (h : IntAt w g o u) (sN : bl u.natAbs <= 4294967296) :
  Calls Tryz.prog 252 #[.pointer (some ⟨g, o, none⟩)] w fun e w' => ∃ A n, e = .returned (natV A n n) /\ Rd w' A n n (toL u.natAbs) /\ Fr w.heap.size A /\ Below w.heap.size w w' := by
 obtain ⟨w0, hw0⟩ := yx (w.alloc (.cells #[.slice none 0 0] 28))
 have b0 : Below w.heap.size w w0 := by rw [hw0]; exact (Below.refl _ w).alloc (Nat.le_refl _) _
 have c0 : NatCell w0 w.heap.size := by rw [hw0]; exact NatCell.made _ _
 have HBy := vv (A.Bytes g o u w0 (h.below b0) sN)
 have HWB := vv (words_bytes u.natAbs)
 obtain ⟨N, hN⟩ := yx (u.natAbs)
 rw [<- hN] at HBy HWB sN ⊢
 have HW0 := vv hw0
 have HB0 := vv b0
 have HC0 := vv c0
 have HSn := vv sN
 clear h hw0 b0 c0 sN hN
 go_enter Tryz.func252, Tryz.ntmps252
 go_wp2_with fail
 rw [<- HW0.out]
 refine HBy.out.mono ?_
 rintro e w1 ⟨B, m, rfl, hm, hBd, hB1⟩
 have HBd := vv hBd
 have HB1 := vv hB1
 have HC1 := vv (HC0.out.below hB1)
 have HL1 : Hid (w.heap.size < w1.heap.size) := vv HC1.out.lt
 obtain ⟨L, hL⟩ := yx ((m + 3) / 4)
 have HLw : Hid (L = words N) := vv (by rw [hL, hm]; exact HWB.out)
 have hmb : m <= 4294967296 := by have := HSn.out; omega
 have hLb : L <= 1099511627776 := by omega
 have hLi : (L : Int) <= 1099511627776 := by omega
 have hLq : ((m : Int) + 3) / 4 = (L : Int) := by omega
 have hmi : (m : Int) <= 4294967296 := by omega
 have hmk := A.mk L hLb
 have HL := vv hL
 have H1 : Hid (Own (w1.alloc (.cells (madeCells #[.int .u32 0] L) 34)) w1.heap.size 34 (List.replicate L 0)) := vv (Own.made w1 L 34)
 have H3 : Hid (Below w1.heap.size w1 (w1.alloc (.cells (madeCells #[.int .u32 0] L) 34))) := vv ((Below.refl _ w1).alloc (Nat.le_refl _) _)
 clear hBd hB1 hL hm
 go_wp2
 clear hLq
 go_loopw [17] (fun t wr => ∃ (i : Nat) (W : List Nat), t = .int .i64 i /\ i <= m /\ Own wr w1.heap.size 34 W /\ W.length = L /\ val W = hi N (m - i) /\ Below w1.heap.size w1 wr) (fun t _ => m - (intOf t).toNat)
 case atStart => exact ⟨0, List.replicate L 0, rfl, Nat.zero_le _, H1.out, List.length_replicate, by rw [val_replicate, Nat.sub_zero, hi_top HBd.out.lt], H3.out⟩
 case round =>
  obtain ⟨i, W, rfl, hil, hOwn, hlW, hvW, hB⟩ := hrel
  have HOwn := vv hOwn
  have HlW := vv hlW
  have HB := vv hB
  by_cases him : i < m
  ·obtain ⟨k, hk⟩ := yx (m - 1 - i)
   have hv1 : val W = hi N (k + 1) := by rw [hvW]; congr 1; omega
   have hki : (m : Int) - 1 - (i : Int) = (k : Int) := by omega
   obtain ⟨b, off, e, hbl, hcs⟩ := HBd.out.cell (by omega)
   subst e
   have hbc := (hB.cell (p := ⟨b, off + i, none⟩) hbl).trans (hcs i him)
   rw [<- hk] at hbc
   obtain ⟨q, hq⟩ := yx (k / 4)
   have hqL : q < L := by have := HL.out; omega
   have hqW : q < W.length := by omega
   have hq4 : (k : Int) / 4 = (q : Int) := by omega
   have hki2 : (k : Int) <= 4294967296 := by omega
   have hqLi : (q : Int) < (L : Int) := by omega
   obtain ⟨r, hr⟩ := yx (k % 4)
   have hr4 : (k : Int).tmod 4 = (r : Int) := by rw [Int.tmod_eq_emod_of_nonneg (by omega)]; omega
   have hwq : IntKind.i64.wrap (q : Int) = (q : Int) := by rw [IntKind.wrap_i64]; omega
   have hq0 : (0 : Int) <= (q : Int) := by omega
   obtain ⟨s1, s2, s3, s4⟩ := byte_step hOwn.2 hqW (show k = 4 * q + r by omega) (by omega) hv1
   have hwc := hOwn.cell hqW
   have hwf := hOwn.frozen q
   have hwl := hOwn.lt
   have HS := vv (hOwn.set (x := nth W q + bt N k * 256 ^ r) hqW s2 rfl)
   have hcl := bt_lt N k
   obtain ⟨C, hC⟩ := yx (bt N k)
   obtain ⟨x, hx⟩ := yx (nth W q)
   rw [<- hC, <- hx] at s1 s2 s4 HS
   rw [<- hC] at s3 hcl hbc
   rw [<- hx] at hwc
   have hwC : IntKind.u32.wrap (C : Int) = (C : Int) := by rw [IntKind.wrap_u32]; omega
   obtain ⟨D, hD⟩ := yx (C * 256 ^ r)
   rw [<- hD] at s1 s2 s3 s4 HS
   obtain ⟨s, hs⟩ := yx (8 * r)
   have hr8 : IntKind.i64.wrap (8 * (r : Int)) = (s : Int) := by rw [IntKind.wrap_i64]; omega
   have hs0 : (0 : Int) <= (s : Int) := by omega
   have hs32 : (s : Int) <= 32 := by omega
   have hsh : IntKind.u32.wrap ((C : Int) * 2 ^ s) = (D : Int) := by
    have e : (C : Int) * 2 ^ s = (D : Int) := by
     have e2 : (2 : Int) ^ s = ((256 ^ r : Nat) : Int) := by rw [hs, Int.natCast_pow, Int.pow_mul]; rfl
     rw [e2, hD, Int.natCast_mul]
    rw [e, IntKind.wrap_u32]; omega
   have HHi : Hid (hi N k = hi N (m - (i + 1))) := vv (by rw [hk]; congr 1; omega)
   have HS4 := vv s4
   clear hbl hcs hB hOwn hv1 hvW hlW hr hq hk hC hx hD hs s2 s3 s4
   go_wp2
   refine wp_region_sch (fun w' => w'.cell? ⟨w1.heap.size, q, none⟩ = some (.int .u32 (x : Int))) 13
    (.still 0 (.still 1 (.still 2 (.still 3 (.still 4 (.still 5 (.still 6 (.still 7 (.still 8 (.still 9 (.still 10 (.still 11 (.still 12 .done))))))))))))) (by kernel_rfl) (by kernel_rfl) (fun _ _ d _ _ h => by cases d <;> exact h) hwc (fun hS0 => ?_)
   iterate 13
    refine sch_still (v := ?_) rfl (by rfl) ?_ ?_
    rotate_left
    ·intro w hSw; go_simp; with_reducible rfl
    simp only [Act.put, List.setIfInBounds_toArray, List.set_cons_zero, List.set_cons_succ]
   refine sch_done ?_
   go_wp2
   go_roundw
   case rel => exact ⟨i + 1, W.set q (x + D), by go_num, by omega, HS.out, by rw [List.length_set]; exact HlW.out, HS4.out.trans HHi.out, (HB.out.drew).setCell (Nat.le_refl _) _⟩
   case measure => simp [intOf]; omega
  ·obtain rfl : i = m := by omega
   rw [Nat.sub_self, hi_zero] at hvW
   have HvW := vv hvW
   have hC9 := HC1.out.below hB
   have c1 := hC9.c0
   have l1 := hC9.lt
   have fz1 := hC9.fz
   have hil2 : (i : Int) <= (i : Int) := Int.le_refl _
   have HWe := vv (toL_of hOwn.2 hvW (by rw [hlW]; exact HLw.out))
   obtain ⟨w9, hw9⟩ := yx (wr.setCell ⟨w.heap.size, 0, none⟩ (.slice (some ⟨w1.heap.size, 0, none⟩) L L))
   have hcell : w9.cell? ⟨w.heap.size, 0, none⟩ = some (.slice (some ⟨w1.heap.size, 0, none⟩) L L) := by rw [hw9]; exact cell_eq c1
   have HR9 : Hid (Rd w9 (some ⟨w1.heap.size, 0, none⟩) L L (toL N)) := vv (by
    rw [<- HWe.out, hw9]
    exact (HOwn.out.setOther (by show w1.heap.size ≠ w.heap.size; have := HL1.out; omega) _).rd HlW.out.symm (Nat.le_refl _) hLb)
   have HB9 : Hid (Below w.heap.size w w9) := vv (by
    rw [hw9]
    exact (HB0.out.trans ((HB1.out.mono HB0.out.size).trans (HB.out.mono (by have := HL1.out; omega)))).setCell (Nat.le_refl _) _)
   have HW9 := vv hw9
   have HCl := vv hcell
   clear hOwn hvW hlW hB him hil hil2 hw9 hcell
   go_wp2
   rw [<- HW9.out]
   have hcell := HCl.out
   exact bodyPost_ret (v := natV (some ⟨w1.heap.size, 0, none⟩) L L) (by simp [results, Tryz.results252, go_sem, hcell]) rfl ⟨_, _, rfl, HR9.out, Fr.at_ (by show w.heap.size <= w1.heap.size; have := HL1.out; omega), HB9.out⟩
end Go.Proofs.YtddaldghlinokaaGreatDoor.Rtp
namespace Go.Proofs.YtddaldghlinokaaGreatDoor.Lex
open Go Go.RowKit R5
end Go.Proofs.YtddaldghlinokaaGreatDoor.Lex
namespace Go.Proofs.YtddaldghlinokaaGreatDoor.Rtp
open Go Go.RowKit R5
set_option maxRecDepth 100000 in
set_option maxHeartbeats 1000000 in
theorem whole (Ad : Option Addr) (n c N : Nat) (w : World) (hr : Rd w Ad n c (toL N)) (hn : n <= 1000000) :
  Calls Tryz.prog 158 #[natV Ad n c] w (NewPost (N : Int) w) := by
 obtain ⟨w0, hw0⟩ := yx (w.alloc (.cells #[.slice Ad n c] 28))
 have b0 : Below w.heap.size w w0 := by rw [hw0]; exact (Below.refl _ w).alloc (Nat.le_refl _) _
 have c0 : w0.cell? ⟨w.heap.size, 0, none⟩ = some (.slice Ad n c) := by rw [hw0]; simp only [World.cell?]; rw [heap_alloc_new]; rfl
 have l0 : w.heap.size < w0.heap.size := by rw [hw0]; simp
 obtain ⟨m, hm⟩ := yx (4 * n)
 have hmb : m <= 1099511627776 := by omega
 have hmk := A.mk8 m hmb
 have hmq : 4 * (n : Int) = (m : Int) := by omega
 have hmi : (m : Int) <= 4000000 := by omega
 have hni : (n : Int) <= 1000000 := by omega
 have hNm : N < 256 ^ m := by
  have := lt_words N
  rw [hr.words, pow4, <- hm] at this
  exact this
 have HM := vv hm
 have HNm := vv hNm
 have HR := vv hr
 have HW0 := vv hw0
 have HB0 := vv b0
 have HC0 := vv c0
 have HL0 := vv l0
 have s0 : w0.heap.size = w.heap.size + 1 := by rw [hw0]; simp
 have h1 := Own8.made w0 m 5
 have h3 := (Below.refl w0.heap.size w0).alloc (o := .cells (madeCells #[.int .u8 0] m) 5) (Nat.le_refl _)
 rw [s0] at h1 h3
 have H1 := vv h1
 have H3 := vv h3
 have HS0 := vv s0
 clear h1 h3 s0
 clear hr hw0 b0 hm hNm
 go_enter Tryz.func158, Tryz.ntmps158
 go_wp2
 rw [<- HW0.out]
 clear hmq c0 l0
 go_loopw [15] (fun t wr => ∃ (i : Nat) (U : List Nat), t = .int .i64 i /\ i <= n /\ Own8 wr (w.heap.size + 1) 5 U /\ U.length = m /\ (∀ j, m - 4 * i <= j -> j < m -> nth U j = bt N (m - 1 - j)) /\ Below (w.heap.size + 1) w0 wr) (fun t _ => n - (intOf t).toNat)
 case atStart => exact ⟨0, List.replicate m 0, rfl, Nat.zero_le _, H1.out, List.length_replicate, fun j h1 h2 => absurd h1 (by omega), H3.out⟩
 case round =>
  obtain ⟨i, U, rfl, hil, hOwn, hlU, hvU, hB⟩ := hrel
  have HOwn := vv hOwn
  have HlU := vv hlU
  have HvU := vv hvU
  have HB := vv hB
  by_cases him : i < n
  ·obtain ⟨b, off, e, hbl, hcs⟩ := HR.out.cell (by omega)
   subst e
   have hb0 : b < w.heap.size + 1 := by omega
   have hbc := (hB.cell (p := ⟨b, off + i, none⟩) hb0).trans ((HB0.out.cell (p := ⟨b, off + i, none⟩) hbl).trans (hcs i him))
   have hxl : nth (toL N) i < 4294967296 := HR.out.nth_lt i
   have hb_0 := word_byte (Lim_toL N) i 0 (by omega)
   have hb_1 := word_byte (Lim_toL N) i 1 (by omega)
   have hb_2 := word_byte (Lim_toL N) i 2 (by omega)
   have hb_3 := word_byte (Lim_toL N) i 3 (by omega)
   rw [val_toL] at hb_0 hb_1 hb_2 hb_3
   rw [Nat.pow_zero, Nat.div_one] at hb_0
   rw [Nat.pow_one] at hb_1
   rw [show 256 ^ 2 = 65536 from rfl] at hb_2
   rw [show 256 ^ 3 = 16777216 from rfl] at hb_3
   obtain ⟨x, hx⟩ := yx (nth (toL N) i)
   obtain ⟨C0, hC0⟩ := yx (bt N (4 * i + 0))
   obtain ⟨C1, hC1⟩ := yx (bt N (4 * i + 1))
   obtain ⟨C2, hC2⟩ := yx (bt N (4 * i + 2))
   obtain ⟨C3, hC3⟩ := yx (bt N (4 * i + 3))
   rw [<- hx] at hbc hxl hb_0 hb_1 hb_2 hb_3
   rw [<- hC0] at hb_0
   rw [<- hC1] at hb_1
   rw [<- hC2] at hb_2
   rw [<- hC3] at hb_3
   have v0 : (x : Int) % 256 = (C0 : Int) := by omega
   have v1 : (x : Int) / 256 % 256 = (C1 : Int) := by omega
   have v2 : (x : Int) / 65536 % 256 = (C2 : Int) := by omega
   have v3 : (x : Int) / 16777216 = (C3 : Int) := by omega
   obtain ⟨a, ha⟩ := yx (m - 4 * i)
   have ha4 : 4 <= a := by have := HM.out; omega
   have ham : a <= m := by omega
   obtain ⟨p, hp⟩ := yx (a - 4)
   have hai : (m : Int) - 4 * (i : Int) = (a : Int) := by have := HM.out; omega
   have q1 : (a : Int) - 1 = ((p + 3 : Nat) : Int) := by omega
   have q2 : (a : Int) - 2 = ((p + 2 : Nat) : Int) := by omega
   have q3 : (a : Int) - 3 = ((p + 1 : Nat) : Int) := by omega
   have q4 : (a : Int) - 4 = (p : Int) := by omega
   obtain ⟨p1, hp1⟩ := yx (p + 3)
   obtain ⟨p2, hp2⟩ := yx (p + 2)
   obtain ⟨p3, hp3⟩ := yx (p + 1)
   rw [<- hp1] at q1
   rw [<- hp2] at q2
   rw [<- hp3] at q3
   have m1 : (p1 : Int) < (m : Int) := by omega
   have m2 : (p2 : Int) < (m : Int) := by omega
   have m3 : (p3 : Int) < (m : Int) := by omega
   have m4 : (p : Int) < (m : Int) := by omega
   obtain ⟨w1, hw1⟩ := yx (wr.setCell ⟨w.heap.size + 1, p1, none⟩ (.int .u8 (C0 : Int)))
   obtain ⟨w2, hw2⟩ := yx (w1.setCell ⟨w.heap.size + 1, p2, none⟩ (.int .u8 (C1 : Int)))
   obtain ⟨w3, hw3⟩ := yx (w2.setCell ⟨w.heap.size + 1, p3, none⟩ (.int .u8 (C2 : Int)))
   have o1 : Own8 w1 (w.heap.size + 1) 5 (U.set p1 C0) := by rw [hw1]; exact hOwn.set (by omega) rfl
   have o2 : Own8 w2 (w.heap.size + 1) 5 ((U.set p1 C0).set p2 C1) := by rw [hw2]; exact o1.set (by rw [List.length_set]; omega) rfl
   have o3 : Own8 w3 (w.heap.size + 1) 5 (((U.set p1 C0).set p2 C1).set p3 C2) := by rw [hw3]; exact o2.set (by simp only [List.length_set]; omega) rfl
   have HS := vv (o3.set (i := p) (x := C3) (by simp only [List.length_set]; omega) rfl)
   have c1 := hOwn.cell (i := p1) (by omega)
   have f1 := hOwn.frozen p1
   have l1 := hOwn.lt
   have c2 := o1.cell (i := p2) (by simp only [List.length_set]; omega)
   have f2 := o1.frozen p2
   have l2 := o1.lt
   have c3 := o2.cell (i := p3) (by simp only [List.length_set]; omega)
   have f3 := o2.frozen p3
   have l3 := o2.lt
   have c4 := o3.cell (i := p) (by simp only [List.length_set]; omega)
   have f4 := o3.frozen p
   have l4 := o3.lt
   have HBs : Hid (Below (w.heap.size + 1) w0 (w3.setCell ⟨w.heap.size + 1, p, none⟩ (.int .u8 (C3 : Int)))) := vv (by
    rw [hw3, hw2, hw1]
    exact (((hB.setCell (Nat.le_refl _) _).setCell (Nat.le_refl _) _).setCell (Nat.le_refl _) _).setCell (Nat.le_refl _) _)
   have HNx : Hid (∀ j, m - 4 * (i + 1) <= j -> j < m -> nth ((((U.set p1 C0).set p2 C1).set p3 C2).set p C3) j = bt N (m - 1 - j)) := vv (fun j h1 h2 => by
    rw [nth_set _ p C3 j (by simp only [List.length_set]; omega), nth_set _ p3 C2 j (by simp only [List.length_set]; omega), nth_set _ p2 C1 j (by simp only [List.length_set]; omega), nth_set _ p1 C0 j (by omega)]
    have hm := HM.out
    by_cases e4 : j = p
    ·rw [if_pos e4, hC3]; congr 1; omega
    rw [if_neg e4]
    by_cases e3 : j = p3
    ·rw [if_pos e3, hC2]; congr 1; omega
    rw [if_neg e3]
    by_cases e2 : j = p2
    ·rw [if_pos e2, hC1]; congr 1; omega
    rw [if_neg e2]
    by_cases e1 : j = p1
    ·rw [if_pos e1, hC0]; congr 1; omega
    rw [if_neg e1]
    exact HvU.out j (by omega) h2)
   obtain ⟨z1, hz1⟩ := yx (nth U p1)
   obtain ⟨z2, hz2⟩ := yx (nth (U.set p1 C0) p2)
   obtain ⟨z3, hz3⟩ := yx (nth ((U.set p1 C0).set p2 C1) p3)
   obtain ⟨z4, hz4⟩ := yx (nth (((U.set p1 C0).set p2 C1).set p3 C2) p)
   rw [<- hz1] at c1
   rw [<- hz2] at c2
   rw [<- hz3] at c3
   rw [<- hz4] at c4
   clear hz1 hz2 hz3 hz4
   have HW1 := vv hw1
   have HW2 := vv hw2
   have HW3 := vv hw3
   have hxi : (x : Int) <= 4294967295 := by omega
   have hi2 : (i : Int) < (n : Int) := by omega
   have hii : (i : Int) <= 1000000 := by omega
   have hai2 : (a : Int) <= 4000000 := by omega
   clear hbl hb0 hcs hB hOwn hvU hlU hx hC0 hC1 hC2 hC3 hb_0 hb_1 hb_2 hb_3 hxl ha hp hp1 hp2 hp3 hw1 hw2 hw3 o1 o2 o3 hil him ha4 ham
   go_wp2_with (first | rw [<- HW1.out] | rw [<- HW2.out] | rw [<- HW3.out])
   go_roundw
   case rel => exact ⟨i + 1, _, by go_num, by omega, HS.out, by simp only [List.length_set]; exact HlU.out, HNx.out, HBs.out⟩
   case measure => simp [intOf]; omega
  ·obtain rfl : i = n := by omega
   have HBd : Hid (Bd wr (some ⟨w.heap.size + 1, 0, none⟩) m m N) := vv (HOwn.out.bd HlU.out.symm (Nat.le_refl _) hmb HNm.out (fun j h => HvU.out j (by have := HM.out; omega) h))
   have HBw : Hid (Below w.heap.size w wr) := vv (HB0.out.trans (hB.mono (by omega)))
   obtain ⟨w5, hw5⟩ := yx (wr.alloc (.cells #[.bool false, .slice none 0 0] 209))
   have b5 : Below wr.heap.size wr w5 := by rw [hw5]; exact (Below.refl _ wr).alloc (Nat.le_refl _) _
   have i5 : IntAt w5 wr.heap.size 0 0 := by rw [hw5]; exact IntAt.zero wr _
   have HSb := vv (A.SetBytes wr.heap.size 0 0 _ m m N w5 i5 (HBd.out.below b5 rfl) (by omega))
   have HI5 := vv i5
   have HW5 := vv hw5
   have HB5 := vn HBw b5
   clear hOwn hvU hlU hB him hil hw5 b5 i5
   go_wp2_with fail
   rw [<- HW5.out]
   refine HSb.out.mono ?_
   rintro e w6 ⟨rfl, hI, hF⟩
   have HI6 := vv hI
   have HB6 : Hid (Below w.heap.size w w6) := vv (Fm.below HB5.out hF HB5.out.size HBw.out.size)
   clear hI hF
   go_wp2
   go_ret
   exact ⟨_, rfl, HBw.out.size, HI6.out, HB6.out⟩
end Go.Proofs.YtddaldghlinokaaGreatDoor.Rtp
