/- Lemmas. -/
import Derived.Test.YtddaldghlinokaaGreatDoorPartAT
import Derived.Test.YtddaldghlinokaaGreatDoorPartAK
import Derived.Test.YtddaldghlinokaaGreatDoorPartAI
import Derived.Test.YtddaldghlinokaaGreatDoorPartAJ
import Derived.Test.YtddaldghlinokaaGreatDoorPartAC
import Derived.Test.YtddaldghlinokaaGreatDoorPartAQ
import Derived.Test.YtddaldghlinokaaGreatDoorPartAB
import Derived.Test.YtddaldghlinokaaGreatDoorPartAG
set_option linter.all false
namespace Go.Proofs.YtddaldghlinokaaGreatDoor.B
open Go Go.RowKit
def QrPost (g o gr or : Nat) (q r : Int) (w : World) (e : Ending) (w' : World) : Prop :=
 e = .returned (.tuple #[.pointer (some ⟨g, o, none⟩), .pointer (some ⟨gr, or, none⟩)]) /\ IntAt w' g o q /\ IntAt w' gr or r /\ Fs [(gr, or, 2), (g, o, 2)] w w'
def BelowPost (d : Nat) (w : World) (e : Ending) (w' : World) : Prop := ∃ A n c, e = .returned (.slice A n c) /\ Rd w' A n c (toL d) /\ (∀ a, A = some a -> a.off = 0) /\ Below w.heap.size w w'
end Go.Proofs.YtddaldghlinokaaGreatDoor.B
namespace Go.Proofs.YtddaldghlinokaaGreatDoor.R5
open Go Go.RowKit
abbrev fm (E F : Int) : Value := .agg #[.int .i64 E, .int .i64 F]
theorem pow_le64 {k : Nat} (h : k <= 62) : (1 : Int) <= 2 ^ k /\ (2 : Int) ^ k <= 4611686018427387904 := by
 have h1 : (2 : Nat) ^ k <= 2 ^ 62 := Nat.pow_le_pow_right (by omega) h
 have h2 := Nat.two_pow_pos k
 have h3 : ((2 ^ k : Nat) : Int) = (2 : Int) ^ k := by rw [Int.natCast_pow]; rfl
 rw [<- h3]; omega
theorem wu_pow {k : Nat} (h : k <= 63) : IntKind.u64.wrap (2 ^ k) = ((2 ^ k : Nat) : Int) := by
 have h1 : (2 : Nat) ^ k <= 2 ^ 63 := Nat.pow_le_pow_right (by omega) h
 have h3 : ((2 ^ k : Nat) : Int) = (2 : Int) ^ k := by rw [Int.natCast_pow]; rfl
 rw [<- h3, IntKind.wrap_u64]
 have := Nat.two_pow_pos k
 omega
theorem bl_pow (k : Nat) : bl (2 ^ k) = k + 1 := bl_eq (by rw [Nat.pow_succ]; have := Nat.two_pow_pos k; omega) (by rw [Nat.add_sub_cancel]; exact Nat.le_refl _) (by omega)
abbrev ratZ : Obj := .cells #[.bool false, .slice none 0 0, .slice none 0 0] 175
abbrev intZ : Obj := .cells #[.bool false, .slice none 0 0] 106
def moreN (neg : Bool) (mode N D : Nat) : Bool := more neg mode (decide (N / D % 2 = 1)) (cmpI (2 * (N % D)) D)
structure FmAt (w : World) (g : Nat) (E F : Int) : Prop where
 c0 : w.cell? ⟨g, 0, none⟩ = some (.int .i64 E)
 c1 : w.cell? ⟨g, 1, none⟩ = some (.int .i64 F)
 lt : g < w.heap.size
theorem FmAt.made (w : World) (E F : Int) (t : TypeId) : FmAt (w.alloc (.cells #[.int .i64 E, .int .i64 F] t)) w.heap.size E F :=
 ⟨by simp only [World.cell?]; rw [heap_alloc_new]; rfl, by simp only [World.cell?]; rw [heap_alloc_new]; rfl, by simp⟩
theorem FmAt.below {w w' : World} {g : Nat} {E F : Int} (h : FmAt w g E F) (hb : Below w.heap.size w w') : FmAt w' g E F :=
 ⟨(hb.cell (p := ⟨g, 0, none⟩) h.lt).trans h.c0, (hb.cell (p := ⟨g, 1, none⟩) h.lt).trans h.c1, Nat.lt_of_lt_of_le h.lt hb.size⟩
def BfPost (S : Nat) (o : Nat × Nat) (w : World) (e : Ending) (w' : World) : Prop := e = .returned (.tuple #[.int .u64 ((S + o.1 : Nat) : Int), .int .u8 (o.2 : Int)]) /\ Below w.heap.size w w'
theorem ret2 {k l : IntKind} {a b c d : Int} (h : a = b) (h' : c = d) : Ending.returned (.tuple #[.int k a, .int l c]) = .returned (.tuple #[.int k b, .int l d]) := by rw [h, h']
def sgb (E F : Nat) (b : Bool) : Nat := if b then 2 ^ (E + F) else 0
theorem out_over {E F : Nat} {neg : Bool} {mode a b : Nat} (h : over E F neg mode a b = true) : out E F neg mode a b = (if inner neg mode then inf_ E F - 1 else inf_ E F, 3) := by unfold out; rw [if_pos h]
theorem out_in {E F : Nat} {neg : Bool} {mode a b : Nat} (h : over E F neg mode a b = false) : out E F neg mode a b = (bits_ E F neg mode a b, flags_ E F neg mode a b) := by unfold out; rw [h]; rfl
abbrev natV (A : Option Addr) (n c : Nat) : Value := .agg #[.slice A n c]
abbrev ratioV (neg : Bool) (A : Option Addr) (n c : Nat) (B : Option Addr) (m d : Nat) : Value := .agg #[.bool neg, .slice A n c, .slice B m d]
abbrev dyadV (neg : Bool) (A : Option Addr) (n c : Nat) (e : Int) : Value := .agg #[.bool neg, .slice A n c, .int .i64 e]
def natOk (n : Nat) (xs : List Nat) : Bool := decide (n <= 16384) && (decide (n = 0) || decide (nth xs (n - 1) ≠ 0))
end Go.Proofs.YtddaldghlinokaaGreatDoor.R5
namespace Go.Proofs.YtddaldghlinokaaGreatDoor.B
open Go Go.RowKit
end Go.Proofs.YtddaldghlinokaaGreatDoor.B
namespace Go.Proofs.YtddaldghlinokaaGreatDoor.R5
open Go Go.RowKit
theorem natOk_toL {w : World} {A : Option Addr} {n c N : Nat} (h : Rd w A n c (toL N)) (hn : n <= 16384) : natOk n (toL N) = true := by
 unfold natOk
 rw [decide_eq_true hn, Bool.true_and]
 rcases Nat.eq_zero_or_pos n with h0 | h0
 ·rw [h0]; rfl
 ·have hN : 0 < N := by
   rcases Nat.eq_zero_or_pos N with e | e
   ·have := h.words; rw [e, words_zero] at this; omega
   ·exact e
  obtain ⟨-, e⟩ := bl_words hN
  rw [h.words] at e
  rw [decide_eq_false (p := n = 0) (by omega), Bool.false_or, decide_eq_true (by omega)]
structure RatioBox (w : World) (g : Nat) (neg : Bool) (A : Option Addr) (n c : Nat) (B : Option Addr) (m d : Nat) : Prop where
 c0 : w.cell? ⟨g, 0, none⟩ = some (.bool neg)
 c1 : w.cell? ⟨g, 1, none⟩ = some (.slice A n c)
 c2 : w.cell? ⟨g, 2, none⟩ = some (.slice B m d)
 lt : g < w.heap.size
theorem RatioBox.made (w : World) (neg : Bool) (A : Option Addr) (n c : Nat) (B : Option Addr) (m d : Nat) (t : TypeId) : RatioBox (w.alloc (.cells #[.bool neg, .slice A n c, .slice B m d] t)) w.heap.size neg A n c B m d :=
 ⟨by simp only [World.cell?]; rw [heap_alloc_new]; rfl, by simp only [World.cell?]; rw [heap_alloc_new]; rfl, by simp only [World.cell?]; rw [heap_alloc_new]; rfl, by simp⟩
theorem RatioBox.below {w w' : World} {g : Nat} {neg : Bool} {A : Option Addr} {n c : Nat} {B : Option Addr} {m d : Nat} (h : RatioBox w g neg A n c B m d) (hb : Below w.heap.size w w') : RatioBox w' g neg A n c B m d :=
 ⟨(hb.cell (p := ⟨g, 0, none⟩) h.lt).trans h.c0, (hb.cell (p := ⟨g, 1, none⟩) h.lt).trans h.c1, (hb.cell (p := ⟨g, 2, none⟩) h.lt).trans h.c2, Nat.lt_of_lt_of_le h.lt hb.size⟩
def BfePost (o : Nat × Nat) (w : World) (e : Ending) (w' : World) : Prop := e = .returned (.tuple #[.int .u64 (o.1 : Int), .int .u8 (o.2 : Int), .int .i64 0]) /\ Below w.heap.size w w'
def signedS (E F : Nat) (below neg : Bool) (mode a b : Nat) : Nat × Nat :=
 if a = 0 then (sgb E F neg, 0) else (sgb E F below + (out E F below mode a b).1, (out E F below mode a b).2)
theorem signed_near2 {E F N : Nat} {below neg : Bool} {mode : Nat} (c n : Int) (h1 : 2 <= E) (h2 : E <= 11) (h3 : 1 <= F) (h4 : F <= 52) (hc : 1200 <= c) :
  signedS E F below neg mode (N * p2 (near n (bl N + c))) (p2 (-near n (bl N + c))) = signedS E F below neg mode (N * p2 n) (p2 (-n)) := by
 rcases Nat.eq_zero_or_pos N with h0 | h0
 ·subst h0; simp [signedS]
 ·have k := near_twos (E := E) (F := F) (neg := below) (mode := mode) (a := N) c n h1 h2 h3 h4 h0 hc
  have q1 := Nat.mul_pos h0 (p2_pos (near n (bl N + c)))
  have q2 := Nat.mul_pos h0 (p2_pos n)
  unfold signedS
  rw [if_neg (by omega), if_neg (by omega), k]
def twoOk (neg : Bool) (n : Nat) (xs : List Nat) (e : Int) : Bool :=
 natOk n xs && decide (e <= 1073741824) && decide (-1073741824 <= e) && (if n = 0 then decide (e = 0) && !neg else decide (nth xs 0 % 2 = 1))
structure DyadBox (w : World) (g : Nat) (neg : Bool) (A : Option Addr) (n c : Nat) (e : Int) : Prop where
 c0 : w.cell? ⟨g, 0, none⟩ = some (.bool neg)
 c1 : w.cell? ⟨g, 1, none⟩ = some (.slice A n c)
 c2 : w.cell? ⟨g, 2, none⟩ = some (.int .i64 e)
 lt : g < w.heap.size
theorem DyadBox.made (w : World) (neg : Bool) (A : Option Addr) (n c : Nat) (e : Int) (t : TypeId) : DyadBox (w.alloc (.cells #[.bool neg, .slice A n c, .int .i64 e] t)) w.heap.size neg A n c e :=
 ⟨by simp only [World.cell?]; rw [heap_alloc_new]; rfl, by simp only [World.cell?]; rw [heap_alloc_new]; rfl, by simp only [World.cell?]; rw [heap_alloc_new]; rfl, by simp⟩
theorem DyadBox.below {w w' : World} {g : Nat} {neg : Bool} {A : Option Addr} {n c : Nat} {e : Int} (h : DyadBox w g neg A n c e) (hb : Below w.heap.size w w') : DyadBox w' g neg A n c e :=
 ⟨(hb.cell (p := ⟨g, 0, none⟩) h.lt).trans h.c0, (hb.cell (p := ⟨g, 1, none⟩) h.lt).trans h.c1, (hb.cell (p := ⟨g, 2, none⟩) h.lt).trans h.c2, Nat.lt_of_lt_of_le h.lt hb.size⟩
end Go.Proofs.YtddaldghlinokaaGreatDoor.R5
namespace Go.Proofs.YtddaldghlinokaaGreatDoor.A
open Go Go.RowKit
set_option maxRecDepth 100000 in
set_option maxHeartbeats 2000000 in
theorem SetBytes (g o : Nat) (v : Int) (A : Option Addr) (m c N : Nat) (w : World) (h : IntAt w g o v) (hb : Bd w A m c N) (hm : m <= 4294967296) :
  Calls Tryz.prog 246 #[.pointer (some ⟨g, o, none⟩), .slice A m c] w (SetPost g o (N : Int) w) := by
 obtain ⟨L, hL⟩ := yx ((m + 3) / 4)
 have hLb : L <= 1099511627776 := by omega
 have hLi : (L : Int) <= 1099511627776 := by omega
 have hLq : ((m : Int) + 3) / 4 = (L : Int) := by omega
 have hmi : (m : Int) <= 4294967296 := by omega
 have hmk := mk L hLb
 have HI := vv h
 have HBd := vv hb
 have HL := vv hL
 have H1 : Hid (Own (w.alloc (.cells (madeCells #[.int .u32 0] L) 34)) w.heap.size 34 (List.replicate L 0)) := vv (Own.made w L 34)
 have H3 : Hid (Below w.heap.size w (w.alloc (.cells (madeCells #[.int .u32 0] L) 34))) := vv ((Below.refl _ w).alloc (Nat.le_refl _) _)
 clear h hb hL
 go_enter Tryz.func246, Tryz.ntmps246
 go_wp2
 clear hLq
 go_loopw [16] (fun t wr => ∃ (i : Nat) (W : List Nat), t = .int .i64 i /\ i <= m /\ Own wr w.heap.size 34 W /\ W.length = L /\ val W = hi N (m - i) /\ Below w.heap.size w wr) (fun t _ => m - (intOf t).toNat)
 case atStart => exact ⟨0, List.replicate L 0, rfl, Nat.zero_le _, H1.out, List.length_replicate, by rw [val_replicate, Nat.sub_zero, hi_top HBd.out.lt], H3.out⟩
 case round =>
  obtain ⟨i, W, rfl, hil, hOwn, hlW, hvW, hB⟩ := hrel
  have HOwn := vv hOwn
  have HlW := vv hlW
  have HB := vv hB
  by_cases him : i < m
  ·obtain ⟨k, hk⟩ := yx (m - 1 - i)
   have hv1 : val W = hi N (k + 1) := by rw [hvW]; congr 1; omega
   have hki : (m : Int) - 1 - (i : Int) = (k : Int) := by omega
   obtain ⟨b, off, e, hbl, hcs⟩ := HBd.out.cell (by omega)
   subst e
   have hbc := (hB.cell (p := ⟨b, off + i, none⟩) hbl).trans (hcs i him)
   rw [<- hk] at hbc
   obtain ⟨q, hq⟩ := yx (k / 4)
   have hqL : q < L := by have := HL.out; omega
   have hqW : q < W.length := by omega
   have hq4 : (k : Int) / 4 = (q : Int) := by omega
   have hki2 : (k : Int) <= 4294967296 := by omega
   have hqLi : (q : Int) < (L : Int) := by omega
   obtain ⟨r, hr⟩ := yx (k % 4)
   have hr4 : (k : Int).tmod 4 = (r : Int) := by rw [Int.tmod_eq_emod_of_nonneg (by omega)]; omega
   have hwq : IntKind.i64.wrap (q : Int) = (q : Int) := by rw [IntKind.wrap_i64]; omega
   have hq0 : (0 : Int) <= (q : Int) := by omega
   obtain ⟨s1, s2, s3, s4⟩ := byte_step hOwn.2 hqW (show k = 4 * q + r by omega) (by omega) hv1
   have hwc := hOwn.cell hqW
   have hwf := hOwn.frozen q
   have hwl := hOwn.lt
   have HS := vv (hOwn.set (x := nth W q + bt N k * 256 ^ r) hqW s2 rfl)
   have hcl := bt_lt N k
   obtain ⟨C, hC⟩ := yx (bt N k)
   obtain ⟨x, hx⟩ := yx (nth W q)
   rw [<- hC, <- hx] at s1 s2 s4 HS
   rw [<- hC] at s3 hcl hbc
   rw [<- hx] at hwc
   have hwC : IntKind.u32.wrap (C : Int) = (C : Int) := by rw [IntKind.wrap_u32]; omega
   obtain ⟨D, hD⟩ := yx (C * 256 ^ r)
   rw [<- hD] at s1 s2 s3 s4 HS
   obtain ⟨s, hs⟩ := yx (8 * r)
   have hr8 : IntKind.i64.wrap (8 * (r : Int)) = (s : Int) := by rw [IntKind.wrap_i64]; omega
   have hs0 : (0 : Int) <= (s : Int) := by omega
   have hs32 : (s : Int) <= 32 := by omega
   have hsh : IntKind.u32.wrap ((C : Int) * 2 ^ s) = (D : Int) := by
    have e : (C : Int) * 2 ^ s = (D : Int) := by
     have e2 : (2 : Int) ^ s = ((256 ^ r : Nat) : Int) := by rw [hs, Int.natCast_pow, Int.pow_mul]; rfl
     rw [e2, hD, Int.natCast_mul]
    rw [e, IntKind.wrap_u32]; omega
   have HHi : Hid (hi N k = hi N (m - (i + 1))) := vv (by rw [hk]; congr 1; omega)
   have HS4 := vv s4
   clear hbl hcs hB hOwn hv1 hvW hlW hr hq hk hC hx hD hs s2 s3 s4
   go_wp2
   refine wp_region_sch (fun w' => w'.cell? ⟨w.heap.size, q, none⟩ = some (.int .u32 (x : Int))) 13
    (.still 0 (.still 1 (.still 2 (.still 3 (.still 4 (.still 5 (.still 6 (.still 7 (.still 8 (.still 9 (.still 10 (.still 11 (.still 12 .done))))))))))))) (by kernel_rfl) (by kernel_rfl) (fun _ _ d _ _ h => by cases d <;> exact h) hwc (fun hS0 => ?_)
   iterate 13
    refine sch_still (v := ?_) rfl (by rfl) ?_ ?_
    rotate_left
    ·intro w hSw; go_simp; with_reducible rfl
    simp only [Act.put, List.setIfInBounds_toArray, List.set_cons_zero, List.set_cons_succ]
   refine sch_done ?_
   go_wp2
   go_roundw
   case rel =>
    exact ⟨i + 1, W.set q (x + D), by go_num, by omega, HS.out, by rw [List.length_set]; exact HlW.out, HS4.out.trans HHi.out, (HB.out.drew).setCell (Nat.le_refl _) _⟩
   case measure => simp [intOf]; omega
  ·obtain rfl : i = m := by omega
   rw [Nat.sub_self, hi_zero] at hvW
   have HvW := vv hvW
   have HI2 := vv (HI.out.below (hB.mono (Nat.le_refl _)))
   have hil2 : (i : Int) <= (i : Int) := Int.le_refl _
   clear hOwn hvW hlW hB him hil hil2
   go_wp2_with fail
   refine (trim (some ⟨w.heap.size, 0, none⟩) L L W wr (HOwn.out.rd HlW.out.symm (Nat.le_refl _) hLb)).mono ?_
   rintro e w' ⟨m', rfl, rfl, hR⟩
   rw [HvW.out] at hR
   have HR := vv hR
   have HSw := vv (SetWords g o v _ _ _ (toL N) wr HI2.out HR.out)
   rw [val_toL] at HSw
   clear hR
   go_wp2_with fail
   refine HSw.out.mono ?_
   rintro e w3 ⟨rfl, hI, hF⟩
   have HI3 := vv hI
   have HF3 := vv (Fm.trans (Fm.of_below HB.out HI.out.lt) hF)
   clear hI hF
   go_wp2
   go_ret
   exact ⟨rfl, HI3.out, HF3.out⟩
theorem inf8 : (Tryz.prog.info? 5).map (fun i => (i.zero, i.size, i.bytes)) = some (some (.int .u8 0), 1, 1) := by kernel_rfl
theorem mk8 (n : Nat) (h : n <= 1099511627776) (w : World) : (Instr.makeSlice 149 (.int .i64 (n : Int)) (.int .i64 (n : Int))).run Tryz.prog w = .ok (.slice (some ⟨w.heap.size, 0, none⟩) n n) (w.alloc (.cells (madeCells #[.int .u8 0] n) 5)) :=
 run_make_row' (P := Tryz.prog) 149 5 (.int .u8 0) 1 Tryz.underlying149 inf8 rfl .i64 .i64 n (by omega) (by omega) w
theorem lt_bytes (N : Nat) : N < 256 ^ ((bl N + 7) / 8) := by
 have h : (256 : Nat) ^ ((bl N + 7) / 8) = 2 ^ (8 * ((bl N + 7) / 8)) := by rw [Nat.pow_mul]
 rw [h]
 exact Nat.lt_of_lt_of_le (lt_bl N) (Nat.pow_le_pow_right (by decide) (by omega))
theorem bl_words (N : Nat) : bl N <= 32 * words N := bl_le (by have h := lt_words N; rwa [show (4294967296 : Nat) ^ words N = 2 ^ (32 * words N) by rw [Nat.pow_mul]] at h)
set_option maxRecDepth 100000 in
set_option maxHeartbeats 2000000 in
theorem Bytes (g o : Nat) (u : Int) (w : World) (h : IntAt w g o u) (sN : bl u.natAbs <= 4294967296) :
  Calls Tryz.prog 310 #[.pointer (some ⟨g, o, none⟩)] w fun e w' => ∃ A m, e = .returned (.slice A m m) /\ m = (bl u.natAbs + 7) / 8 /\ Bd w' A m m u.natAbs /\ Below w.heap.size w w' := by
 have HBl := vv fun w' (h : IntAt w' g o u) => BitLen g o u w' h
 obtain ⟨N, hN⟩ := yx (u.natAbs)
 have hlx := h.lt
 obtain ⟨A, n, c, h0, h1, hr, hz⟩ := h.ex
 rw [<- hN] at HBl sN hr ⊢
 obtain ⟨m, hm⟩ := yx ((bl N + 7) / 8)
 have hwn : bl N <= 32 * n := by have := bl_words N; rwa [hr.words] at this
 have hlt := lt_bytes N
 rw [<- hm] at hlt ⊢
 have hmb : m <= 1099511627776 := by omega
 have hmk := mk8 m hmb
 have hmq : ((bl N : Int) + 7) / 8 = (m : Int) := by omega
 obtain ⟨b0, hb0⟩ := yx (bl N)
 rw [<- hb0] at HBl hmq sN
 have hbi : (b0 : Int) <= 4294967296 := by omega
 have hmi : (m : Int) <= 1000000000 := by omega
 have hm4 : m <= 4 * n := by omega
 have HI := vv h
 have HR := vv hr
 have HZ := vv hz
 have HLT := vv hlt
 have HM4 := vv hm4
 have HNw := vv hr.sm
 have H1 : Hid (Own8 (w.alloc (.cells (madeCells #[.int .u8 0] m) 5)) w.heap.size 5 (List.replicate m 0)) := vv (Own8.made w m 5)
 have H3 : Hid (Below w.heap.size w (w.alloc (.cells (madeCells #[.int .u8 0] m) 5))) := vv ((Below.refl _ w).alloc (Nat.le_refl _) _)
 clear h hr hz hm hwn hlt hm4 hN hb0
 go_enter Tryz.func310, Tryz.ntmps310
 go_wp2_with fail
 refine (HBl.out _ HI.out).mono ?_
 rintro e w' ⟨rfl, rfl⟩
 go_wp2
 clear hmq
 go_loopw [13] (fun t wr => ∃ (i : Nat) (U : List Nat), t = .int .i64 i /\ i <= m /\ Own8 wr w.heap.size 5 U /\ U.length = m /\ (∀ j, j < i -> nth U j = bt N (m - 1 - j)) /\ Below w.heap.size w wr) (fun t _ => m - (intOf t).toNat)
 case atStart => exact ⟨0, List.replicate m 0, rfl, Nat.zero_le _, H1.out, List.length_replicate, fun j hj => absurd hj (by omega), H3.out⟩
 case round =>
  obtain ⟨i, U, rfl, hil, hOwn, hlU, hvU, hB⟩ := hrel
  have HOwn := vv hOwn
  have HlU := vv hlU
  have HvU := vv hvU
  have HB := vv hB
  by_cases him : i < m
  ·obtain ⟨k, hk⟩ := yx (m - 1 - i)
   have hki : (m : Int) - 1 - (i : Int) = (k : Int) := by omega
   obtain ⟨q, hq⟩ := yx (k / 4)
   have hqn : q < n := by have := HM4.out; omega
   obtain ⟨b, off, e, hbl, hcs⟩ := HR.out.cell (by omega)
   subst e
   have hwc := (hB.cell (p := ⟨b, off + q, none⟩) hbl).trans (hcs q hqn)
   have j1 := (hB.cell (p := ⟨g, o + 1, none⟩) hlx).trans h1
   have hlx2 : g < wr.heap.size := Nat.lt_of_lt_of_le hlx hB.size
   have hq4 : (k : Int) / 4 = (q : Int) := by omega
   obtain ⟨r, hr⟩ := yx (k % 4)
   have hr4 : (k : Int) % 4 = (r : Int) := by omega
   have hr4' : (k : Int).tmod 4 = (r : Int) := by rw [Int.tmod_eq_emod_of_nonneg (by omega)]; exact hr4
   have hri : (r : Int) <= 3 := by omega
   have hqni : (q : Int) < (n : Int) := by omega
   have hxl : nth (toL N) q < 4294967296 := HR.out.nth_lt q
   have hwb := word_byte (Lim_toL N) q r (by omega)
   rw [val_toL, show 4 * q + r = k by omega] at hwb
   obtain ⟨x, hx⟩ := yx (nth (toL N) q)
   obtain ⟨C, hC⟩ := yx (bt N k)
   rw [<- hx] at hwc hxl hwb
   rw [<- hC] at hwb
   obtain ⟨s, hs⟩ := yx (8 * r)
   have hr8 : 8 * (r : Int) = (s : Int) := by omega
   have hs24 : (s : Int) <= 24 := by omega
   have hsh : (x : Int) / 2 ^ s % 256 = (C : Int) := by
    have e2 : (2 : Int) ^ s = ((256 ^ r : Nat) : Int) := by rw [hs, Int.natCast_pow, Int.pow_mul]; rfl
    rw [e2, <- hwb, Int.natCast_emod, Int.natCast_ediv]; rfl
   have hoc := hOwn.cell (i := i) (by omega)
   have hof := hOwn.frozen i
   have hol := hOwn.lt
   have HS := vv (hOwn.set (i := i) (x := C) (by omega) rfl)
   have HNx : Hid (∀ j, j < i + 1 -> nth (U.set i C) j = bt N (m - 1 - j)) := vv (fun j hj => by
    rw [nth_set U i C j (by omega)]
    split
    ·rename_i e; rw [e, hC, hk]
    ·exact HvU.out j (by omega))
   have hxi : (x : Int) <= 4294967295 := by omega
   have hki9 : (k : Int) <= 1000000000 := by omega
   have him2 : (i : Int) < (m : Int) := by omega
   clear hbl hcs hB hOwn hvU hlU hr hq hk hC hx hs hwb hxl hil him
   go_wp2
   go_roundw
   case rel => exact ⟨i + 1, U.set i C, by go_num, by omega, HS.out, by rw [List.length_set]; exact HlU.out, HNx.out, (HB.out).setCell (Nat.le_refl _) _⟩
   case measure => simp [intOf]; omega
  ·obtain rfl : i = m := by omega
   clear hOwn hlU hvU hB him hil
   go_wp2
   go_ret
   exact ⟨_, _, rfl, rfl, HOwn.out.bd HlU.out.symm (Nat.le_refl _) hmb HLT.out HvU.out, HB.out⟩
theorem Mul (g o gx ox gy oy : Nat) (v u1 u2 : Int) (w : World) (h : IntAt w g o v) (hx : IntAt w gx ox u1) (hy : IntAt w gy oy u2) (hn : Sz u1.natAbs) (hm : Sz u2.natAbs) :
  Calls Tryz.prog 209 #[.pointer (some ⟨g, o, none⟩), .pointer (some ⟨gx, ox, none⟩), .pointer (some ⟨gy, oy, none⟩)] w (SetPost g o (u1 * u2) w) := by
 have HI := vv h
 have hlx := hx.lt
 have hly := hy.lt
 obtain ⟨A, n, c, h0, h1, hr, hz⟩ := hx.ex
 obtain ⟨B, m, d, k0, k1, hs, hy⟩ := hy.ex
 have HM := vv (mulWords A B n m c d _ _ _ hr.drew hs.drew (by have := hr.sz hn; have := hs.sz hm; omega))
 clear hr hz hs hy h hx hn hm
 go_enter Tryz.func209, Tryz.ntmps209
 go_wp2_with fail
 refine wp_region_sch (fun w' => w'.cell? ⟨gx, ox, none⟩ = some (.bool (decide (u1 < 0))) /\ w'.cell? ⟨gx, ox + 1, none⟩ = some (.slice A n c) /\ w'.cell? ⟨gy, oy, none⟩ = some (.bool (decide (u2 < 0))) /\ w'.cell? ⟨gy, oy + 1, none⟩ = some (.slice B m d)) 19
  (.still 0 (.still 1 (.still 2 (.still 3 (.still 4 (.still 5 (.still 6 (.still 7 (.still 8 (.still 9 (.still 10 (.still 11 (.still 12 (.still 13 (.still 14 (.still 15 (.still 16 (.still 17 (.one 18 .done))))))))))))))))))) (by kernel_rfl) (by kernel_rfl) (fun _ _ d _ _ h => by cases d <;> exact h) ⟨h0, h1, k0, k1⟩ (fun hS0 => ?_)
 iterate 18
  refine sch_still (v := ?_) rfl (by rfl) ?_ ?_
  rotate_left
  ·intro w hSw; go_simp; with_reducible rfl
  simp only [Act.put, List.setIfInBounds_toArray, List.set_cons_zero, List.set_cons_succ]
 refine sch_one rfl (by rfl) (fun K hK => ?_)
 go_simp
 refine HM.out.mono ?_
 rintro e w1 ⟨A', m', c', rfl, hR, hFr, hB⟩
 go_wp2_with fail
 refine hK.out _ _ ⟨(hB.cell (p := ⟨gx, ox, none⟩) hlx).trans h0, (hB.cell (p := ⟨gx, ox + 1, none⟩) hlx).trans h1, (hB.cell (p := ⟨gy, oy, none⟩) hly).trans k0, (hB.cell (p := ⟨gy, oy + 1, none⟩) hly).trans k1⟩ (fun hHeld => ?_)
 clear hK
 refine sch_done ?_
 go_wp2_with fail
 refine (set_of g o v (u1 * u2) _ A' m' c' (u1.natAbs * u2.natAbs) _ (HI.out.drew.below hB) (by rw [val_toL, val_toL] at hR; exact hR) (fun a e => (hFr a e).2) (Int.natAbs_mul u1 u2) ?_).mono ?_
 ·rw [sg_mul]; rfl
 rintro e w2 ⟨rfl, hI, hF⟩
 go_wp2
 go_ret
 exact ⟨rfl, hI, ((Fm.of_below hB HI.out.lt).trans hF).undrew⟩
theorem added_same (g o : Nat) (v u : Int) (b : Bool) (N M : Nat) (A B : Option Addr) (n m c d : Nat) (w : World) (h : IntAt w g o v) (ha : Rd w A n c (toL N)) (hb : Rd w B m d (toL M)) (hn : Sz N) (hm : Sz M) (hu : u = sg b (N + M)) :
  Calls Tryz.prog 321 #[.pointer (some ⟨g, o, none⟩), .slice A n c, .bool b, .slice B m d, .bool b] w (SetPost g o u w) := by
 have HI := vv h
 have HM := vv (addWords A B n m c d _ _ w ha hb (by have := ha.sz hn; omega) (by have := hb.sz hm; omega))
 have HU := vv hu
 clear ha hb hn hm h hu
 have hbb : (b == b) = true := by cases b <;> rfl
 go_enter Tryz.func321, Tryz.ntmps321
 go_wp2_with fail
 refine HM.out.mono ?_
 rintro e w1 ⟨A', m', c', rfl, hR, hFr, hB⟩
 rw [val_toL, val_toL] at hR
 have HR := vv hR
 clear hR
 go_wp2_with fail
 refine (set_of g o v u b A' m' c' (N + M) _ (HI.out.below hB) HR.out (fun a e => (hFr a e).2) (by rw [HU.out, sg_abs]) (by rw [HU.out, sg_neg'])).mono ?_
 rintro e w2 ⟨rfl, hI, hF⟩
 go_wp2
 go_ret
 exact ⟨rfl, hI, (Fm.of_below hB HI.out.lt).trans hF⟩
theorem added_ge (g o : Nat) (v u : Int) (b : Bool) (N M : Nat) (t : Int) (A B : Option Addr) (n m c d : Nat) (w : World) (h : IntAt w g o v) (ha : Rd w A n c (toL N)) (hb : Rd w B m d (toL M)) (ht : cmpI N M = t) (h0 : t = 0 \/ t = 1) (hle : M <= N) (hu : u = sg b (N - M)) :
  Calls Tryz.prog 321 #[.pointer (some ⟨g, o, none⟩), .slice A n c, .bool b, .slice B m d, .bool (!b)] w (SetPost g o u w) := by
 have HI := vv h
 have HC := vv (cmpWords A B n m c d _ _ w ha hb (by rw [val_toL]) (by rw [val_toL]))
 have HA := vv ha
 have HB := vv hb
 have HU := vv hu
 have HL := vv hle
 have HT := vv ht
 have hbb : (b == !b) = false := by cases b <;> rfl
 clear ha hb h hu hle ht
 rcases h0 with rfl | rfl
 all_goals
  go_enter Tryz.func321, Tryz.ntmps321
  go_wp2_with fail
  refine HC.out.mono ?_
  rintro e w1 ⟨rfl, hB⟩
  rw [val_toL, val_toL, HT.out]
  go_wp2_with fail
  refine (subWords A B n m c d _ _ _ (HA.out.below hB rfl) (HB.out.below hB rfl) (by rw [val_toL, val_toL]; exact HL.out) (HB.out.le_of HA.out HL.out)).mono ?_
  rintro e w2 ⟨A', m', c', rfl, hR, hFr, hB2⟩
  rw [val_toL, val_toL] at hR
  have HR := vv hR
  have HB2 := vv (hB.trans (hB2.mono hB.size))
  clear hR hB2
  go_wp2_with fail
  refine (set_of g o v u b A' m' c' (N - M) _ (HI.out.below HB2.out) HR.out (fun a e => (hFr a e).2) (by rw [HU.out, sg_abs]) (by rw [HU.out, sg_neg'])).mono ?_
  rintro e w3 ⟨rfl, hI, hF⟩
  go_wp2
  go_ret
  exact ⟨rfl, hI, (Fm.of_below HB2.out HI.out.lt).trans hF⟩
theorem added_lt (g o : Nat) (v u : Int) (b : Bool) (N M : Nat) (A B : Option Addr) (n m c d : Nat) (w : World) (h : IntAt w g o v) (ha : Rd w A n c (toL N)) (hb : Rd w B m d (toL M)) (ht : cmpI N M = -1) (hle : N <= M) (hu : u = sg (!b) (M - N)) :
  Calls Tryz.prog 321 #[.pointer (some ⟨g, o, none⟩), .slice A n c, .bool b, .slice B m d, .bool (!b)] w (SetPost g o u w) := by
 have HI := vv h
 have HC := vv (cmpWords A B n m c d _ _ w ha hb (by rw [val_toL]) (by rw [val_toL]))
 have HA := vv ha
 have HB := vv hb
 have HU := vv hu
 have HL := vv hle
 have HT := vv ht
 have hbb : (b == !b) = false := by cases b <;> rfl
 clear ha hb h hu hle ht
 go_enter Tryz.func321, Tryz.ntmps321
 go_wp2_with fail
 refine HC.out.mono ?_
 rintro e w1 ⟨rfl, hB⟩
 rw [val_toL, val_toL, HT.out]
 go_wp2_with fail
 refine (subWords B A m n d c _ _ _ (HB.out.below hB rfl) (HA.out.below hB rfl) (by rw [val_toL, val_toL]; exact HL.out) (HA.out.le_of HB.out HL.out)).mono ?_
 rintro e w2 ⟨A', m', c', rfl, hR, hFr, hB2⟩
 rw [val_toL, val_toL] at hR
 have HR := vv hR
 have HB2 := vv (hB.trans (hB2.mono hB.size))
 clear hR hB2
 go_wp2_with fail
 refine (set_of g o v u (!b) A' m' c' (M - N) _ (HI.out.below HB2.out) HR.out (fun a e => (hFr a e).2) (by rw [HU.out, sg_abs]) (by rw [HU.out, sg_neg'])).mono ?_
 rintro e w3 ⟨rfl, hI, hF⟩
 go_wp2
 go_ret
 exact ⟨rfl, hI, (Fm.of_below HB2.out HI.out.lt).trans hF⟩
theorem added (g o : Nat) (v : Int) (a b : Bool) (N M : Nat) (A B : Option Addr) (n m c d : Nat) (w : World) (h : IntAt w g o v) (ha : Rd w A n c (toL N)) (hb : Rd w B m d (toL M)) (hn : Sz N) (hm : Sz M) :
  Calls Tryz.prog 321 #[.pointer (some ⟨g, o, none⟩), .slice A n c, .bool a, .slice B m d, .bool b] w (SetPost g o (sg a N + sg b M) w) := by
 by_cases e : b = a
 ·subst e
  exact added_same g o v _ b N M A B n m c d w h ha hb hn hm (by cases b <;> simp [sg] <;> omega)
 ·obtain rfl : b = !a := by cases a <;> cases b <;> simp_all
  rcases Nat.lt_trichotomy N M with k | k | k
  ·exact added_lt g o v _ a N M A B n m c d w h ha hb (by unfold cmpI; simp [k]) (by omega) (by cases a <;> simp [sg] <;> omega)
  ·exact added_ge g o v _ a N M 0 A B n m c d w h ha hb (by unfold cmpI; simp [k]) (.inl rfl) (by omega) (by cases a <;> simp [sg] <;> omega)
  ·exact added_ge g o v _ a N M 1 A B n m c d w h ha hb (by unfold cmpI; simp [k]; omega) (.inr rfl) (by omega) (by cases a <;> simp [sg] <;> omega)
theorem Add (g o gx ox gy oy : Nat) (v u1 u2 : Int) (w : World) (h : IntAt w g o v) (hx : IntAt w gx ox u1) (hy : IntAt w gy oy u2) (hn : Sz u1.natAbs) (hm : Sz u2.natAbs) :
  Calls Tryz.prog 265 #[.pointer (some ⟨g, o, none⟩), .pointer (some ⟨gx, ox, none⟩), .pointer (some ⟨gy, oy, none⟩)] w (SetPost g o (u1 + u2) w) := by
 obtain ⟨A, n, c, h0, h1, hr, hz⟩ := hx.ex
 obtain ⟨B, m, d, k0, k1, hs, hy⟩ := hy.ex
 have HM := vv (added g o v (decide (u1 < 0)) (decide (u2 < 0)) _ _ A B n m c d w.drew h.drew hr.drew hs.drew hn hm)
 clear hr hz hs hy h hx hn hm
 go_enter Tryz.func265, Tryz.ntmps265
 go_wp2_with fail
 refine wp_region_sch (fun w' => w'.cell? ⟨gx, ox, none⟩ = some (.bool (decide (u1 < 0))) /\ w'.cell? ⟨gx, ox + 1, none⟩ = some (.slice A n c) /\ w'.cell? ⟨gy, oy, none⟩ = some (.bool (decide (u2 < 0))) /\ w'.cell? ⟨gy, oy + 1, none⟩ = some (.slice B m d)) 17
  (.still 0 (.still 1 (.still 2 (.still 3 (.still 4 (.still 5 (.still 6 (.still 7 (.still 8 (.still 9 (.still 10 (.still 11 (.still 12 (.still 13 (.still 14 (.still 15 (.still 16 .done))))))))))))))))) (by kernel_rfl) (by kernel_rfl) (fun _ _ d _ _ h => by cases d <;> exact h) ⟨h0, h1, k0, k1⟩ (fun hS0 => ?_)
 iterate 17
  refine sch_still (v := ?_) rfl (by rfl) ?_ ?_
  rotate_left
  ·intro w hSw; go_simp; with_reducible rfl
  simp only [Act.put, List.setIfInBounds_toArray, List.set_cons_zero, List.set_cons_succ]
 refine sch_done ?_
 go_wp2_with fail
 refine HM.out.mono ?_
 rintro e w1 ⟨rfl, hI, hF⟩
 rw [sg_of, sg_of] at hI
 go_wp2
 go_ret
 exact ⟨rfl, hI, hF.undrew⟩
theorem Lsh (g o gx ox k : Nat) (v u : Int) (w : World) (h : IntAt w g o v) (hx : IntAt w gx ox u) (hn : Sz u.natAbs) (hk : k < 1000000000000) :
  Calls Tryz.prog 210 #[.pointer (some ⟨g, o, none⟩), .pointer (some ⟨gx, ox, none⟩), .int .u64 (k : Int)] w (SetPost g o (u * 2 ^ k) w) := by
 have HI := vv h
 have hlx := hx.lt
 obtain ⟨A, n, c, h0, h1, hr, hz⟩ := hx.ex
 have HM := vv (up A n c _ k _ rfl _ hr.drew (by have := hr.sz hn; omega))
 have hk2 : IntKind.i64.wrap (k : Int) = (k : Int) := by rw [IntKind.wrap_i64]; omega
 clear hr hz h hx hn
 go_enter Tryz.func210, Tryz.ntmps210
 go_wp2_with fail
 refine wp_region_sch (fun w' => w'.cell? ⟨gx, ox, none⟩ = some (.bool (decide (u < 0))) /\ w'.cell? ⟨gx, ox + 1, none⟩ = some (.slice A n c)) 12
  (.still 0 (.still 1 (.still 2 (.still 3 (.still 4 (.still 5 (.still 6 (.still 7 (.still 8 (.still 9 (.still 10 (.one 11 .done)))))))))))) (by kernel_rfl) (by kernel_rfl) (fun _ _ d _ _ h => by cases d <;> exact h) ⟨h0, h1⟩ (fun hS0 => ?_)
 iterate 11
  refine sch_still (v := ?_) rfl (by rfl) ?_ ?_
  rotate_left
  ·intro w hSw; go_simp; with_reducible rfl
  simp only [Act.put, List.setIfInBounds_toArray, List.set_cons_zero, List.set_cons_succ]
 refine sch_one rfl (by rfl) (fun K hK => ?_)
 go_simp
 refine HM.out.mono ?_
 rintro e w1 ⟨A', m', c', rfl, hR, hFr, hB⟩
 go_wp2_with fail
 refine hK.out _ _ ⟨(hB.cell (p := ⟨gx, ox, none⟩) hlx).trans h0, (hB.cell (p := ⟨gx, ox + 1, none⟩) hlx).trans h1⟩ (fun hHeld => ?_)
 clear hK
 refine sch_done ?_
 go_wp2_with fail
 refine (set_of g o v (u * 2 ^ k) _ A' m' c' (u.natAbs * 2 ^ k) _ (HI.out.drew.below hB) (by rw [val_toL] at hR; exact hR) (fun a e => (hFr a e).2) (by rw [Int.natAbs_mul, Int.natAbs_pow]; rfl) ?_).mono ?_
 ·exact sg_shift u k
 rintro e w2 ⟨rfl, hI, hF⟩
 go_wp2
 go_ret
 exact ⟨rfl, hI, ((Fm.of_below hB HI.out.lt).trans hF).undrew⟩
theorem Uint64 (g o : Nat) (u : Int) (w : World) (h : IntAt w g o u) (hu : u.natAbs < 18446744073709551616) :
  Calls Tryz.prog 268 #[.pointer (some ⟨g, o, none⟩)] w fun e w' => e = .returned (.int .u64 ((u.natAbs : Nat) : Int)) /\ w = w' := by
 obtain ⟨A, n, c, h0, h1, hr, hz⟩ := h.ex
 have HM := vv (toUint A n c _ w hr)
 have HV := vv (two_words hu)
 clear hr hz h
 go_enter Tryz.func268, Tryz.ntmps268
 go_wp2_with fail
 refine HM.out.mono ?_
 rintro e w1 ⟨rfl, rfl⟩
 rw [HV.out]
 go_wp2
 go_ret
 exact ⟨rfl, rfl⟩
theorem NewInt (x : Int) (w : World) (h1 : -9223372036854775808 <= x) (h2 : x <= 9223372036854775807) :
  Calls Tryz.prog 111 #[.int .i64 x] w (NewPost x w) := by
 go_enter Tryz.func111, Tryz.ntmps111
 go_wp2_with fail
 refine (SetInt64 _ _ 0 x _ (IntAt.zero w 209) h1 h2).mono ?_
 rintro e w1 ⟨rfl, hI, hF⟩
 go_wp2
 go_ret
 exact ⟨_, rfl, Nat.le_refl _, hI, hF.below ((Below.refl _ w).alloc (Nat.le_refl _) _) (by simp) (Nat.le_refl _)⟩
theorem Cmp_ff (g o gx ox N M n c m d : Nat) (A B : Option Addr) (w : World) (h0 : w.cell? ⟨g, o, none⟩ = some (.bool false)) (h1 : w.cell? ⟨g, o + 1, none⟩ = some (.slice A n c)) (k0 : w.cell? ⟨gx, ox, none⟩ = some (.bool false)) (k1 : w.cell? ⟨gx, ox + 1, none⟩ = some (.slice B m d))
  (ha : Rd w A n c (toL N)) (hb : Rd w B m d (toL M)) :
  Calls Tryz.prog 255 #[.pointer (some ⟨g, o, none⟩), .pointer (some ⟨gx, ox, none⟩)] w fun e w' => e = .returned (.int .i64 (cmpI N M)) /\ Below w.heap.size w w' := by
 have HC := vv (cmpWords A B n m c d _ _ w.drew.drew (ha.like rfl) (hb.like rfl) (by rw [val_toL]) (by rw [val_toL]))
 clear ha hb
 go_enter Tryz.func255, Tryz.ntmps255
 go_wp2_with fail
 refine wp_region_sch (fun w' => w'.cell? ⟨g, o, none⟩ = some (.bool false) /\ w'.cell? ⟨gx, ox, none⟩ = some (.bool false)) 9
  (.still 0 (.still 1 (.still 2 (.still 3 (.still 4 (.still 5 (.still 6 (.still 7 (.still 8 .done))))))))) (by kernel_rfl) (by kernel_rfl) (fun _ _ d _ _ h => by cases d <;> exact h) ⟨h0, k0⟩ (fun hS0 => ?_)
 iterate 9
  refine sch_still (v := ?_) rfl (by rfl) ?_ ?_
  rotate_left
  ·intro w hSw; go_simp; with_reducible rfl
  simp only [Act.put, List.setIfInBounds_toArray, List.set_cons_zero, List.set_cons_succ]
 refine sch_end rfl ?_
 go_wp2_with fail
 refine wp_region_sch (fun w' => w'.cell? ⟨g, o + 1, none⟩ = some (.slice A n c) /\ w'.cell? ⟨gx, ox + 1, none⟩ = some (.slice B m d)) 8
  (.still 0 (.still 1 (.still 2 (.still 3 (.still 4 (.still 5 (.still 6 (.still 7 .done)))))))) (by kernel_rfl) (by kernel_rfl) (fun _ _ d _ _ h => by cases d <;> exact h) ⟨h1, k1⟩ (fun hS0 => ?_)
 iterate 8
  refine sch_still (v := ?_) rfl (by rfl) ?_ ?_
  rotate_left
  ·intro w hSw; go_simp; with_reducible rfl
  simp only [Act.put, List.setIfInBounds_toArray, List.set_cons_zero, List.set_cons_succ]
 refine sch_done ?_
 go_wp2_with fail
 refine HC.out.mono ?_
 rintro e w1 ⟨rfl, hB⟩
 rw [val_toL, val_toL]
 go_wp2
 go_ret
 exact ⟨rfl, ⟨hB.os, hB.tape, hB.output, hB.size, hB.block⟩⟩
theorem Cmp_tt (g o gx ox N M n c m d : Nat) (A B : Option Addr) (w : World) (h0 : w.cell? ⟨g, o, none⟩ = some (.bool true)) (h1 : w.cell? ⟨g, o + 1, none⟩ = some (.slice A n c)) (k0 : w.cell? ⟨gx, ox, none⟩ = some (.bool true)) (k1 : w.cell? ⟨gx, ox + 1, none⟩ = some (.slice B m d))
  (ha : Rd w A n c (toL N)) (hb : Rd w B m d (toL M)) :
  Calls Tryz.prog 255 #[.pointer (some ⟨g, o, none⟩), .pointer (some ⟨gx, ox, none⟩)] w fun e w' => e = .returned (.int .i64 (-cmpI N M)) /\ Below w.heap.size w w' := by
 have HC := vv (cmpWords A B n m c d _ _ w.drew.drew (ha.like rfl) (hb.like rfl) (by rw [val_toL]) (by rw [val_toL]))
 have HW : IntKind.i64.wrap (-cmpI N M) = -cmpI N M := by have := cmpI_bd N M; rw [IntKind.wrap_i64]; omega
 clear ha hb
 go_enter Tryz.func255, Tryz.ntmps255
 go_wp2_with fail
 refine wp_region_sch (fun w' => w'.cell? ⟨g, o, none⟩ = some (.bool true) /\ w'.cell? ⟨gx, ox, none⟩ = some (.bool true)) 9
  (.still 0 (.still 1 (.still 2 (.still 3 (.still 4 (.still 5 (.still 6 (.still 7 (.still 8 .done))))))))) (by kernel_rfl) (by kernel_rfl) (fun _ _ d _ _ h => by cases d <;> exact h) ⟨h0, k0⟩ (fun hS0 => ?_)
 iterate 9
  refine sch_still (v := ?_) rfl (by rfl) ?_ ?_
  rotate_left
  ·intro w hSw; go_simp; with_reducible rfl
  simp only [Act.put, List.setIfInBounds_toArray, List.set_cons_zero, List.set_cons_succ]
 refine sch_end rfl ?_
 go_wp2_with fail
 refine wp_region_sch (fun w' => w'.cell? ⟨g, o + 1, none⟩ = some (.slice A n c) /\ w'.cell? ⟨gx, ox + 1, none⟩ = some (.slice B m d)) 8
  (.still 0 (.still 1 (.still 2 (.still 3 (.still 4 (.still 5 (.still 6 (.still 7 .done)))))))) (by kernel_rfl) (by kernel_rfl) (fun _ _ d _ _ h => by cases d <;> exact h) ⟨h1, k1⟩ (fun hS0 => ?_)
 iterate 8
  refine sch_still (v := ?_) rfl (by rfl) ?_ ?_
  rotate_left
  ·intro w hSw; go_simp; with_reducible rfl
  simp only [Act.put, List.setIfInBounds_toArray, List.set_cons_zero, List.set_cons_succ]
 refine sch_done ?_
 go_wp2_with fail
 refine HC.out.mono ?_
 rintro e w1 ⟨rfl, hB⟩
 rw [val_toL, val_toL]
 go_wp2
 go_ret
 exact ⟨rfl, ⟨hB.os, hB.tape, hB.output, hB.size, hB.block⟩⟩
theorem Cmp_ne (g o gx ox : Nat) (a : Bool) (w : World) (h0 : w.cell? ⟨g, o, none⟩ = some (.bool a)) (k0 : w.cell? ⟨gx, ox, none⟩ = some (.bool !a)) :
  Calls Tryz.prog 255 #[.pointer (some ⟨g, o, none⟩), .pointer (some ⟨gx, ox, none⟩)] w fun e w' => e = .returned (.int .i64 (if a then -1 else 1)) /\ Below w.heap.size w w' := by
 cases a
 all_goals
  go_enter Tryz.func255, Tryz.ntmps255
  go_wp2_with fail
 ·refine wp_region_sch (fun w' => w'.cell? ⟨g, o, none⟩ = some (.bool false) /\ w'.cell? ⟨gx, ox, none⟩ = some (.bool true)) 9
   (.still 0 (.still 1 (.still 2 (.still 3 (.still 4 (.still 5 (.still 6 (.still 7 (.still 8 .done))))))))) (by kernel_rfl) (by kernel_rfl) (fun _ _ d _ _ h => by cases d <;> exact h) ⟨h0, k0⟩ (fun hS0 => ?_)
  iterate 9
   refine sch_still (v := ?_) rfl (by rfl) ?_ ?_
   rotate_left
   ·intro w hSw; go_simp; with_reducible rfl
   simp only [Act.put, List.setIfInBounds_toArray, List.set_cons_zero, List.set_cons_succ]
  refine sch_end rfl ?_
  go_wp2
  go_ret
  exact ⟨rfl, below_drew (Below.refl _ _)⟩
 ·refine wp_region_sch (fun w' => w'.cell? ⟨g, o, none⟩ = some (.bool true) /\ w'.cell? ⟨gx, ox, none⟩ = some (.bool false)) 9
   (.still 0 (.still 1 (.still 2 (.still 3 (.still 4 (.still 5 (.still 6 (.still 7 (.still 8 .done))))))))) (by kernel_rfl) (by kernel_rfl) (fun _ _ d _ _ h => by cases d <;> exact h) ⟨h0, k0⟩ (fun hS0 => ?_)
  iterate 9
   refine sch_still (v := ?_) rfl (by rfl) ?_ ?_
   rotate_left
   ·intro w hSw; go_simp; with_reducible rfl
   simp only [Act.put, List.setIfInBounds_toArray, List.set_cons_zero, List.set_cons_succ]
  refine sch_end rfl ?_
  go_wp2
  go_ret
  exact ⟨rfl, below_drew (Below.refl _ _)⟩
theorem Cmp (g o gx ox : Nat) (u1 u2 : Int) (w : World) (h : IntAt w g o u1) (hx : IntAt w gx ox u2) :
  Calls Tryz.prog 255 #[.pointer (some ⟨g, o, none⟩), .pointer (some ⟨gx, ox, none⟩)] w fun e w' => e = .returned (.int .i64 (cmpZ u1 u2)) /\ Below w.heap.size w w' := by
 obtain ⟨A, n, c, h0, h1, hr, hz⟩ := h.ex
 obtain ⟨B, m, d, k0, k1, hs, hy⟩ := hx.ex
 by_cases e1 : u1 < 0 <;> by_cases e2 : u2 < 0
 ·rw [decide_eq_true e1] at h0
  rw [decide_eq_true e2] at k0
  rw [cmpZ_tt e1 e2]
  exact Cmp_tt g o gx ox _ _ n c m d A B w h0 h1 k0 k1 hr hs
 ·rw [decide_eq_true e1] at h0
  rw [decide_eq_false e2] at k0
  rw [cmpZ_lt (by omega)]
  exact Cmp_ne g o gx ox true w h0 k0
 ·rw [decide_eq_false e1] at h0
  rw [decide_eq_true e2] at k0
  rw [cmpZ_gt (by omega)]
  exact Cmp_ne g o gx ox false w h0 k0
 ·rw [decide_eq_false e1] at h0
  rw [decide_eq_false e2] at k0
  rw [cmpZ_ff e1 e2]
  exact Cmp_ff g o gx ox _ _ n c m d A B w h0 h1 k0 k1 hr hs
theorem Bit0 (g o : Nat) (u : Int) (w : World) (h : IntAt w g o u) :
  Calls Tryz.prog 263 #[.pointer (some ⟨g, o, none⟩), .int .i64 0] w fun e w' => e = .returned (.int .u64 ((u.natAbs % 2 : Nat) : Int)) /\ w = w' := by
 obtain ⟨A, n, c, h0, h1, hr, hz⟩ := h.ex
 have hsm := hr.sm
 have hw := hr.words
 clear hz h h0
 rcases Nat.eq_zero_or_pos n with rfl | hn
 ·have hu := words_eq_zero.1 hw
  rw [hu]
  clear hw hr
  go_enter Tryz.func263, Tryz.ntmps263
  go_wp2
  go_ret
  exact ⟨rfl, rfl⟩
 ·obtain ⟨b, off, rfl, hb, hc⟩ := hr.cell hn
  have hc0 := hc 0 hn
  rw [Nat.add_zero] at hc0
  have hl := hr.nth_lt 0
  have HB := vv (and_one (nth (toL u.natAbs) 0) hl)
  have HE := vv (nth_zero_mod u.natAbs)
  clear hc hw hr
  go_enter Tryz.func263, Tryz.ntmps263
  go_wp2
  go_ret
  refine ⟨retI ?_, rfl⟩
  rw [HB.out, HE.out, IntKind.wrap_u64]
  omega
def QrPost (g o gr or : Nat) (q r : Int) (w : World) (e : Ending) (w' : World) : Prop :=
 e = .returned (.tuple #[.pointer (some ⟨g, o, none⟩), .pointer (some ⟨gr, or, none⟩)]) /\ IntAt w' g o q /\ IntAt w' gr or r /\ Fs [(gr, or, 2), (g, o, 2)] w w'
theorem QuoRem (g o gx ox gy oy gr or : Nat) (v u1 u2 ur : Int) (w : World) (h : IntAt w g o v) (hx : IntAt w gx ox u1) (hy : IntAt w gy oy u2) (hr : IntAt w gr or ur) (hne : g ≠ gr) (h0 : u2 ≠ 0) (hn : Sz u1.natAbs) :
  Calls Tryz.prog 262 #[.pointer (some ⟨g, o, none⟩), .pointer (some ⟨gx, ox, none⟩), .pointer (some ⟨gy, oy, none⟩), .pointer (some ⟨gr, or, none⟩)] w
   (QrPost g o gr or (sg (decide (u1 < 0) != decide (u2 < 0)) (u1.natAbs / u2.natAbs)) (sg (decide (u1 < 0)) (u1.natAbs % u2.natAbs)) w) := by
 have HI := vv h
 have HR := vv hr
 have hlx := hx.lt
 have hly := hy.lt
 obtain ⟨A, n, c, h0, h1, ha, hz⟩ := hx.ex
 obtain ⟨B, m, d, k0, k1, hb, hy⟩ := hy.ex
 have HM := vv (divWords A B n m c d _ _ w.drew.drew (ha.like rfl) (hb.like rfl) (by omega) (by have := ha.sz hn; omega))
 clear ha hz hb hy h hx hn hr
 go_enter Tryz.func262, Tryz.ntmps262
 go_wp2_with fail
 refine wp_region_sch (fun w' => w'.cell? ⟨gx, ox, none⟩ = some (.bool (decide (u1 < 0))) /\ w'.cell? ⟨gy, oy, none⟩ = some (.bool (decide (u2 < 0)))) 9
  (.still 0 (.still 1 (.still 2 (.still 3 (.still 4 (.still 5 (.still 6 (.still 7 (.still 8 .done))))))))) (by kernel_rfl) (by kernel_rfl) (fun _ _ d _ _ h => by cases d <;> exact h) ⟨h0, k0⟩ (fun hS0 => ?_)
 iterate 9
  refine sch_still (v := ?_) rfl (by rfl) ?_ ?_
  rotate_left
  ·intro w hSw; go_simp; with_reducible rfl
  simp only [Act.put, List.setIfInBounds_toArray, List.set_cons_zero, List.set_cons_succ]
 refine sch_done ?_
 go_wp2_with fail
 refine wp_region_sch (fun w' => w'.cell? ⟨gx, ox + 1, none⟩ = some (.slice A n c) /\ w'.cell? ⟨gy, oy + 1, none⟩ = some (.slice B m d)) 14
  (.still 0 (.still 1 (.still 2 (.still 3 (.still 4 (.still 5 (.still 6 (.still 7 (.one 8 (.still 9 (.still 10 (.still 11 (.still 12 (.still 13 .done)))))))))))))) (by kernel_rfl) (by kernel_rfl) (fun _ _ d _ _ h => by cases d <;> exact h) ⟨h1, k1⟩ (fun hS0 => ?_)
 iterate 8
  refine sch_still (v := ?_) rfl (by rfl) ?_ ?_
  rotate_left
  ·intro w hSw; go_simp; with_reducible rfl
  simp only [Act.put, List.setIfInBounds_toArray, List.set_cons_zero, List.set_cons_succ]
 refine sch_one rfl (by rfl) (fun K hK => ?_)
 go_simp
 refine HM.out.mono ?_
 rintro e w1 ⟨A1, m1, c1, A2, m2, c2, rfl, hR1, hR2, hF1, hF2, hB⟩
 have HB : Hid (Below w.heap.size w w1) := vv ⟨hB.os, hB.tape, hB.output, hB.size, hB.block⟩
 have HR1 := vv hR1
 have HR2 := vv hR2
 clear hR1 hR2 hB
 go_wp2_with fail
 refine hK.out _ _ ⟨(HB.out.cell (p := ⟨gx, ox + 1, none⟩) hlx).trans h1, (HB.out.cell (p := ⟨gy, oy + 1, none⟩) hly).trans k1⟩ (fun hHeld => ?_)
 clear hK
 iterate 5
  refine sch_still (v := ?_) rfl (by rfl) ?_ ?_
  rotate_left
  ·intro w hSw; go_simp; with_reducible rfl
  simp only [Act.put, List.setIfInBounds_toArray, List.set_cons_zero, List.set_cons_succ]
 refine sch_end rfl ?_
 go_wp2_with fail
 refine (set_of gr or ur (sg (decide (u1 < 0)) (u1.natAbs % u2.natAbs)) _ A2 m2 c2 _ _ (HR.out.below HB.out) HR2.out (fun a e => (hF2 a e).2) (sg_abs _ _) (sg_neg' _ _)).mono ?_
 rintro e w2 hP
 have HF := vv (hP.fs (HR.out.below HB.out))
 obtain ⟨rfl, hI2, hF⟩ := hP
 have HI2 := vv hI2
 clear hI2
 go_wp2_with fail
 refine (set_of g o v (sg (decide (u1 < 0) != decide (u2 < 0)) (u1.natAbs / u2.natAbs)) _ A1 m1 c1 _ _ ((HI.out.below HB.out).fs1 HF.out (Ne.symm hne)) (HR1.out.fs (fun a e => (hF1 a e).2) HF.out) (fun a e => (hF1 a e).2) (sg_abs _ _) (sg_neg' _ _)).mono ?_
 rintro e w3 hP
 have HF3 := vv (hP.fs ((HI.out.below HB.out).fs1 HF.out (Ne.symm hne)))
 obtain ⟨rfl, hI3, hF3⟩ := hP
 have HI3 := vv hI3
 clear hI3
 go_wp2
 go_ret2
 exact ⟨rfl, HI3.out, HI2.out.fs1 HF3.out hne, ((Fs.of_below [] HB.out (fun _ hp => by cases hp)).trans HF.out).trans HF3.out⟩
set_option maxHeartbeats 400000 in
theorem Exp (g o gx ox gy oy : Nat) (v : Int) (x y : Nat) (w : World) (h : IntAt w g o v) (hx : IntAt w gx ox (x : Int)) (hy : IntAt w gy oy (y : Int)) (hx0 : 0 < x) (hy0 : 0 < y) (hs : Sz (x ^ y)) (hsy : Sz y) :
  Calls Tryz.prog 167 #[.pointer (some ⟨g, o, none⟩), .pointer (some ⟨gx, ox, none⟩), .pointer (some ⟨gy, oy, none⟩), .pointer none] w (SetF g o ((x ^ y : Nat) : Int) w) := by
 have HI := vv h
 have HX := vv hx
 have HY := vv hy
 have hlty := hy.lt
 have HP : Hid (∀ q, q <= y -> Sz (x ^ q)) := vv fun q hq => hs.mono (Nat.pow_le_pow_right hx0 hq)
 have HSg : Hid ((y : Int).sign = 1) := vv (Int.sign_eq_one_of_pos (by omega))
 have HSY := vv hsy
 have HX0 := vv hx0
 have HY0 := vv hy0
 have HB : Hid (∀ (w : World) t, Below w.heap.size w (w.alloc (.cells #[.bool false, .slice none 0 0] t))) := vv fun w t => (Below.refl _ w).alloc (Nat.le_refl _) _
 have HZ := vv (IntAt.zero w 209)
 clear h hx hy hs hsy hx0 hy0
 go_enter Tryz.func167, Tryz.ntmps167
 go_wp2_with fail
 refine (NewInt 1 _ (by omega) (by omega)).mono ?_
 rintro e w1 ⟨g1, rfl, hg1, hI1, hB1⟩
 have HI1 := vv hI1
 have HB1 := vv ((HB.out w 209).trans (hB1.mono (Below.size (HB.out w 209))))
 have HZ1 := vv (HZ.out.below hB1)
 have hlt1 := hI1.lt
 have hg1' : w.heap.size < g1 := by simp at hg1; omega
 have hsz1 := HB1.out.size
 clear hI1 hB1 hg1
 go_wp2_with fail
 have HB2 := vv (HB1.out.trans ((HB.out w1 209).mono HB1.out.size))
 have HZB := vv (IntAt.zero w1 209)
 refine (Set _ 0 gx ox 0 _ _ HZB.out (HX.out.below HB2.out)).mono ?_
 rintro e w2 hP
 have hP := hP.f HZB.out
 have HB3 := vv (hP.below HB2.out (HB2.out.size) hsz1)
 have HI2 := vv ((HI1.out.below (HB.out w1 209)).fs1 hP.2.2 (by omega))
 have HZ2 := vv ((HZ1.out.below (HB.out w1 209)).fs1 hP.2.2 (by omega))
 have HX2 := vv hP.2.1
 obtain ⟨rfl, -, -⟩ := hP
 have HY2 := vv (HY.out.below HB3.out)
 go_wp2_with fail
 refine (Sign gy oy _ _ HY2.out).mono ?_
 rintro e w3 ⟨rfl, rfl⟩
 rw [HSg.out]
 obtain ⟨B, m, d, k0, k1, hr, hz⟩ := HY2.out.ex
 have HR := vv hr
 have hm := hr.words
 have HM := vv hm
 have hmb := hr.sz HSY.out
 have hlty2 := HY2.out.lt
 clear hr hz k0 hm
 go_wp2_with fail
 refine (copied _ _ _ _ _ HR.out).mono ?_
 rintro e w3 ⟨rfl, hO, hB⟩
 have HE0 : Hid (ExpInv w w.heap.size g1 w1.heap.size (some ⟨w2.heap.size, 0, none⟩) m x y 0 w3) := vv
  ⟨HZ2.out.below hB, by simpa using HI2.out.below hB, HX2.out.below hB, hO.rd HR.out.len.symm (Nat.le_refl _) HR.out.sm, fun a e => by cases e; rfl, HB3.out.trans (hB.mono HB3.out.size)⟩
 clear hO hB
 go_wp2
 go_loopw [13] (fun i wr => ∃ (z : Int) (j : Nat), i = .int .i64 z /\ z + 1 = j /\ j <= 32 * m /\ ExpInv w w.heap.size g1 w1.heap.size (some ⟨w2.heap.size, 0, none⟩) m x y (y / 2 ^ j) wr) (fun i _ => (intOf i + 1).toNat)
 case atStart =>
  refine ⟨_, 32 * m, rfl, by omega, Nat.le_refl _, ?_⟩
  have hlt := lt_words y
  have hme : words y = m := HM.out
  rw [hme, pow32] at hlt
  rw [Nat.div_eq_of_lt hlt]
  exact HE0.out
 case round =>
  obtain ⟨z, j, rfl, hz, hj, hE⟩ := hrel
  have HE := vv hE
  clear hE
  rcases Nat.eq_zero_or_pos j with rfl | hpos
  ·obtain rfl : z = -1 := by omega
   clear hz
   go_wp2_with fail
   have hE0 := HE.out.out
   rw [Nat.pow_zero, Nat.div_one] at hE0
   refine (Set g o g1 0 _ _ _ (HI.out.below HE.out.bel) hE0).mono ?_
   rintro e w5 hP
   have hF := vv ((hP.f (HI.out.below HE.out.bel)).after HE.out.bel)
   obtain ⟨rfl, hI5, -⟩ := hP
   go_wp2
   go_ret
   exact ⟨rfl, hI5, hF.out⟩
  ·obtain ⟨i, rfl⟩ : ∃ i, j = i + 1 := ⟨j - 1, by omega⟩
   obtain rfl : z = (i : Int) := by omega
   clear hz
   have i1 : (0 : Int) <= (i : Int) := by omega
   have i2 : (i : Int) < 32 * (m : Int) := by omega
   go_wp2_with fail
   refine (Mul g1 0 g1 0 g1 0 _ _ _ _ HE.out.out HE.out.out HE.out.out (by simpa using HP.out _ (Nat.div_le_self _ _)) (by simpa using HP.out _ (Nat.div_le_self _ _))).mono ?_
   rintro e w4 hP
   have HE4 := vv (HE.out.step hP (q' := 2 * (y / 2 ^ (i + 1))) (by rw [<- Int.natCast_mul, <- Nat.pow_add]; congr 2; omega) (by omega) (by omega) (by omega))
   obtain ⟨rfl, -, -⟩ := hP
   obtain ⟨b, off, hbo, hbl, hc⟩ := HE4.out.words.cell (by omega)
   cases hbo
   have hci := hc (i / 32) (by omega)
   rw [Nat.zero_add] at hci
   clear hc
   have hbit := and_one_eq (nth (toL y) (i / 32)) (i % 32) (HE4.out.words.nth_lt _)
   rw [nth_bit] at hbit
   have HQ := vv (div_pow_succ y i)
   by_cases hb : y / 2 ^ i % 2 = 1
   ·rw [decide_eq_true hb] at hbit
    have HQ1 : Hid (y / 2 ^ i = 2 * (y / 2 ^ (i + 1)) + 1) := vv (by have := HQ.out; omega)
    clear hb
    go_wp2_with fail
    refine (Mul g1 0 g1 0 w1.heap.size 0 _ _ _ _ HE4.out.out HE4.out.out HE4.out.base (by simpa using HP.out _ (by have := Nat.div_le_self y (2 ^ i); have := HQ1.out; omega)) (by simpa using HP.out 1 HY0.out)).mono ?_
    rintro e w5 hP
    have HE5 := vv (HE4.out.step hP (q' := y / 2 ^ i) (by rw [HQ1.out, Nat.pow_add x _ 1, Nat.pow_one, Int.natCast_mul]) (by omega) (by omega) (by omega))
    obtain ⟨rfl, -, -⟩ := hP
    obtain ⟨A5, c5, hn5⟩ := HE5.out.by_.nil
    have hlt5 := HE5.out.by_.lt
    clear hci hbit
    go_wp2
    go_roundw
    case rel => exact ⟨_, i, rfl, by omega, by omega, HE5.out⟩
    case measure => simp [intOf]
   ·rw [decide_eq_false hb] at hbit
    have HQ1 : Hid (y / 2 ^ i = 2 * (y / 2 ^ (i + 1))) := vv (by have := HQ.out; omega)
    clear hb
    have hE5 := HE4.out
    rw [<- HQ1.out] at hE5
    have HE5 := vv hE5
    obtain ⟨A5, c5, hn5⟩ := HE5.out.by_.nil
    have hlt5 := HE5.out.by_.lt
    clear hE5
    go_wp2
    go_roundw
    case rel => exact ⟨_, i, rfl, by omega, by omega, HE5.out⟩
    case measure => simp [intOf]
def BelowPost (d : Nat) (w : World) (e : Ending) (w' : World) : Prop := ∃ A n c, e = .returned (.slice A n c) /\ Rd w' A n c (toL d) /\ (∀ a, A = some a -> a.off = 0) /\ Below w.heap.size w w'
theorem below (g : Nat) (p : Int) (d : Nat) (w : World) (h : RatAt w g p d) :
  Calls Tryz.prog 260 #[.pointer (some ⟨g, 0, none⟩)] w (BelowPost (ld p d) w) := by
 have hlt := h.lt
 have hp := ld_pos (p := p) h.pos
 obtain ⟨A, n, c, e, ⟨hd, hz⟩⟩ := h.den
 clear h
 rcases hd with ⟨rfl, hd⟩ | ⟨hn, hr⟩
 ·rw [hd]
  clear hd hp
  go_enter Tryz.func260, Tryz.ntmps260
  go_wp2
  go_ret
  have hO : Own (w.alloc (.cells #[.int .u32 1] 34)) w.heap.size 34 [1] := Own.lit _ (Lim_cons.2 ⟨by omega, Lim_nil⟩) (by simp [u32s])
  exact ⟨_, 1, 1, rfl, hO.rd rfl (Nat.le_refl _) (by omega), fun a e => by cases e; rfl, (Below.refl _ _).alloc (Nat.le_refl _) _⟩
 ·have hsm := hr.sm
  have h0 : ((n : Int) == 0) = false := by simp; omega
  have HR := vv hr
  clear hr hp
  go_enter Tryz.func260, Tryz.ntmps260
  go_wp2
  go_ret
  exact ⟨_, n, c, rfl, HR.out, hz, Below.refl _ _⟩
theorem SetInt (g gx : Nat) (u : Int) (w : World) (h : RatSh w g) (hx : IntAt w gx 0 u) :
  Calls Tryz.prog 166 #[.pointer (some ⟨g, 0, none⟩), .pointer (some ⟨gx, 0, none⟩)] w (RatF g u 1 w) := by
 have HH := vv h
 obtain ⟨v, hv⟩ := h.int
 have HV := vv hv
 have hlt := hv.lt
 have HS := vv (Set g 0 gx 0 v u w hv hx)
 clear hv h hx
 go_enter Tryz.func166, Tryz.ntmps166
 go_wp2_with fail
 refine HS.out.mono ?_
 rintro e w1 hP
 have hP := hP.f HV.out
 have hN := HH.out.num hP
 obtain ⟨hi, x, hx⟩ := hN
 have hlt1 := hi.lt
 have hfz := hi.fz 2
 have HF := vv hP.2.2
 have HI := vv hi
 obtain ⟨rfl, -, -⟩ := hP
 have HXc := vv hx
 clear hi
 go_wp2
 go_ret
 refine ⟨rfl, RatAt.made HI.out ⟨x, HXc.out⟩ (DenAt.nil _) (by omega) (by omega) (Nat.gcd_one_right _) rfl, fs3 ?_⟩
 exact HF.out.trans (Fs.set2 HI.out _)
theorem Num (g : Nat) (p : Int) (d : Nat) (w : World) (h : RatAt w g p d) :
  Calls Tryz.prog 250 #[.pointer (some ⟨g, 0, none⟩)] w (NewPost (lp p d) w) := by
 have hlt := h.lt
 have HB : Hid (∀ t, Below w.heap.size w (w.alloc (.cells #[.bool false, .slice none 0 0] t))) := vv fun t => (Below.refl _ w).alloc (Nat.le_refl _) _
 have HN := vv h.num
 clear h
 go_enter Tryz.func250, Tryz.ntmps250
 go_wp2_with fail
 refine (Set _ 0 g 0 0 _ _ (IntAt.zero w 209) (HN.out.below (HB.out _))).mono ?_
 rintro e w1 ⟨rfl, hI, hF⟩
 go_wp2
 go_ret
 exact ⟨_, rfl, Nat.le_refl _, hI, hF.below (HB.out _) (by simp) (Nat.le_refl _)⟩
theorem Denom (g : Nat) (p : Int) (d : Nat) (w : World) (h : RatAt w g p d) :
  Calls Tryz.prog 251 #[.pointer (some ⟨g, 0, none⟩)] w (NewPost (ld p d : Nat) w) := by
 have hlt := h.lt
 have HB : Hid (∀ t, Below w.heap.size w (w.alloc (.cells #[.bool false, .slice none 0 0] t))) := vv fun t => (Below.refl _ w).alloc (Nat.le_refl _) _
 have HN := vv h
 clear h
 go_enter Tryz.func251, Tryz.ntmps251
 go_wp2_with fail
 refine (below g p d _ (HN.out.below (HB.out _))).mono ?_
 rintro e w1 ⟨A, n, c, rfl, hR, hz, hB1⟩
 have HZ := vv ((IntAt.zero w 209).below hB1)
 have HR := vv hR
 have HB1 := vv ((HB.out 209).trans (hB1.mono (HB.out _).size))
 clear hR hB1
 go_wp2_with fail
 refine (copied _ _ _ _ _ HR.out).mono ?_
 rintro e w2 ⟨rfl, hO, hB2⟩
 have HO := vv hO
 have HZ2 := vv (HZ.out.below hB2)
 have HB2 := vn HB1 hB2
 clear hO hB2
 go_wp2_with fail
 refine (set_of _ 0 0 (ld p d : Nat) _ _ n n (ld p d) _ HZ2.out (HO.out.rd HR.out.len.symm (Nat.le_refl _) HR.out.sm) (fun a e => by cases e; rfl) rfl (sg_pos (by omega))).mono ?_
 rintro e w3 ⟨rfl, hI, hF⟩
 go_wp2
 go_ret
 exact ⟨_, rfl, Nat.le_refl _, hI, hF.below HB2.out HB2.out.size (Nat.le_refl _)⟩
theorem RSign (g : Nat) (p : Int) (d : Nat) (w : World) (h : RatAt w g p d) :
  Calls Tryz.prog 163 #[.pointer (some ⟨g, 0, none⟩)] w fun e w' => e = .returned (.int .i64 p.sign) /\ w = w' := by
 have hlt := h.lt
 have HN := vv (Sign g 0 _ w h.num)
 have HS := vv (lp_sign (p := p) h.pos)
 clear h
 go_enter Tryz.func163, Tryz.ntmps163
 go_wp2_with fail
 refine HN.out.mono ?_
 rintro e w1 ⟨rfl, rfl⟩
 rw [HS.out]
 go_wp2
 go_ret
 exact ⟨rfl, rfl⟩
theorem Rset_zero (g : Nat) (b : Bool) (A B : Option Addr) (n c m d : Nat) (xs ys : List Nat) (w : World) (h : RatSh w g) (ha : Rd w A n c xs) (hb : Rd w B m d ys) (hD : 0 < val ys) (h0 : val xs = 0) :
  Calls Tryz.prog 253 #[.pointer (some ⟨g, 0, none⟩), .bool b, .slice A n c, .slice B m d] w (RatF g (sg b (val xs)) (val ys) w) := by
 have HH := vv h
 obtain ⟨v, hv⟩ := h.int
 have HV := vv hv
 have hlt := hv.lt
 have HA := vv (trim A n c xs w ha)
 have HB := vv (trim B m d ys w hb)
 have HD := vv hD
 have H0 := vv h0
 clear hv h ha hb hD h0
 go_enter Tryz.func253, Tryz.ntmps253
 go_wp2_with fail
 refine HA.out.mono ?_
 rintro e w' ⟨n1, rfl, rfl, hR⟩
 obtain rfl : n1 = 0 := by rw [<- hR.words]; exact words_eq_zero.2 H0.out
 clear hR
 go_wp2_with fail
 refine HB.out.mono ?_
 rintro e w' ⟨m1, rfl, rfl, hR⟩
 clear hR
 go_wp2_with fail
 refine (set_of g 0 v 0 _ none 0 0 0 _ HV.out (Rd.nil _) (fun a e => by cases e) rfl rfl).mono ?_
 rintro e w1 hP
 have hP := hP.f HV.out
 obtain ⟨hi, x, hx⟩ := HH.out.num hP
 have hlt1 := hi.lt
 have hfz := hi.fz 2
 have HF := vv hP.2.2
 have HI := vv hi
 obtain ⟨rfl, -, -⟩ := hP
 have HXc := vv hx
 clear hi
 go_wp2
 go_ret
 refine ⟨rfl, RatAt.made HI.out ⟨x, HXc.out⟩ (DenAt.nil _) HD.out (by omega) (Nat.gcd_one_right _) ?_, fs3 ?_⟩
 ·rw [H0.out]; cases b <;> simp [sg]
 ·exact HF.out.trans (Fs.set2 HI.out _)
theorem Rset_pos (g : Nat) (b : Bool) (A B : Option Addr) (n c m d : Nat) (xs ys : List Nat) (w : World) (h : RatSh w g) (ha : Rd w A n c xs) (hb : Rd w B m d ys) (hD : 0 < val ys) (h0 : 0 < val xs) (hza : ∀ a, A = some a -> a.off = 0) (hzb : ∀ a, B = some a -> a.off = 0)
  (hst : Std w) (hn : n < 17179869184) (hm : m < 17179869184) :
  Calls Tryz.prog 253 #[.pointer (some ⟨g, 0, none⟩), .bool b, .slice A n c, .slice B m d] w (RatF g (sg b (val xs)) (val ys) w) := by
 have HH := vv h
 obtain ⟨v, hv⟩ := h.int
 have HV := vv hv
 have hlt := hv.lt
 have HA := vv (trim A n c xs w ha)
 have HB := vv (trim B m d ys w hb)
 have HD := vv hD
 have H0 := vv h0
 have HST := vv hst
 have HLA := vv ha.lim
 have HLB := vv hb.lim
 have HLa := vv ha.len
 have HLb := vv hb.len
 have HG := vv (gcd_pos_of (n := val xs) hD)
 have HLow := vv (sg_low (b := b) (N := val xs) hD)
 have HDp : Hid (0 < val ys / Nat.gcd (val xs) (val ys)) := vv (Nat.div_pos (Nat.le_of_dvd hD (Nat.gcd_dvd_right _ _)) HG.out)
 clear hv h ha hb hD h0 hst
 go_enter Tryz.func253, Tryz.ntmps253
 go_wp2_with fail
 refine HA.out.mono ?_
 rintro e w' ⟨n1, rfl, rfl, hR⟩
 have hn1 : n1 <= n := hR.trim_le HLA.out (by rw [HLa.out]; exact Nat.le_refl _)
 have hp1 : 0 < n1 := by
  rcases Nat.eq_zero_or_pos n1 with e | e
  ·have := hR.words; rw [e] at this; have := words_eq_zero.1 this; have := H0.out; omega
  ·exact e
 have hsm := hR.sm
 have HR := vv hR
 clear hR
 go_wp2_with fail
 refine HB.out.mono ?_
 rintro e w' ⟨m1, rfl, rfl, hR⟩
 have hm1 : m1 <= m := hR.trim_le HLB.out (by rw [HLb.out]; exact Nat.le_refl _)
 have HR2 := vv hR
 clear hR
 have ht0 : ((n1 : Int) == 0) = false := by simp; omega
 go_wp2_with fail
 refine (common A B n1 m1 c d _ _ _ HR.out HR2.out HST.out (by omega) (by omega)).mono ?_
 rintro e w1 ⟨A1, k1, c1, rfl, hG, hFr, hB1⟩
 have HG1 := vv hG
 have HB1 := vv hB1
 have HR' := vv (HR.out.below hB1 rfl)
 have HR2' := vv (HR2.out.below hB1 rfl)
 clear hG
 go_wp2_with fail
 refine wp_region_sch (fun _ => True) 7
  (.still 0 (.still 1 (.still 2 (.still 3 (.still 4 (.still 5 (.one 6 .done))))))) (by kernel_rfl) (by kernel_rfl) (fun _ _ d _ _ h => by cases d <;> exact h) trivial (fun hS0 => ?_)
 clear hS0
 iterate 6
  refine sch_still (v := ?_) rfl (by rfl) ?_ ?_
  rotate_left
  ·intro w hSw; go_simp; with_reducible rfl
  simp only [Act.put, List.setIfInBounds_toArray, List.set_cons_zero, List.set_cons_succ]
 refine sch_one rfl (by rfl) (fun K hK => ?_)
 go_simp
 refine (by_ A A1 n1 k1 c c1 _ _ _ HR'.out.drew HG1.out.drew HG.out (by omega)).mono ?_
 rintro e w2 ⟨A2, k2, c2, rfl, hQ, hFr2, hB2⟩
 have HB2 : Hid (Below w.heap.size w w2) := vv ((below_drew HB1.out).trans (hB2.mono (by simpa using HB1.out.size)))
 have hz2 : ∀ a, A2 = some a -> a.off = 0 := fun a e => by
  rcases hFr2 with hf | hf
  ·exact (hf a e).2
  ·exact hza a (hf ▸ e)
 have HQ := vv hQ
 have HZ2 := vv hz2
 have HG2 := vv (HG1.out.drew.below hB2 rfl)
 have HR2'' := vv (HR2'.out.drew.below hB2 rfl)
 clear hQ hz2 hFr2 hB2
 go_wp2_with fail
 refine hK.out _ _ trivial (fun hHeld => ?_)
 clear hK
 refine sch_done ?_
 go_wp2_with fail
 refine (set_of g 0 v (sg b (val xs / Nat.gcd (val xs) (val ys))) _ A2 k2 c2 _ _ (HV.out.below HB2.out) HQ.out HZ2.out (sg_abs _ _) (sg_neg' _ _)).mono ?_
 rintro e w3 hP
 have hP := hP.f (HV.out.below HB2.out)
 have HF3 := vv hP.2.2
 have HN3 := vv ((HH.out.below HB2.out).num hP)
 have HG3 := vv (HG2.out.fs (fun a e => (hFr a e).2) hP.2.2)
 have HR3 := vv (HR2''.out.fs hzb hP.2.2)
 obtain ⟨rfl, -, -⟩ := hP
 go_wp2_with fail
 refine (by_ B A1 m1 k1 d c1 _ _ _ HR3.out HG3.out HG.out (by omega)).mono ?_
 rintro e w4 ⟨A4, k4, c4, rfl, hQ, hFr4, hB4⟩
 have hz4 : ∀ a, A4 = some a -> a.off = 0 := fun a e => by
  rcases hFr4 with hf | hf
  ·exact (hf a e).2
  ·exact hzb a (hf ▸ e)
 have HQ4 := vv hQ
 have HZ4 := vv hz4
 obtain ⟨hi, x, hx⟩ := HN3.out
 have hi4 := hi.below hB4
 have hx4 := (hB4.cell (p := ⟨g, 2, none⟩) hi.lt).trans hx
 have hlt4 := hi4.lt
 have hfz := hi4.fz 2
 have HI4 := vv hi4
 have HX4 := vv hx4
 have HF4 : Hid (Fs [(g, 0, 2)] w w4) := vv (((HF3.out.after HB2.out).trans (Fs.of_nil hB4)).drop (fun p hp _ => by simpa using hp) (fun p hp => by simpa using hp))
 clear hQ hz4 hFr4 hB4 hi hi4 hx
 go_wp2
 go_ret
 refine ⟨rfl, RatAt.made HI4.out ⟨x, HX4.out⟩ (HQ4.out.den HDp.out HZ4.out) HD.out HDp.out HLow.out.1 HLow.out.2, fs3 ?_⟩
 exact HF4.out.trans (Fs.set2 HI4.out _)
theorem Rset (g : Nat) (b : Bool) (A B : Option Addr) (n c m d : Nat) (xs ys : List Nat) (w : World) (h : RatSh w g) (ha : Rd w A n c xs) (hb : Rd w B m d ys) (hD : 0 < val ys) (hza : ∀ a, A = some a -> a.off = 0) (hzb : ∀ a, B = some a -> a.off = 0)
  (hst : Std w) (hn : n < 17179869184) (hm : m < 17179869184) :
  Calls Tryz.prog 253 #[.pointer (some ⟨g, 0, none⟩), .bool b, .slice A n c, .slice B m d] w (RatF g (sg b (val xs)) (val ys) w) := by
 rcases Nat.eq_zero_or_pos (val xs) with h0 | h0
 ·exact Rset_zero g b A B n c m d xs ys w h ha hb hD h0
 ·exact Rset_pos g b A B n c m d xs ys w h ha hb hD h0 hza hzb hst hn hm
set_option maxRecDepth 100000 in
theorem SetFrac (g gx gy : Nat) (u : Int) (D : Nat) (w : World) (h : RatSh w g) (hx : IntAt w gx 0 u) (hy : IntAt w gy 0 (D : Int)) (hD : 0 < D) (hst : Std w) (hn : Sz u.natAbs) (hm : Sz D) :
  Calls Tryz.prog 161 #[.pointer (some ⟨g, 0, none⟩), .pointer (some ⟨gx, 0, none⟩), .pointer (some ⟨gy, 0, none⟩)] w (RatF g u D w) := by
 have hlx := hx.lt
 have hly := hy.lt
 obtain ⟨A, n, c, h0, h1, hr, hz⟩ := hx.ex
 obtain ⟨B, m, d, k0, k1, hs, hy⟩ := hy.ex
 rw [decide_eq_false (by omega)] at k0
 have hs' : Rd w B m d (toL D) := hs
 have HA := vv hr
 have HB := vv hs'
 have HH := vv h
 have HST := vv hst
 have HD := vv hD
 have HN := vv (hr.sz hn)
 have HM := vv (hs'.sz hm)
 clear hr hz hs hs' hy h hx hn hm hst hD
 have fin : ∀ w1 w2 A' B', Below w.heap.size w w1 -> Below w1.heap.size w1 w2 -> Rd w2 A' n n (toL u.natAbs) -> Rd w2 B' m m (toL D) -> (∀ a, A' = some a -> a.off = 0) -> (∀ a, B' = some a -> a.off = 0) ->
   Calls Tryz.prog 253 #[.pointer (some ⟨g, 0, none⟩), .bool (decide (u < 0)), .slice A' n n, .slice B' m m] w2 (RatF g u D w) := by
  intro w1 w2 A' B' hb1 hb2 ha hb hza hzb
  have hbb := hb1.trans (hb2.mono hb1.size)
  refine (Rset g _ A' B' n n m m _ _ w2 (HH.out.below hbb) ha hb (by rw [val_toL]; exact HD.out) hza hzb (HST.out.fs (Fs.of_nil hbb)) (by have := HN.out; omega) (by have := HM.out; omega)).mono ?_
  rintro e w' ⟨he, hR, hF⟩
  rw [val_toL, val_toL, sg_of] at hR
  exact ⟨he, hR, hF.after hbb⟩
 have Fin := vv fin
 clear fin
 go_enter Tryz.func161, Tryz.ntmps161
 go_wp2_with fail
 refine wp_region_sch (fun w' => w'.cell? ⟨gx, 0, none⟩ = some (.bool (decide (u < 0))) /\ w'.cell? ⟨gx, 1, none⟩ = some (.slice A n c) /\ w'.cell? ⟨gy, 0, none⟩ = some (.bool false) /\ w'.cell? ⟨gy, 1, none⟩ = some (.slice B m d)) 20
  (.still 0 (.still 1 (.still 2 (.still 3 (.still 4 (.still 5 (.still 6 (.still 7 (.still 8 (.still 9 (.still 10 (.still 11 (.still 12 (.still 13 (.still 15 (.still 16 (.still 17 (.still 18 (.one 14 (.one 19 .done)))))))))))))))))))) (by kernel_rfl) (by kernel_rfl) (fun _ _ d _ _ h => by cases d <;> exact h) ⟨h0, h1, k0, k1⟩ (fun hS0 => ?_)
 iterate 18
  refine sch_still (v := ?_) rfl (by rfl) ?_ ?_
  rotate_left
  ·intro w hSw; go_simp; with_reducible rfl
  simp only [Act.put, List.setIfInBounds_toArray, List.set_cons_zero, List.set_cons_succ]
 refine sch_one rfl (by rfl) (fun K hK => ?_)
 go_simp
 refine (copied _ _ _ _ _ HA.out.drew).mono ?_
 rintro e w1 ⟨rfl, hO, hB1⟩
 have HO := vv (hO.rd HA.out.len.symm (Nat.le_refl _) HA.out.sm)
 have HB1 : Hid (Below w.heap.size w w1) := vv ⟨hB1.os, hB1.tape, hB1.output, hB1.size, hB1.block⟩
 clear hO hB1
 go_wp2_with fail
 refine hK.out _ _ ⟨(HB1.out.cell (p := ⟨gx, 0, none⟩) hlx).trans h0, (HB1.out.cell (p := ⟨gx, 1, none⟩) hlx).trans h1, (HB1.out.cell (p := ⟨gy, 0, none⟩) hly).trans k0, (HB1.out.cell (p := ⟨gy, 1, none⟩) hly).trans k1⟩ (fun hHeld => ?_)
 clear hK
 refine sch_one rfl (by rfl) (fun K hK => ?_)
 go_simp
 refine (copied _ _ _ _ _ (HB.out.below HB1.out rfl)).mono ?_
 rintro e w2 ⟨rfl, hO2, hB2⟩
 have HO2 := vv (hO2.rd HB.out.len.symm (Nat.le_refl _) HB.out.sm)
 have HO1 := vv (HO.out.below hB2 rfl)
 have HB2 := vv hB2
 have HBB := vn HB1 hB2
 clear hO2 hB2
 go_wp2_with fail
 refine hK.out _ _ ⟨(HBB.out.cell (p := ⟨gx, 0, none⟩) hlx).trans h0, (HBB.out.cell (p := ⟨gx, 1, none⟩) hlx).trans h1, (HBB.out.cell (p := ⟨gy, 0, none⟩) hly).trans k0, (HBB.out.cell (p := ⟨gy, 1, none⟩) hly).trans k1⟩ (fun hHeld => ?_)
 clear hK
 refine sch_done ?_
 go_wp2_with fail
 refine (Fin.out w1 w2 _ _ HB1.out HB2.out HO1.out HO2.out (fun a e => by cases e; rfl) (fun a e => by cases e; rfl)).mono ?_
 rintro e w3 ⟨rfl, hR, hF⟩
 have HR := vv hR
 go_wp2
 go_ret
 exact ⟨rfl, HR.out, hF⟩
theorem Inv (g gx : Nat) (N d : Nat) (w : World) (h : RatSh w g) (hx : RatAt w gx (N : Int) d) (hN : 0 < N) :
  Calls Tryz.prog 168 #[.pointer (some ⟨g, 0, none⟩), .pointer (some ⟨gx, 0, none⟩)] w (RatF g (d : Int) N w) := by
 have HH := vv h
 have HX := vv hx
 have HL := vv (inv_low hN hx.pos)
 have HP := vv (ld_pos (p := (N : Int)) hx.pos)
 have HN := vv hN
 have hneg := lp_neg (p := (N : Int)) hx.pos
 have hlx := hx.lt
 obtain ⟨v, hv⟩ := h.int
 have hlt := hv.lt
 have HV := vv hv
 obtain ⟨A, n, c, c0, c1, hr, hz⟩ := hx.num.ex
 rw [decide_eq_false (by omega)] at c0
 have HA := vv hr
 have HBel := vv (below gx _ _ w hx)
 clear h hx hv hr hneg hN
 go_enter Tryz.func168, Tryz.ntmps168
 go_wp2_with fail
 refine HBel.out.mono ?_
 rintro e w1 ⟨B, m, d1, rfl, hR, hz1, hB1⟩
 have HR := vv hR
 have HB1 := vv hB1
 clear hR hB1
 go_wp2_with fail
 refine (copied _ _ _ _ _ HR.out).mono ?_
 rintro e w2 ⟨rfl, hO, hB2⟩
 have HO := vv (hO.rd HR.out.len.symm (Nat.le_refl _) HR.out.sm)
 have HB2 := vn HB1 hB2
 have c1' := (HB2.out.cell (p := ⟨gx, 1, none⟩) hlx).trans c1
 have hlx2 : gx < w2.heap.size := Nat.lt_of_lt_of_le hlx HB2.out.size
 clear hO hB2
 go_wp2_with fail
 refine (copied _ _ _ _ _ (HA.out.below HB2.out rfl)).mono ?_
 rintro e w3 ⟨rfl, hO3, hB3⟩
 have HO3 := vv ((hO3.rd HA.out.len.symm (Nat.le_refl _) HA.out.sm).den HL.out.2.2 (fun a e => by cases e; rfl))
 have HO2 := vv (HO.out.below hB3 rfl)
 have HB3 := vn HB2 hB3
 clear hO3 hB3
 go_wp2_with fail
 refine (set_of g 0 v (ld N d : Nat) _ _ m m (ld N d) _ (HV.out.below HB3.out) HO2.out (fun a e => by cases e; rfl) rfl (sg_pos (by omega))).mono ?_
 rintro e w4 hP
 have hP := hP.f (HV.out.below HB3.out)
 have HN4 := vv ((HH.out.below HB3.out).num hP)
 have HF := vv (hP.2.2.after HB3.out)
 have HO4 := vv (HO3.out.fs hP.2.2)
 obtain ⟨rfl, -, -⟩ := hP
 obtain ⟨hi, x, hx⟩ := HN4.out
 have hlt1 := hi.lt
 have hfz := hi.fz 2
 have HI := vv hi
 have HXc := vv hx
 clear hi
 go_wp2
 go_ret
 exact ⟨rfl, RatAt.made HI.out ⟨x, HXc.out⟩ HO4.out HN.out HL.out.2.2 HL.out.1 HL.out.2.1, fs3 (HF.out.trans (Fs.set2 HI.out _))⟩
theorem times_zero (g : Nat) (s : Bool) (A D B C : Option Addr) (na ca nd cd nb cb nc cc a d b c : Nat) (w : World) (h : RatSh w g) (ha : Rd w A na ca (toL a)) (hb : Rd w B nb cb (toL b)) (hd0 : 0 < d) (hc0 : 0 < c)
  (h0 : a = 0 \/ 0 < a /\ b = 0) (hst : Std w) :
  Calls Tryz.prog 261 #[.pointer (some ⟨g, 0, none⟩), .bool s, .slice A na ca, .slice D nd cd, .slice B nb cb, .slice C nc cc] w (RatF g (sg s (a * b)) (d * c) w) := by
 have hna := ha.words
 have hnb := hb.words
 have hsa := ha.sm
 have hsb := hb.sm
 have HE : Hid (sg s (a * b) = 0) := vv (by have : a * b = 0 := (by rcases h0 with h | h <;> simp [h]); rw [this]; cases s <;> rfl)
 have HM := vv (Nat.mul_pos hd0 hc0)
 have HS : Hid (Calls Tryz.prog 253 #[.pointer (some ⟨g, 0, none⟩), .bool false, .slice none 0 0, .slice (some ⟨w.heap.size, 0, none⟩) 1 1] (w.alloc (.cells #[.int .u32 1] 34)) (RatF g (sg s (a * b)) (d * c) w)) := by
  have hB : Below w.heap.size w (w.alloc (.cells #[.int .u32 1] 34)) := (Below.refl _ _).alloc (Nat.le_refl _) _
  have hO : Own (w.alloc (.cells #[.int .u32 1] 34)) w.heap.size 34 [1] := Own.lit _ (Lim_cons.2 ⟨by omega, Lim_nil⟩) (by simp [u32s])
  refine vv ((Rset g false none (some ⟨w.heap.size, 0, none⟩) 0 0 1 1 [] [1] _ (h.below hB) (Rd.nil _) (hO.rd rfl (Nat.le_refl _) (by omega)) (by decide) (fun a e => by cases e) (fun a e => by cases e; rfl) (hst.fs (Fs.of_nil hB)) (by omega) (by omega)).mono ?_)
  rintro e w' ⟨he, hR, hF⟩
  refine ⟨he, ?_, hF.after hB⟩
  rw [HE.out]
  exact hR.cross HM.out (by simp [sg, val])
 clear ha hb hd0 hc0 hst h
 rcases h0 with rfl | ⟨ha, rfl⟩
 ·obtain rfl : na = 0 := hna.symm
  clear hna hnb
  go_enter Tryz.func261, Tryz.ntmps261
  go_wp2_with fail
  refine HS.out.mono ?_
  rintro e w1 ⟨rfl, hR, hF⟩
  have HR := vv hR
  go_wp2
  go_ret
  exact ⟨rfl, HR.out, hF⟩
 ·obtain rfl : nb = 0 := hnb.symm
  have t0 : ((na : Int) == 0) = false := by
   have := words_eq_zero (n := a); simp; omega
  clear hna hnb ha
  go_enter Tryz.func261, Tryz.ntmps261
  go_wp2_with fail
  refine HS.out.mono ?_
  rintro e w1 ⟨rfl, hR, hF⟩
  have HR := vv hR
  go_wp2
  go_ret
  exact ⟨rfl, HR.out, hF⟩
set_option maxHeartbeats 400000 in
theorem times_pos (g : Nat) (s : Bool) (A D B C : Option Addr) (na ca nd cd nb cb nc cc a d b c : Nat) (w : World) (h : RatSh w g) (ha : Rd w A na ca (toL a)) (hd : Rd w D nd cd (toL d)) (hb : Rd w B nb cb (toL b)) (hc : Rd w C nc cc (toL c)) (hd0 : 0 < d) (hc0 : 0 < c)
  (had : Nat.gcd a d = 1) (hbc : Nat.gcd b c = 1) (ha0 : 0 < a) (hb0 : 0 < b) (hst : Std w) (sa : Sz a) (sd : Sz d) (sb : Sz b) (sc : Sz c) :
  Calls Tryz.prog 261 #[.pointer (some ⟨g, 0, none⟩), .bool s, .slice A na ca, .slice D nd cd, .slice B nb cb, .slice C nc cc] w (RatF g (sg s (a * b)) (d * c) w) := by
 have hna := ha.words
 have hnb := hb.words
 have hsa := ha.sz sa
 have hsb := hb.sz sb
 have hsc := hc.sz sc
 have hsd := hd.sz sd
 have t0 : ((na : Int) == 0) = false := by
  have := words_eq_zero (n := a); simp; omega
 have t1 : ((nb : Int) == 0) = false := by
  have := words_eq_zero (n := b); simp; omega
 have HML := vv (mul_low hd0 hc0 had hbc ha0 hb0)
 have HG := vv (gcd_pos_of (n := a) hc0)
 have HG2 := vv (gcd_pos_of (n := b) hd0)
 have HM := vv (Nat.mul_pos hd0 hc0)
 have HD0 : Hid (0 < d / Nat.gcd b d * (c / Nat.gcd a c)) := vv (Nat.mul_pos (Nat.div_pos (Nat.le_of_dvd hd0 (Nat.gcd_dvd_right _ _)) HG2.out) (Nat.div_pos (Nat.le_of_dvd hc0 (Nat.gcd_dvd_right _ _)) HG.out))
 have HST := vv hst
 have HH := vv h
 obtain ⟨v, hv⟩ := h.int
 have HV := vv hv
 have HA := vv ha
 have HB := vv hb
 have HC := vv hc
 have HD := vv hd
 clear h ha hb hc hd hd0 hc0 had hbc ha0 hb0 hst hv hna hnb sa sb sc sd
 go_enter Tryz.func261, Tryz.ntmps261
 go_wp2_with fail
 refine (common A C na nc ca cc a c w HA.out HC.out HST.out (by omega) (by omega)).mono ?_
 rintro e w1 ⟨G1, g1, k1, rfl, hG1, hF1, hB1⟩
 have HB1 := vv hB1
 have HG1 := vv hG1
 clear hG1 hB1
 go_wp2_with fail
 refine (common B D nb nd cb cd b d _ (HB.out.below HB1.out rfl) (HD.out.below HB1.out rfl) (HST.out.fs (Fs.of_nil HB1.out)) (by omega) (by omega)).mono ?_
 rintro e w2 ⟨G2, g2, k2, rfl, hG2, hF2, hB2⟩
 have HB2 := vn HB1 hB2
 have HG1 := vv (HG1.out.below hB2 rfl)
 have HG2' := vv hG2
 clear hG2 hB2
 go_wp2_with fail
 refine (by_ A G1 na g1 ca k1 a _ _ (HA.out.below HB2.out rfl) HG1.out HG.out (by omega)).mono ?_
 rintro e w3 ⟨A3, n3, c3, rfl, hQ3, -, hB3⟩
 have HB3 := vn HB2 hB3
 have HG1 := vv (HG1.out.below hB3 rfl)
 have HG2' := vv (HG2'.out.below hB3 rfl)
 have hs3 := hQ3.le_of HA.out (Nat.div_le_self _ _)
 have HQ3 := vv hQ3
 clear hQ3 hB3
 go_wp2_with fail
 refine (by_ B G2 nb g2 cb k2 b _ _ (HB.out.below HB3.out rfl) HG2'.out HG2.out (by omega)).mono ?_
 rintro e w4 ⟨A4, n4, c4, rfl, hQ4, -, hB4⟩
 have HB4 := vn HB3 hB4
 have HG1 := vv (HG1.out.below hB4 rfl)
 have HG2' := vv (HG2'.out.below hB4 rfl)
 have HQ3 := vv (HQ3.out.below hB4 rfl)
 have hs4 := hQ4.le_of HB.out (Nat.div_le_self _ _)
 have HQ4 := vv hQ4
 clear hQ4 hB4
 go_wp2_with fail
 refine (mulWords A3 A4 n3 n4 c3 c4 _ _ _ HQ3.out HQ4.out (by omega)).mono ?_
 rintro e w5 hP
 obtain ⟨A5, n5, c5, rfl, hQ5, hF5, hB5⟩ := hP.val2
 have HB5 := vn HB4 hB5
 have HG1 := vv (HG1.out.below hB5 rfl)
 have HG2' := vv (HG2'.out.below hB5 rfl)
 have HQ5 := vv hQ5
 clear hQ5 hB5 hP HQ3 HQ4
 go_wp2_with fail
 refine (by_ D G2 nd g2 cd k2 d _ _ (HD.out.below HB5.out rfl) HG2'.out HG2.out (by omega)).mono ?_
 rintro e w6 ⟨A6, n6, c6, rfl, hQ6, -, hB6⟩
 have HB6 := vn HB5 hB6
 have HG1 := vv (HG1.out.below hB6 rfl)
 have HQ5 := vv (HQ5.out.below hB6 rfl)
 have hs6 := hQ6.le_of HD.out (Nat.div_le_self _ _)
 have HQ6 := vv hQ6
 clear hQ6 hB6
 go_wp2_with fail
 refine (by_ C G1 nc g1 cc k1 c _ _ (HC.out.below HB6.out rfl) HG1.out HG.out (by omega)).mono ?_
 rintro e w7 ⟨A7, n7, c7, rfl, hQ7, -, hB7⟩
 have HB7 := vn HB6 hB7
 have HQ5 := vv (HQ5.out.below hB7 rfl)
 have HQ6 := vv (HQ6.out.below hB7 rfl)
 have hs7 := hQ7.le_of HC.out (Nat.div_le_self _ _)
 have HQ7 := vv hQ7
 clear hQ7 hB7
 go_wp2_with fail
 refine (mulWords A6 A7 n6 n7 c6 c7 _ _ _ HQ6.out HQ7.out (by omega)).mono ?_
 rintro e w8 hP
 obtain ⟨A8, n8, c8, rfl, hQ8, hF8, hB8⟩ := hP.val2
 have HB8 := vn HB7 hB8
 have HQ5 := vv (HQ5.out.below hB8 rfl)
 have HQ8 := vv (hQ8.den HD0.out (fun a e => (hF8 a e).2))
 clear hQ8 hB8 hP HQ6 HQ7
 go_wp2_with fail
 refine (set_of g 0 v (sg s (a / Nat.gcd a c * (b / Nat.gcd b d))) _ A5 n5 c5 _ _ (HV.out.below HB8.out) HQ5.out (fun a e => (hF5 a e).2) (sg_abs _ _) (sg_neg' _ _)).mono ?_
 rintro e w9 hP
 have hP := hP.f (HV.out.below HB8.out)
 have HN := vv ((HH.out.below HB8.out).num hP)
 have HF := vv (hP.2.2.after HB8.out)
 have HQ8 := vv (HQ8.out.fs hP.2.2)
 obtain ⟨rfl, -, -⟩ := hP
 obtain ⟨hi, x, hx⟩ := HN.out
 have hlt1 := hi.lt
 have hfz := hi.fz 2
 have HI := vv hi
 have HXc := vv hx
 clear hi
 go_wp2
 go_ret
 refine ⟨rfl, RatAt.made HI.out ⟨x, HXc.out⟩ HQ8.out HM.out HD0.out (by rw [sg_abs]; exact HML.out.1) ?_, fs3 (HF.out.trans (Fs.set2 HI.out _))⟩
 have := congrArg (Nat.cast : Nat -> Int) HML.out.2
 rw [Int.natCast_mul, Int.natCast_mul (a * b)] at this
 cases s
 ·exact this
 ·show -((a / Nat.gcd a c * (b / Nat.gcd b d) : Nat) : Int) * _ = -((a * b : Nat) : Int) * _
  rw [Int.neg_mul, Int.neg_mul, this]
theorem times (g : Nat) (s : Bool) (A D B C : Option Addr) (na ca nd cd nb cb nc cc a d b c : Nat) (w : World) (h : RatSh w g) (ha : Rd w A na ca (toL a)) (hd : Rd w D nd cd (toL d)) (hb : Rd w B nb cb (toL b)) (hc : Rd w C nc cc (toL c)) (hd0 : 0 < d) (hc0 : 0 < c)
  (had : Nat.gcd a d = 1) (hbc : Nat.gcd b c = 1) (hst : Std w) (sa : Sz a) (sd : Sz d) (sb : Sz b) (sc : Sz c) :
  Calls Tryz.prog 261 #[.pointer (some ⟨g, 0, none⟩), .bool s, .slice A na ca, .slice D nd cd, .slice B nb cb, .slice C nc cc] w (RatF g (sg s (a * b)) (d * c) w) := by
 rcases Nat.eq_zero_or_pos a with h0 | h0
 ·exact times_zero g s A D B C na ca nd cd nb cb nc cc a d b c w h ha hb hd0 hc0 (.inl h0) hst
 rcases Nat.eq_zero_or_pos b with h1 | h1
 ·exact times_zero g s A D B C na ca nd cd nb cb nc cc a d b c w h ha hb hd0 hc0 (.inr ⟨h0, h1⟩) hst
 exact times_pos g s A D B C na ca nd cd nb cb nc cc a d b c w h ha hd hb hc hd0 hc0 had hbc h0 h1 hst sa sd sb sc
set_option maxRecDepth 100000 in
theorem MulR (g gx gy : Nat) (p q : Int) (d e' : Nat) (w : World) (h : RatSh w g) (hx : RatAt w gx p d) (hy : RatAt w gy q e') (hst : Std w) (sp : Sz p.natAbs) (sd : Sz d) (sq : Sz q.natAbs) (se : Sz e') :
  Calls Tryz.prog 169 #[.pointer (some ⟨g, 0, none⟩), .pointer (some ⟨gx, 0, none⟩), .pointer (some ⟨gy, 0, none⟩)] w (RatF g (p * q) (d * e') w) := by
 have hlx := hx.lt
 have hly := hy.lt
 have HX := vv hx
 have HY := vv hy
 have HH := vv h
 have HST := vv hst
 have HP := vv sp
 have HQ := vv sq
 have HD := vv sd
 have HE := vv se
 obtain ⟨A, n, c, h0, h1, hr, hz⟩ := hx.num.ex
 obtain ⟨B, m, c', k0, k1, hs, hz'⟩ := hy.num.ex
 have HA := vv hr
 have HB := vv hs
 clear h hx hy hst sp sd sq se hr hs hz hz'
 have fin : ∀ (s : Bool) w2 A' n' c2 B' m' c3, (decide (lp p d < 0) != decide (lp q e' < 0)) = s -> Below w.heap.size w w2 -> Rd w2 A' n' c2 (toL (ld p d)) -> Rd w2 B' m' c3 (toL (ld q e')) ->
   Calls Tryz.prog 261 #[.pointer (some ⟨g, 0, none⟩), .bool s, .slice A n c, .slice A' n' c2, .slice B m c', .slice B' m' c3] w2 (RatF g (p * q) (d * e') w) := by
  intro s w2 A' n' c2 B' m' c3 hs hbb ha hb
  refine (times g s A A' B B' n c n' c2 m c' m' c3 _ _ _ _ w2 (HH.out.below hbb) (HA.out.below hbb rfl) ha (HB.out.below hbb rfl) hb (ld_pos HX.out.pos) (ld_pos HY.out.pos) (lp_cop HX.out.pos) (lp_cop HY.out.pos) (HST.out.fs (Fs.of_nil hbb)) (HP.out.mono (lp_le _ _)) (HD.out.mono (ld_le _ _)) (HQ.out.mono (lp_le _ _)) (HE.out.mono (ld_le _ _))).mono ?_
  rintro e w' ⟨he, hR, hF⟩
  refine ⟨he, hR.cross (Nat.mul_pos HX.out.pos HY.out.pos) ?_, hF.after hbb⟩
  have e0 : sg s ((lp p d).natAbs * (lp q e').natAbs) = lp p d * lp q e' := by
   have e1 := sg_of (lp p d * lp q e')
   rw [sg_mul, hs, Int.natAbs_mul] at e1
   conv => rhs; rw [<- e1]
   by_cases hz : 0 < (lp p d).natAbs * (lp q e').natAbs
   ·rw [decide_eq_true hz, Bool.and_true]
   ·have : (lp p d).natAbs * (lp q e').natAbs = 0 := by omega
    rw [this]; cases s <;> rfl
  rw [e0]
  have c1 := lp_cross p d
  have c2 := lp_cross q e'
  simp only [Int.natCast_mul]
  calc lp p d * lp q e' * (↑d * ↑e') = (lp p d * d) * (lp q e' * e') := by grind
   _ = (p * ld p d) * (q * ld q e') := by rw [c1, c2]
   _ = _ := by grind
 have Fin := vv fin
 clear fin
 go_enter Tryz.func169, Tryz.ntmps169
 go_wp2_with fail
 refine wp_region_sch (fun w' => w'.cell? ⟨gx, 0, none⟩ = some (.bool (decide (lp p d < 0))) /\ w'.cell? ⟨gx, 1, none⟩ = some (.slice A n c) /\ w'.cell? ⟨gy, 0, none⟩ = some (.bool (decide (lp q e' < 0))) /\ w'.cell? ⟨gy, 1, none⟩ = some (.slice B m c')) 26
  (.still 0 (.still 1 (.still 2 (.still 3 (.still 4 (.still 5 (.still 6 (.still 7 (.still 8 (.still 9 (.still 10 (.still 11 (.still 12 (.still 13 (.still 14 (.still 15 (.still 16 (.still 17 (.still 19 (.still 20 (.still 21 (.still 22 (.still 23 (.still 24 (.one 18 (.one 25 .done)))))))))))))))))))))))))) (by kernel_rfl) (by kernel_rfl) (fun _ _ d _ _ h => by cases d <;> exact h) ⟨h0, h1, k0, k1⟩ (fun hS0 => ?_)
 iterate 24
  refine sch_still (v := ?_) rfl (by rfl) ?_ ?_
  rotate_left
  ·intro w hSw; go_simp; with_reducible rfl
  simp only [Act.put, List.setIfInBounds_toArray, List.set_cons_zero, List.set_cons_succ]
 refine sch_one rfl (by rfl) (fun K hK => ?_)
 go_simp
 refine (below gx _ _ _ HX.out.drew).mono ?_
 rintro e w1 ⟨A1, n1, c1, rfl, hR1, hz1, hB1⟩
 have HR1 := vv hR1
 have HB1 : Hid (Below w.heap.size w w1) := vv ⟨hB1.os, hB1.tape, hB1.output, hB1.size, hB1.block⟩
 clear hR1 hB1
 go_wp2_with fail
 refine hK.out _ _ ⟨(HB1.out.cell (p := ⟨gx, 0, none⟩) hlx).trans h0, (HB1.out.cell (p := ⟨gx, 1, none⟩) hlx).trans h1, (HB1.out.cell (p := ⟨gy, 0, none⟩) hly).trans k0, (HB1.out.cell (p := ⟨gy, 1, none⟩) hly).trans k1⟩ (fun hHeld => ?_)
 clear hK
 refine sch_one rfl (by rfl) (fun K hK => ?_)
 go_simp
 refine (below gy _ _ _ (HY.out.below HB1.out)).mono ?_
 rintro e w2 ⟨A2, n2, c2, rfl, hR2, hz2, hB2⟩
 have HR2 := vv hR2
 have HR1 := vv (HR1.out.below hB2 rfl)
 have HBB := vn HB1 hB2
 clear hR2 hB2
 go_wp2_with fail
 refine hK.out _ _ ⟨(HBB.out.cell (p := ⟨gx, 0, none⟩) hlx).trans h0, (HBB.out.cell (p := ⟨gx, 1, none⟩) hlx).trans h1, (HBB.out.cell (p := ⟨gy, 0, none⟩) hly).trans k0, (HBB.out.cell (p := ⟨gy, 1, none⟩) hly).trans k1⟩ (fun hHeld => ?_)
 clear hK
 refine sch_done ?_
 go_wp2_with fail
 refine (Fin.out _ w2 A1 n1 c1 A2 n2 c2 rfl HBB.out HR1.out HR2.out).mono ?_
 rintro e w3 ⟨rfl, hR, hF⟩
 have HR := vv hR
 go_wp2
 go_ret
 exact ⟨rfl, HR.out, hF⟩
end Go.Proofs.YtddaldghlinokaaGreatDoor.A
