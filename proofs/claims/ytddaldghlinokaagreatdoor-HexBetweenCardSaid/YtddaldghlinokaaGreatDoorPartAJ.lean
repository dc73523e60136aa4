/- Lemmas. -/
import Derived.Test.YtddaldghlinokaaGreatDoorPartAH
import Derived.Test.YtddaldghlinokaaGreatDoorPartAB
set_option linter.all false
namespace Go.Proofs.YtddaldghlinokaaGreatDoor
open Go Go.RowKit
theorem cell_ne {w : World} {a b : Addr} {v : Value} (h : a ≠ b) : (w.setCell a v).cell? b = w.cell? b := World.cell?_setCell_other w a b v h
theorem cell_eq {w : World} {a : Addr} {u v : Value} (h : w.cell? a = some u) : (w.setCell a v).cell? a = some v := World.cell?_setCell_same w a v h
structure Fm (g o : Nat) (w w' : World) : Prop where
 os : w'.os = w.os
 tape : w'.tape = w.tape
 output : w'.output = w.output
 size : w.heap.size <= w'.heap.size
 block : ∀ k, k < w.heap.size -> k ≠ g -> w'.heap[k]? = w.heap[k]?
 cell : ∀ j, j ≠ o -> j ≠ o + 1 -> w'.cell? ⟨g, j, none⟩ = w.cell? ⟨g, j, none⟩
 frozen : ∀ j, w'.frozen? ⟨g, j, none⟩ = w.frozen? ⟨g, j, none⟩
theorem Fm.trans {g o : Nat} {a b c : World} (h : Fm g o a b) (k : Fm g o b c) : Fm g o a c :=
 ⟨k.os.trans h.os, k.tape.trans h.tape, k.output.trans h.output, Nat.le_trans h.size k.size, fun i hi hn => (k.block i (Nat.lt_of_lt_of_le hi h.size) hn).trans (h.block i hi hn),
  fun j h1 h2 => (k.cell j h1 h2).trans (h.cell j h1 h2), fun j => (k.frozen j).trans (h.frozen j)⟩
theorem frozen_block {w w' : World} {p : Addr} (h : w'.heap[p.block]? = w.heap[p.block]?) : w'.frozen? p = w.frozen? p := by
 simp only [World.frozen?, h]
theorem Fm.of_below {g o : Nat} {w w' : World} (h : Below w.heap.size w w') (hg : g < w.heap.size) : Fm g o w w' :=
 ⟨h.os, h.tape, h.output, h.size, fun k hk _ => h.block k hk, fun j _ _ => World.cell?_of_block (h.block g hg), fun j => frozen_block (p := ⟨g, j, none⟩) (h.block g hg)⟩
theorem Fm.set0 {g o j : Nat} (w : World) (v : Value) (hp : j = o \/ j = o + 1) : Fm g o w (w.setCell ⟨g, j, none⟩ v) :=
 ⟨rfl, rfl, rfl, by simp [World.setCell], fun k _ hn => Below.heap_setCell w ⟨g, j, none⟩ v k (show k ≠ g from hn), fun i h1 h2 => cell_ne (fun e => by injection e with _ e; omega), fun i => World.frozen?_setCell _ _ _ _⟩
theorem Fm.undrew {g o : Nat} {w w' : World} (h : Fm g o w.drew w') : Fm g o w w' := ⟨h.os, h.tape, h.output, h.size, h.block, h.cell, h.frozen⟩
theorem Fm.below {g o B : Nat} {a w w' : World} (hb : Below B a w) (h : Fm g o w w') (hB : B <= w.heap.size) (hg : B <= g) : Below B a w' :=
 ⟨h.os.trans hb.os, h.tape.trans hb.tape, h.output.trans hb.output, Nat.le_trans hb.size h.size, fun k hk => (h.block k (by omega) (by omega)).trans (hb.block k hk)⟩
structure IntAt (w : World) (g o : Nat) (v : Int) : Prop where
 lt : g < w.heap.size
 head : ∃ x, w.cell? ⟨g, 0, none⟩ = some (.bool x)
 fz : ∀ j, w.frozen? ⟨g, j, none⟩ = false
 ex : ∃ A n c, w.cell? ⟨g, o, none⟩ = some (.bool (decide (v < 0))) /\ w.cell? ⟨g, o + 1, none⟩ = some (.slice A n c) /\ Rd w A n c (toL v.natAbs) /\ ∀ a, A = some a -> a.off = 0
theorem Rd.apart {w : World} {A : Option Addr} {n c g : Nat} {xs : List Nat} (h : Rd w A n c xs) (h0 : ∀ a, A = some a -> a.off = 0) (hd : ∃ x, w.cell? ⟨g, 0, none⟩ = some (.bool x)) (hn : 0 < n) : ∀ a, A = some a -> a.block ≠ g := by
 intro a e hg
 obtain ⟨b, off, e1, _, hc⟩ := h.cell hn
 obtain ⟨x, hx⟩ := hd
 rw [e1] at e
 cases e
 have := h0 _ e1
 subst hg
 have h2 := hc 0 hn
 simp only at this
 subst this
 rw [hx] at h2
 cases h2
theorem Rd.zero {w w' : World} {A : Option Addr} {c : Nat} {xs : List Nat} (h : Rd w A 0 c xs) : Rd w' A 0 c xs := ⟨h.len, h.le, h.sm, h.lim, fun hn => absurd hn (by omega)⟩
theorem Rd.fm {w w' : World} {A : Option Addr} {n c g o : Nat} {xs : List Nat} (h : Rd w A n c xs) (hf : Fm g o w w') (hne : 0 < n -> ∀ a, A = some a -> a.block ≠ g) : Rd w' A n c xs :=
 ⟨h.len, h.le, h.sm, h.lim, fun hn => by
  obtain ⟨b, off, e, hlt, hc⟩ := h.cell hn
  refine ⟨b, off, e, Nat.lt_of_lt_of_le hlt hf.size, fun j hj => ?_⟩
  rw [<- hc j hj]
  exact World.cell?_of_block (a := ⟨b, off + j, none⟩) (hf.block b hlt (hne hn _ e))⟩
theorem Fm.headAt {w w' : World} {g o g' : Nat} (hf : Fm g o w w') (h' : ∃ x, w'.cell? ⟨g, 0, none⟩ = some (.bool x)) (hlt : g' < w.heap.size) (h : ∃ x, w.cell? ⟨g', 0, none⟩ = some (.bool x)) : ∃ x, w'.cell? ⟨g', 0, none⟩ = some (.bool x) := by
 by_cases e : g' = g
 ·subst e; exact h'
 ·obtain ⟨x, hx⟩ := h
  exact ⟨x, (World.cell?_of_block (a := ⟨g', 0, none⟩) (hf.block g' hlt e)).trans hx⟩
theorem IntAt.below {w w' : World} {g o : Nat} {v : Int} (h : IntAt w g o v) (hb : Below w.heap.size w w') : IntAt w' g o v := by
 obtain ⟨A, n, c, h0, h1, hr, hz⟩ := h.ex
 obtain ⟨x, hx⟩ := h.head
 exact ⟨Nat.lt_of_lt_of_le h.lt hb.size, ⟨x, (hb.cell (p := ⟨g, 0, none⟩) h.lt).trans hx⟩, fun j => (frozen_block (p := ⟨g, j, none⟩) (hb.block g h.lt)).trans (h.fz j), A, n, c, (hb.cell (p := ⟨g, o, none⟩) h.lt).trans h0, (hb.cell (p := ⟨g, o + 1, none⟩) h.lt).trans h1, hr.below hb rfl, hz⟩
theorem IntAt.like {w w' : World} {g o : Nat} {v : Int} (h : IntAt w g o v) (e : w'.heap = w.heap) : IntAt w' g o v := by
 obtain ⟨A, n, c, h0, h1, hr, hz⟩ := h.ex
 obtain ⟨x, hx⟩ := h.head
 exact ⟨by rw [e]; exact h.lt, ⟨x, by rw [<- hx]; simp only [World.cell?, e]⟩, fun j => by rw [<- h.fz j]; simp only [World.frozen?, e], A, n, c, by rw [<- h0]; simp only [World.cell?, e], by rw [<- h1]; simp only [World.cell?, e], hr.like e, hz⟩
theorem IntAt.drew {w : World} {g o : Nat} {v : Int} (h : IntAt w g o v) : IntAt w.drew g o v := h.like rfl
def put (w : World) (g o : Nat) (b : Bool) (s : Value) : World := (w.setCell ⟨g, o + 1, none⟩ s).setCell ⟨g, o, none⟩ (.bool b)
theorem put_fm (w : World) (g o : Nat) (b : Bool) (s : Value) : Fm g o w (put w g o b s) := (Fm.set0 w s (.inr rfl)).trans (Fm.set0 _ _ (.inl rfl))
theorem put_head {w : World} {g o : Nat} {v : Int} (h : IntAt w g o v) (b : Bool) (A : Option Addr) (n c : Nat) : ∃ x, (put w g o b (.slice A n c)).cell? ⟨g, 0, none⟩ = some (.bool x) := by
 obtain ⟨A', n', c', h0, h1, hr, hz⟩ := h.ex
 obtain ⟨x, hx⟩ := h.head
 rcases Nat.eq_zero_or_pos o with rfl | ho
 ·exact ⟨b, cell_eq (u := .bool x) ((cell_ne (fun e => by injection e with _ e; omega)).trans hx)⟩
 ·refine ⟨x, (cell_ne (fun e => by injection e with _ e; omega)).trans ((cell_ne (fun e => by injection e with _ e; omega)).trans hx)⟩
theorem IntAt.put {w : World} {g o : Nat} {v u : Int} (h : IntAt w g o v) {A : Option Addr} {n c : Nat} {b : Bool} (hb : b = decide (u < 0)) (hr : Rd w A n c (toL u.natAbs)) (hz : ∀ a, A = some a -> a.off = 0) : IntAt (put w g o b (.slice A n c)) g o u := by
 obtain ⟨A', n', c', h0, h1, hr', hz'⟩ := h.ex
 have hf := put_fm w g o b (.slice A n c)
 refine ⟨Nat.lt_of_lt_of_le h.lt hf.size, put_head h b A n c, fun j => by rw [hf.frozen]; exact h.fz j, A, n, c, ?_, ?_, hr.fm hf (hr.apart hz h.head), hz⟩
 ·rw [<- hb]
  exact cell_eq (u := .bool (decide (v < 0))) ((cell_ne (fun e => by injection e with _ e; omega)).trans h0)
 ·exact (cell_ne (fun e => by injection e with _ e; omega)).trans (cell_eq h1)
theorem sg_pos {u : Int} {N : Nat} (h : 0 <= u) : decide (u < 0) = (false && decide (0 < N)) := by rw [Bool.false_and, decide_eq_false_iff_not]; omega
theorem sg_same (u : Int) : decide (u < 0) = (decide (u < 0) && decide (0 < u.natAbs)) := by
 rcases Int.lt_trichotomy u 0 with h | h | h
 ·rw [decide_eq_true h, Bool.true_and, eq_comm, decide_eq_true_iff]; omega
 ·subst h; rfl
 ·rw [decide_eq_false (by omega), Bool.false_and]
theorem sg_neg (u : Int) : decide (-u < 0) = (!decide (u < 0) && decide (0 < u.natAbs)) := by
 rcases Int.lt_trichotomy u 0 with h | h | h
 ·rw [decide_eq_true h, decide_eq_false (by omega)]; rfl
 ·subst h; rfl
 ·rw [decide_eq_false (p := u < 0) (by omega), Bool.not_false, Bool.true_and, decide_eq_true (by omega), decide_eq_true (by omega)]
theorem sg_mul (u v : Int) : decide (u * v < 0) = (decide (u < 0) != decide (v < 0) && decide (0 < u.natAbs * v.natAbs)) := by
 rcases Int.lt_trichotomy u 0 with h | h | h
 ·rcases Int.lt_trichotomy v 0 with k | k | k
  ·have := Int.mul_pos_of_neg_of_neg h k
   rw [decide_eq_true h, decide_eq_true k, decide_eq_false (by omega)]; rfl
  ·subst k; simp
  ·have := Int.mul_neg_of_neg_of_pos h k
   have h1 : 0 < u.natAbs * v.natAbs := Nat.mul_pos (by omega) (by omega)
   rw [decide_eq_true h, decide_eq_false (p := v < 0) (by omega), decide_eq_true this, decide_eq_true h1]; rfl
 ·subst h; simp
 ·rcases Int.lt_trichotomy v 0 with k | k | k
  ·have := Int.mul_neg_of_pos_of_neg h k
   have h1 : 0 < u.natAbs * v.natAbs := Nat.mul_pos (by omega) (by omega)
   rw [decide_eq_false (p := u < 0) (by omega), decide_eq_true k, decide_eq_true this, decide_eq_true h1]; rfl
  ·subst k; simp
  ·have := Int.mul_pos h k
   rw [decide_eq_false (p := u < 0) (by omega), decide_eq_false (p := v < 0) (by omega), decide_eq_false (by omega)]; rfl
def SetPost (g o : Nat) (u : Int) (w : World) (e : Ending) (w' : World) : Prop :=
 e = .returned (.pointer (some ⟨g, o, none⟩)) /\ IntAt w' g o u /\ Fm g o w w'
def Sz (n : Nat) : Prop := bl n <= 274877906944
theorem Sz.words {n : Nat} (h : Sz n) : words n <= 8589934592 := by
 rcases Nat.eq_zero_or_pos n with rfl | hp
 ·simp [words_zero]
 ·obtain ⟨e, _⟩ := bl_words hp
  have := bl_pos (bl_words hp).2
  unfold Sz at h
  omega
theorem Rd.sz {w : World} {A : Option Addr} {n c N : Nat} (h : Rd w A n c (toL N)) (hs : Sz N) : n <= 8589934592 := by
 rw [<- h.words]; exact hs.words
def sg (b : Bool) (N : Nat) : Int := if b then -(N : Int) else (N : Int)
theorem sg_abs (b : Bool) (N : Nat) : (sg b N).natAbs = N := by cases b <;> simp [sg]
theorem sg_neg' (b : Bool) (N : Nat) : decide (sg b N < 0) = (b && decide (0 < N)) := by
 cases b
 ·simp [sg]
 ·simp only [sg, if_true, Bool.true_and]; congr 1; apply propext; omega
theorem sg_of (u : Int) : sg (decide (u < 0)) u.natAbs = u := by
 unfold sg; by_cases h : u < 0 <;> simp [h] <;> omega
abbrev Ob := Nat × Nat × Nat
structure Fs (l : List Ob) (w w' : World) : Prop where
 os : w'.os = w.os
 tape : w'.tape = w.tape
 output : w'.output = w.output
 size : w.heap.size <= w'.heap.size
 block : ∀ k, k < w.heap.size -> (∀ p ∈ l, p.1 ≠ k) -> w'.heap[k]? = w.heap[k]?
 cell : ∀ k j, k < w.heap.size -> (∀ p ∈ l, p.1 = k -> j < p.2.1 \/ p.2.1 + p.2.2 <= j) -> w'.cell? ⟨k, j, none⟩ = w.cell? ⟨k, j, none⟩
 frozen : ∀ k j, k < w.heap.size -> w'.frozen? ⟨k, j, none⟩ = w.frozen? ⟨k, j, none⟩
 head : ∀ k, k < w.heap.size -> (∃ x, w.cell? ⟨k, 0, none⟩ = some (.bool x)) -> ∃ x, w'.cell? ⟨k, 0, none⟩ = some (.bool x)
 obj : ∀ p ∈ l, p.1 < w.heap.size -> ∃ x, w.cell? ⟨p.1, 0, none⟩ = some (.bool x)
theorem Fs.of_below {w w' : World} (l : List Ob) (h : Below w.heap.size w w') (ho : ∀ p ∈ l, p.1 < w.heap.size -> ∃ x, w.cell? ⟨p.1, 0, none⟩ = some (.bool x)) : Fs l w w' :=
 ⟨h.os, h.tape, h.output, h.size, fun k hk _ => h.block k hk, fun k j hk _ => World.cell?_of_block (a := ⟨k, j, none⟩) (h.block k hk), fun k j hk => frozen_block (p := ⟨k, j, none⟩) (h.block k hk),
  fun k hk ⟨x, hx⟩ => ⟨x, (World.cell?_of_block (a := ⟨k, 0, none⟩) (h.block k hk)).trans hx⟩, ho⟩
theorem Fs.of_nil {w w' : World} (h : Below w.heap.size w w') : Fs [] w w' := Fs.of_below [] h (fun _ hp => by cases hp)
theorem Fm.fs {g o : Nat} {w w' : World} {u v : Int} (h : Fm g o w w') (hv : IntAt w g o v) (hu : IntAt w' g o u) : Fs [(g, o, 2)] w w' :=
 ⟨h.os, h.tape, h.output, h.size, fun k hk hn => h.block k hk (fun e => hn _ (List.mem_singleton.2 rfl) e.symm),
  fun k j hk hn => by
   by_cases e : k = g
   ·subst e
    have : j < o \/ o + 2 <= j := hn (k, o, 2) (List.mem_singleton.2 rfl) rfl
    exact h.cell j (by omega) (by omega)
   ·exact World.cell?_of_block (a := ⟨k, j, none⟩) (h.block k hk e),
  fun k j hk => by
   by_cases e : k = g
   ·subst e; exact h.frozen j
   ·exact frozen_block (p := ⟨k, j, none⟩) (h.block k hk e),
  fun k hk hx => h.headAt hu.head hk hx, fun p hp _ => by rw [List.mem_singleton.1 hp]; exact hv.head⟩
theorem SetPost.fs {g o : Nat} {u v : Int} {w w' : World} {e : Ending} (h : SetPost g o u w e w') (hv : IntAt w g o v) : Fs [(g, o, 2)] w w' := h.2.2.fs hv h.2.1
theorem Fs.trans {l l' : List Ob} {a b c : World} (h : Fs l a b) (k : Fs l' b c) : Fs (l ++ l') a c :=
 ⟨k.os.trans h.os, k.tape.trans h.tape, k.output.trans h.output, Nat.le_trans h.size k.size,
  fun i hi hn => (k.block i (Nat.lt_of_lt_of_le hi h.size) (fun p hp => hn p (List.mem_append_right _ hp))).trans (h.block i hi (fun p hp => hn p (List.mem_append_left _ hp))),
  fun i j hi hn => (k.cell i j (Nat.lt_of_lt_of_le hi h.size) (fun p hp => hn p (List.mem_append_right _ hp))).trans (h.cell i j hi (fun p hp => hn p (List.mem_append_left _ hp))),
  fun i j hi => (k.frozen i j (Nat.lt_of_lt_of_le hi h.size)).trans (h.frozen i j hi),
  fun i hi hx => k.head i (Nat.lt_of_lt_of_le hi h.size) (h.head i hi hx),
  fun p hp hlt => by
   rcases List.mem_append.1 hp with hp | hp
   ·exact h.obj p hp hlt
   ·by_cases e : ∃ q ∈ l, q.1 = p.1
    ·obtain ⟨q, hq, e⟩ := e
     have := h.obj q hq (by omega)
     rwa [e] at this
    ·obtain ⟨x, hx⟩ := k.obj p hp (Nat.lt_of_lt_of_le hlt h.size)
     exact ⟨x, (World.cell?_of_block (a := ⟨p.1, 0, none⟩) (h.block p.1 hlt (fun q hq e' => e ⟨q, hq, e'⟩))).symm.trans hx⟩⟩
theorem Fs.weak {l l' : List Ob} {w w' : World} (h : Fs l w w') (hsub : ∀ p ∈ l, p.1 < w.heap.size -> p ∈ l') (ho : ∀ p ∈ l', p.1 < w.heap.size -> ∃ x, w.cell? ⟨p.1, 0, none⟩ = some (.bool x)) : Fs l' w w' :=
 ⟨h.os, h.tape, h.output, h.size, fun k hk hn => h.block k hk (fun p hp e => hn p (hsub p hp (by omega)) e),
  fun k j hk hn => h.cell k j hk (fun p hp e => hn p (hsub p hp (by omega)) e), h.frozen, h.head, ho⟩
theorem Fs.drop {l l' : List Ob} {w w' : World} (h : Fs l w w') (hsub : ∀ p ∈ l, p.1 < w.heap.size -> p ∈ l') (hl : ∀ p ∈ l', p ∈ l) : Fs l' w w' := h.weak hsub (fun p hp => h.obj p (hl p hp))
theorem Fs.below {l : List Ob} {B : Nat} {a w w' : World} (h : Fs l w w') (hb : Below B a w) (hB : B <= w.heap.size) (hg : ∀ p ∈ l, B <= p.1) : Below B a w' :=
 ⟨h.os.trans hb.os, h.tape.trans hb.tape, h.output.trans hb.output, Nat.le_trans hb.size h.size, fun k hk => (h.block k (by omega) (fun p hp e => by have := hg p hp; omega)).trans (hb.block k hk)⟩
theorem Rd.fs {w w' : World} {l : List Ob} {A : Option Addr} {n c : Nat} {xs : List Nat} (h : Rd w A n c xs) (h0 : ∀ a, A = some a -> a.off = 0) (hf : Fs l w w') : Rd w' A n c xs :=
 ⟨h.len, h.le, h.sm, h.lim, fun hn => by
  obtain ⟨b, off, e, hlt, hc⟩ := h.cell hn
  refine ⟨b, off, e, Nat.lt_of_lt_of_le hlt hf.size, fun j hj => ?_⟩
  rw [<- hc j hj]
  refine World.cell?_of_block (a := ⟨b, off + j, none⟩) (hf.block b hlt fun p hp hpb => ?_)
  obtain ⟨x, hx⟩ := hf.obj p hp (by omega)
  have := h0 _ e
  simp only at this
  subst this
  have h2 := hc 0 hn
  rw [hpb] at hx
  rw [hx] at h2
  cases h2⟩
theorem Std.fs {l : List Ob} {w w' : World} (h : Std w) (hf : Fs l w w') : Std w' := by
 have hb : w'.heap[1]? = w.heap[1]? := hf.block _ h.2 fun p hp e => by
  obtain ⟨x, hx⟩ := hf.obj p hp (by rw [e]; exact h.2)
  have h2 := h.1 0 (by decide)
  rw [e] at hx
  rw [hx] at h2
  cases h2
 exact ⟨fun j hj => by rw [<- h.1 j hj]; simp only [World.cell?, hb], Nat.lt_of_lt_of_le h.2 hf.size⟩
theorem IntAt.fs {w w' : World} {l : List Ob} {g o : Nat} {v : Int} (h : IntAt w g o v) (hf : Fs l w w') (hne : ∀ p ∈ l, p.1 = g -> o + 2 <= p.2.1 \/ p.2.1 + p.2.2 <= o) : IntAt w' g o v := by
 obtain ⟨A, n, c, h0, h1, hr, hz⟩ := h.ex
 refine ⟨Nat.lt_of_lt_of_le h.lt hf.size, hf.head g h.lt h.head, fun j => (hf.frozen g j h.lt).trans (h.fz j), A, n, c, ?_, ?_, hr.fs hz hf, hz⟩
 ·rw [hf.cell g o h.lt fun p hp e => by have := hne p hp e; omega]; exact h0
 ·rw [hf.cell g (o + 1) h.lt fun p hp e => by have := hne p hp e; omega]; exact h1
theorem IntAt.fs1 {w w' : World} {g o g' o' k : Nat} {v : Int} (h : IntAt w g o v) (hf : Fs [(g', o', k)] w w') (hne : g' ≠ g) : IntAt w' g o v := h.fs hf fun p hp e => by
 rw [List.mem_singleton.1 hp] at e
 exact absurd e hne
theorem sg_shift (u : Int) (k : Nat) : decide (u * 2 ^ k < 0) = (decide (u < 0) && decide (0 < u.natAbs * 2 ^ k)) := by
 have hp : (0 : Int) < 2 ^ k := Int.pow_pos (by omega)
 have hp' : 0 < 2 ^ k := Nat.two_pow_pos k
 rcases Int.lt_trichotomy u 0 with h | h | h
 ·have := Int.mul_neg_of_neg_of_pos h hp
  have h1 : 0 < u.natAbs * 2 ^ k := Nat.mul_pos (by omega) hp'
  rw [decide_eq_true this, decide_eq_true h, decide_eq_true h1]; rfl
 ·subst h; simp
 ·have := Int.mul_pos h hp
  rw [decide_eq_false (by omega), decide_eq_false (p := u < 0) (by omega)]; rfl
def cmpZ (a b : Int) : Int := if a < b then -1 else if b < a then 1 else 0
theorem cmpZ_lt {a b : Int} (h : a < b) : cmpZ a b = -1 := if_pos h
theorem cmpZ_gt {a b : Int} (h : b < a) : cmpZ a b = 1 := by unfold cmpZ; rw [if_neg (by omega), if_pos h]
theorem cmpZ_eq (a : Int) : cmpZ a a = 0 := by unfold cmpZ; rw [if_neg (by omega), if_neg (by omega)]
theorem cmpZ_ff {a b : Int} (h : ¬ a < 0) (k : ¬ b < 0) : cmpZ a b = cmpI a.natAbs b.natAbs := by
 rcases Int.lt_trichotomy a b with h1 | h1 | h1
 ·rw [cmpZ_lt h1, cmpI_lt (by omega)]
 ·rw [h1, cmpZ_eq, cmpI_eq rfl]
 ·rw [cmpZ_gt h1, cmpI_gt (by omega)]
theorem cmpZ_tt {a b : Int} (h : a < 0) (k : b < 0) : cmpZ a b = -cmpI a.natAbs b.natAbs := by
 rcases Int.lt_trichotomy a b with h1 | h1 | h1
 ·rw [cmpZ_lt h1, cmpI_gt (by omega)]
 ·rw [h1, cmpZ_eq, cmpI_eq rfl]; rfl
 ·rw [cmpZ_gt h1, cmpI_lt (by omega)]; rfl
theorem and_one (x : Nat) (h : x < 4294967296) : bits .and .u32 (x : Int) 1 = ((x % 2 : Nat) : Int) := by
 have := u32_and_nat x 1 h (by omega)
 rw [Nat.and_one_is_mod] at this
 exact this
theorem nth_zero_mod (n : Nat) : nth (toL n) 0 % 2 = n % 2 := by
 have h3 : val (toL n) = n := val_toL n
 match hl : toL n with
 | [] => rw [hl] at h3; simp [nth, val] at *; omega
 | a :: l => rw [hl] at h3; simp [nth, val] at *; omega
def NewPost (v : Int) (w : World) (e : Ending) (w' : World) : Prop := ∃ g, e = .returned (.pointer (some ⟨g, 0, none⟩)) /\ w.heap.size <= g /\ IntAt w' g 0 v /\ Below w.heap.size w w'
theorem IntAt.zero (w : World) (t : TypeId) : IntAt (w.alloc (.cells #[.bool false, .slice none 0 0] t)) w.heap.size 0 0 :=
 ⟨by simp, ⟨false, by simp only [World.cell?]; rw [heap_alloc_new]; rfl⟩, fun j => by simp only [World.frozen?]; rw [heap_alloc_new]; simp, none, 0, 0, by simp only [World.cell?]; rw [heap_alloc_new]; rfl, by simp only [World.cell?]; rw [heap_alloc_new]; rfl, by
  have : toL (0 : Int).natAbs = [] := rfl
  rw [this]; exact Rd.nil _, fun a e => by cases e⟩
theorem Sz.mono {a b : Nat} (h : Sz b) (hab : a <= b) : Sz a := Nat.le_trans (bl_mono hab) h
def SetF (g o : Nat) (u : Int) (w : World) (e : Ending) (w' : World) : Prop := e = .returned (.pointer (some ⟨g, o, none⟩)) /\ IntAt w' g o u /\ Fs [(g, o, 2)] w w'
theorem SetPost.f {g o : Nat} {u v : Int} {w w' : World} {e : Ending} (h : SetPost g o u w e w') (hv : IntAt w g o v) : SetF g o u w e w' := ⟨h.1, h.2.1, h.fs hv⟩
theorem SetF.below {g o B : Nat} {u : Int} {a w w' : World} {e : Ending} (h : SetF g o u w e w') (hb : Below B a w) (hB : B <= w.heap.size) (hg : B <= g) : Below B a w' :=
 h.2.2.below hb hB (fun p hp => by rw [List.mem_singleton.1 hp]; exact hg)
theorem SetF.after {g o : Nat} {u : Int} {a w w' : World} {e : Ending} (h : SetF g o u w e w') (hb : Below a.heap.size a w) : Fs [(g, o, 2)] a w' :=
 ((Fs.of_nil hb).trans h.2.2).drop (fun p hp _ => hp) (fun p hp => hp)
structure ExpInv (w : World) (gb g1 g2 : Nat) (A : Option Addr) (n x y q : Nat) (wr : World) : Prop where
 by_ : IntAt wr gb 0 0
 out : IntAt wr g1 0 ((x ^ q : Nat) : Int)
 base : IntAt wr g2 0 (x : Int)
 words : Rd wr A n n (toL y)
 off : ∀ a, A = some a -> a.off = 0
 bel : Below w.heap.size w wr
theorem ExpInv.step {w wr w' : World} {gb g1 g2 n x y q q' : Nat} {A : Option Addr} {e : Ending} {u : Int} (h : ExpInv w gb g1 g2 A n x y q wr) (hP : SetPost g1 0 u wr e w') (hu : u = ((x ^ q' : Nat) : Int)) (h1 : w.heap.size <= g1) (hb : g1 ≠ gb) (h2 : g1 ≠ g2) : ExpInv w gb g1 g2 A n x y q' w' := by
 have hF := hP.f h.out
 exact ⟨h.by_.fs1 hF.2.2 hb, by rw [<- hu]; exact hF.2.1, h.base.fs1 hF.2.2 h2, h.words.fs h.off hF.2.2, h.off, hF.below h.bel h.bel.size h1⟩
theorem IntAt.nil {w : World} {g o : Nat} (h : IntAt w g o 0) : ∃ A c, w.cell? ⟨g, o + 1, none⟩ = some (.slice A 0 c) := by
 obtain ⟨A, n, c, h0, h1, hr, hz⟩ := h.ex
 have : n = 0 := hr.len.symm
 subst this
 exact ⟨A, c, h1⟩
theorem and_one_eq (x s : Nat) (hx : x < 4294967296) : (bits .and .u32 ((x : Int) / 2 ^ s) 1 == 1) = decide (x / 2 ^ s % 2 = 1) := by
 rw [nat_shr, and_one _ (Nat.lt_of_le_of_lt (Nat.div_le_self _ _) hx)]
 rcases Nat.mod_two_eq_zero_or_one (x / 2 ^ s) with h | h <;> rw [h] <;> rfl
theorem div_pow_succ (y i : Nat) : y / 2 ^ i = 2 * (y / 2 ^ (i + 1)) + y / 2 ^ i % 2 := by
 rw [Nat.pow_succ, <- Nat.div_div_eq_div_mul]; omega
theorem nth_bit (y i : Nat) : nth (toL y) (i / 32) / 2 ^ (i % 32) % 2 = y / 2 ^ i % 2 := by
 rw [nth_toL, pow32, <- Nat.mod_mul_right_div_self]
 have e : (2 : Nat) ^ (i % 32) * 2 = 2 ^ (i % 32 + 1) := (Nat.pow_succ ..).symm
 have e2 : (4294967296 : Nat) = 2 ^ (i % 32 + 1) * 2 ^ (31 - i % 32) := by rw [<- Nat.pow_add, show i % 32 + 1 + (31 - i % 32) = 32 by omega]
 rw [e, e2, Nat.mod_mul_right_mod, <- e, Nat.mod_mul_right_div_self, Nat.div_div_eq_div_mul, <- Nat.pow_add, show 32 * (i / 32) + i % 32 = i by omega]
def lp (p : Int) (d : Nat) : Int := sg (decide (p < 0)) (p.natAbs / Nat.gcd p.natAbs d)
def ld (p : Int) (d : Nat) : Nat := d / Nat.gcd p.natAbs d
theorem lp_abs (p : Int) (d : Nat) : (lp p d).natAbs = p.natAbs / Nat.gcd p.natAbs d := sg_abs _ _
theorem gcd_pos_of {n d : Nat} (hd : 0 < d) : 0 < Nat.gcd n d := Nat.gcd_pos_of_pos_right _ hd
theorem ld_pos {p : Int} {d : Nat} (hd : 0 < d) : 0 < ld p d := Nat.div_pos (Nat.le_of_dvd hd (Nat.gcd_dvd_right _ _)) (gcd_pos_of hd)
theorem lp_le (p : Int) (d : Nat) : (lp p d).natAbs <= p.natAbs := by rw [lp_abs]; exact Nat.div_le_self _ _
theorem ld_le (p : Int) (d : Nat) : ld p d <= d := Nat.div_le_self _ _
theorem lp_cop {p : Int} {d : Nat} (hd : 0 < d) : Nat.gcd (lp p d).natAbs (ld p d) = 1 := by
 rw [lp_abs]; exact Nat.gcd_div_gcd_div_gcd_of_pos_right hd
theorem lp_mul (p : Int) (d : Nat) : lp p d * (Nat.gcd p.natAbs d : Nat) = p := by
 have h := Nat.div_mul_cancel (Nat.gcd_dvd_left p.natAbs d)
 have e : ((p.natAbs / Nat.gcd p.natAbs d : Nat) : Int) * (Nat.gcd p.natAbs d : Nat) = (p.natAbs : Int) := by rw [<- Int.natCast_mul, h]
 unfold lp sg
 by_cases k : p < 0
 ·rw [decide_eq_true k, if_pos rfl, Int.neg_mul, e]; omega
 ·rw [decide_eq_false k, if_neg (by decide), e]; omega
theorem ld_mul (p : Int) (d : Nat) : ld p d * Nat.gcd p.natAbs d = d := Nat.div_mul_cancel (Nat.gcd_dvd_right _ _)
theorem lp_cross (p : Int) (d : Nat) : lp p d * d = p * ld p d := by
 have h1 := lp_mul p d
 have h2 : ((ld p d : Nat) : Int) * (Nat.gcd p.natAbs d : Nat) = d := by rw [<- Int.natCast_mul, ld_mul]
 generalize ((Nat.gcd p.natAbs d : Nat) : Int) = G at *
 calc lp p d * d = lp p d * (ld p d * G) := by rw [h2]
  _ = lp p d * G * ld p d := by grind
  _ = p * ld p d := by rw [h1]
theorem lp_zero (d : Nat) : lp 0 d = 0 := by simp [lp, sg]
theorem ld_zero {d : Nat} (hd : 0 < d) : ld 0 d = 1 := by simp [ld, Nat.div_self hd]
theorem lp_eq_zero {p : Int} {d : Nat} : lp p d = 0 ↔ p = 0 := by
 constructor
 ·intro h
  have := lp_mul p d
  rw [h, Int.zero_mul] at this
  exact this.symm
 ·rintro rfl; exact lp_zero d
theorem lp_neg {p : Int} {d : Nat} (hd : 0 < d) : lp p d < 0 ↔ p < 0 := by
 have h := lp_mul p d
 have hg : (0 : Int) < (Nat.gcd p.natAbs d : Nat) := by have := gcd_pos_of (n := p.natAbs) hd; omega
 generalize ((Nat.gcd p.natAbs d : Nat) : Int) = G at *
 constructor
 ·intro k; rw [<- h]; exact Int.mul_neg_of_neg_of_pos k hg
 ·intro k
  rcases Int.lt_or_le (lp p d) 0 with h1 | h1
  ·exact h1
  ·have := Int.mul_nonneg h1 (Int.le_of_lt hg)
   omega
theorem lp_sign {p : Int} {d : Nat} (hd : 0 < d) : (lp p d).sign = p.sign := by
 rcases Int.lt_trichotomy p 0 with h | h | h
 ·rw [Int.sign_eq_neg_one_of_neg h, Int.sign_eq_neg_one_of_neg ((lp_neg hd).2 h)]
 ·subst h; rw [lp_zero]
 ·rw [Int.sign_eq_one_of_pos h, Int.sign_eq_one_of_pos]
  have h1 := (lp_neg (p := p) hd)
  have h2 := lp_eq_zero (p := p) (d := d)
  omega
theorem low_uniq {x p : Int} {y d : Nat} (hd : 0 < d) (hy : 0 < y) (hc : Nat.gcd x.natAbs y = 1) (h : x * d = p * y) : lp p d = x /\ ld p d = y := by
 have hld := ld_pos (p := p) hd
 have hcop := lp_cop (p := p) hd
 have hcr := lp_cross p d
 have e : lp p d * y = x * ld p d := by
  have : (d : Int) * (lp p d * y) = d * (x * ld p d) := by
   calc (d : Int) * (lp p d * y) = lp p d * d * y := by grind
    _ = p * ld p d * y := by rw [hcr]
    _ = p * y * ld p d := by grind
    _ = x * d * ld p d := by rw [h]
    _ = _ := by grind
  exact Int.eq_of_mul_eq_mul_left (by omega) this
 have en : (lp p d).natAbs * y = x.natAbs * ld p d := by
  have := congrArg Int.natAbs e
  rwa [Int.natAbs_mul, Int.natAbs_mul, Int.natAbs_natCast, Int.natAbs_natCast] at this
 have d1 : y ∣ ld p d := by
  have : y ∣ x.natAbs * ld p d := ⟨(lp p d).natAbs, by rw [<- en, Nat.mul_comm]⟩
  exact (Nat.Coprime.symm hc).dvd_of_dvd_mul_left this
 have d2 : ld p d ∣ y := by
  have : ld p d ∣ (lp p d).natAbs * y := ⟨x.natAbs, by rw [en, Nat.mul_comm]⟩
  exact (Nat.Coprime.symm hcop).dvd_of_dvd_mul_left this
 have ey := Nat.dvd_antisymm d1 d2
 refine ⟨?_, ey.symm⟩
 rw [<- ey] at e
 exact Int.eq_of_mul_eq_mul_right (by omega) e
theorem low_cross {p q : Int} {d e : Nat} (hd : 0 < d) (he : 0 < e) (h : p * e = q * d) : lp p d = lp q e /\ ld p d = ld q e := by
 have := low_uniq (x := lp q e) (y := ld q e) (p := p) (d := d) hd (ld_pos he) (lp_cop he) ?_
 ·exact ⟨this.1, this.2⟩
 ·have k := lp_cross q e
  have : (e : Int) * (lp q e * d) = e * (p * ld q e) := by
   calc (e : Int) * (lp q e * d) = lp q e * e * d := by grind
    _ = q * ld q e * d := by rw [k]
    _ = q * d * ld q e := by grind
    _ = p * e * ld q e := by rw [h]
    _ = _ := by grind
  exact Int.eq_of_mul_eq_mul_left (by omega) this
theorem sg_low {b : Bool} {N D : Nat} (hD : 0 < D) : Nat.gcd (sg b (N / Nat.gcd N D)).natAbs (D / Nat.gcd N D) = 1 /\ sg b (N / Nat.gcd N D) * (D : Int) = sg b N * (D / Nat.gcd N D : Nat) := by
 refine ⟨by rw [sg_abs]; exact Nat.gcd_div_gcd_div_gcd_of_pos_right hD, ?_⟩
 have hg := gcd_pos_of (n := N) hD
 have g1 := Nat.gcd_dvd_left N D
 have g2 := Nat.gcd_dvd_right N D
 obtain ⟨x, hx⟩ := g1
 obtain ⟨y, hy⟩ := g2
 generalize Nat.gcd N D = G at *
 have e : N / G * D = N * (D / G) := by rw [hx, hy, Nat.mul_div_cancel_left _ hg, Nat.mul_div_cancel_left _ hg]; grind
 have e' : ((N / G : Nat) : Int) * D = (N : Int) * (D / G : Nat) := by rw [<- Int.natCast_mul, e, Int.natCast_mul]
 cases b
 ·exact e'
 ·show -((N / G : Nat) : Int) * D = -(N : Int) * (D / G : Nat)
  rw [Int.neg_mul, e', Int.neg_mul]
theorem mul_low {a b c d : Nat} (hb : 0 < b) (hd : 0 < d) (h1 : Nat.gcd a b = 1) (h2 : Nat.gcd c d = 1) (ha : 0 < a) (hc : 0 < c) :
  Nat.gcd (a / Nat.gcd a d * (c / Nat.gcd c b)) (b / Nat.gcd c b * (d / Nat.gcd a d)) = 1 /\ (a / Nat.gcd a d * (c / Nat.gcd c b)) * (b * d) = a * c * (b / Nat.gcd c b * (d / Nat.gcd a d)) := by
 have g1 := Nat.gcd_dvd_left a d
 have g2 := Nat.gcd_dvd_right a d
 have g3 := Nat.gcd_dvd_left c b
 have g4 := Nat.gcd_dvd_right c b
 have e1 : Nat.Coprime (a / Nat.gcd a d) (d / Nat.gcd a d) := Nat.coprime_div_gcd_div_gcd (gcd_pos_of hd)
 have e2 : Nat.Coprime (c / Nat.gcd c b) (b / Nat.gcd c b) := Nat.coprime_div_gcd_div_gcd (gcd_pos_of hb)
 have e3 : Nat.Coprime (a / Nat.gcd a d) (b / Nat.gcd c b) := (Nat.Coprime.coprime_dvd_left (Nat.div_dvd_of_dvd g1) h1).coprime_dvd_right (Nat.div_dvd_of_dvd g4)
 have e4 : Nat.Coprime (c / Nat.gcd c b) (d / Nat.gcd a d) := (Nat.Coprime.coprime_dvd_left (Nat.div_dvd_of_dvd g3) h2).coprime_dvd_right (Nat.div_dvd_of_dvd g2)
 refine ⟨Nat.Coprime.mul_left (Nat.Coprime.mul_right e3 e1) (Nat.Coprime.mul_right e2 e4), ?_⟩
 obtain ⟨x, hx⟩ := g1
 obtain ⟨y, hy⟩ := g2
 obtain ⟨u, hu⟩ := g3
 obtain ⟨v, hv⟩ := g4
 have hg := gcd_pos_of (n := a) hd
 have hh := gcd_pos_of (n := c) hb
 generalize Nat.gcd a d = g at *
 generalize Nat.gcd c b = h at *
 subst hx hu
 rw [hy, hv, Nat.mul_div_cancel_left _ hg, Nat.mul_div_cancel_left _ hg, Nat.mul_div_cancel_left _ hh, Nat.mul_div_cancel_left _ hh]
 grind
def DenAt (w : World) (A : Option Addr) (n c d : Nat) : Prop := (n = 0 /\ d = 1 \/ 0 < n /\ Rd w A n c (toL d)) /\ ∀ a, A = some a -> a.off = 0
structure RatSh (w : World) (g : Nat) : Prop where
 int : ∃ v, IntAt w g 0 v
 c2 : ∃ x, w.cell? ⟨g, 2, none⟩ = some x
structure RatAt (w : World) (g : Nat) (p : Int) (d : Nat) : Prop where
 num : IntAt w g 0 (lp p d)
 den : ∃ A n c, w.cell? ⟨g, 2, none⟩ = some (.slice A n c) /\ DenAt w A n c (ld p d)
 pos : 0 < d
theorem RatAt.lt {w : World} {g : Nat} {p : Int} {d : Nat} (h : RatAt w g p d) : g < w.heap.size := h.num.lt
theorem RatAt.sh {w : World} {g : Nat} {p : Int} {d : Nat} (h : RatAt w g p d) : RatSh w g := ⟨⟨_, h.num⟩, by obtain ⟨A, n, c, e, -⟩ := h.den; exact ⟨_, e⟩⟩
theorem RatAt.cross {w : World} {g : Nat} {p q : Int} {d e : Nat} (h : RatAt w g p d) (he : 0 < e) (hx : p * e = q * d) : RatAt w g q e := by
 obtain ⟨e1, e2⟩ := low_cross h.pos he hx
 exact ⟨by rw [<- e1]; exact h.num, by rw [<- e2]; exact h.den, he⟩
theorem DenAt.below {B : Nat} {w w' : World} {A : Option Addr} {n c d : Nat} (h : DenAt w A n c d) (hb : Below B w w') (hB : B = w.heap.size) : DenAt w' A n c d :=
 ⟨h.1.imp id fun k => ⟨k.1, k.2.below hb hB⟩, h.2⟩
theorem DenAt.fs {l : List Ob} {w w' : World} {A : Option Addr} {n c d : Nat} (h : DenAt w A n c d) (hf : Fs l w w') : DenAt w' A n c d :=
 ⟨h.1.imp id fun k => ⟨k.1, k.2.fs h.2 hf⟩, h.2⟩
theorem DenAt.like {w w' : World} {A : Option Addr} {n c d : Nat} (h : DenAt w A n c d) (e : w'.heap = w.heap) : DenAt w' A n c d :=
 ⟨h.1.imp id fun k => ⟨k.1, k.2.like e⟩, h.2⟩
theorem RatSh.below {w w' : World} {g : Nat} (h : RatSh w g) (hb : Below w.heap.size w w') : RatSh w' g := by
 obtain ⟨⟨v, hv⟩, x, hx⟩ := h
 exact ⟨⟨v, hv.below hb⟩, x, (hb.cell (p := ⟨g, 2, none⟩) hv.lt).trans hx⟩
theorem RatAt.below {w w' : World} {g : Nat} {p : Int} {d : Nat} (h : RatAt w g p d) (hb : Below w.heap.size w w') : RatAt w' g p d := by
 obtain ⟨A, n, c, e, hd⟩ := h.den
 exact ⟨h.num.below hb, ⟨A, n, c, (hb.cell (p := ⟨g, 2, none⟩) h.lt).trans e, hd.below hb rfl⟩, h.pos⟩
theorem RatAt.like {w w' : World} {g : Nat} {p : Int} {d : Nat} (h : RatAt w g p d) (e : w'.heap = w.heap) : RatAt w' g p d := by
 obtain ⟨A, n, c, e1, hd⟩ := h.den
 exact ⟨h.num.like e, ⟨A, n, c, by rw [<- e1]; simp only [World.cell?, e], hd.like e⟩, h.pos⟩
theorem RatAt.drew {w : World} {g : Nat} {p : Int} {d : Nat} (h : RatAt w g p d) : RatAt w.drew g p d := h.like rfl
theorem RatAt.fs {l : List Ob} {w w' : World} {g : Nat} {p : Int} {d : Nat} (h : RatAt w g p d) (hf : Fs l w w') (hne : ∀ q ∈ l, q.1 ≠ g) : RatAt w' g p d := by
 obtain ⟨A, n, c, e, hd⟩ := h.den
 exact ⟨h.num.fs hf (fun q hq k => absurd k (hne q hq)), ⟨A, n, c, (hf.cell g 2 h.lt fun q hq k => absurd k (hne q hq)).trans e, hd.fs hf⟩, h.pos⟩
theorem RatAt.fs1 {w w' : World} {g g' o' k : Nat} {p : Int} {d : Nat} (h : RatAt w g p d) (hf : Fs [(g', o', k)] w w') (hne : g' ≠ g) : RatAt w' g p d := h.fs hf fun q hq => by rw [List.mem_singleton.1 hq]; exact hne
theorem RatSh.num {w w' : World} {g : Nat} {u : Int} {e : Ending} (h : RatSh w g) (hP : SetF g 0 u w e w') : IntAt w' g 0 u /\ ∃ x, w'.cell? ⟨g, 2, none⟩ = some x := by
 obtain ⟨⟨v, hv⟩, x, hx⟩ := h
 exact ⟨hP.2.1, x, (hP.2.2.cell g 2 hv.lt fun p hp _ => by rw [List.mem_singleton.1 hp]; right; exact Nat.le_refl _).trans hx⟩
theorem Fs.set2 {w : World} {g : Nat} {v : Int} (h : IntAt w g 0 v) (s : Value) : Fs [(g, 2, 1)] w (w.setCell ⟨g, 2, none⟩ s) := by
 obtain ⟨x, hx⟩ := h.head
 refine ⟨rfl, rfl, rfl, by simp [World.setCell], fun k _ hn => Below.heap_setCell w ⟨g, 2, none⟩ s k (fun e => hn _ (List.mem_singleton.2 rfl) e.symm), fun k j _ hn => cell_ne (fun e => ?_), fun k j _ => World.frozen?_setCell _ _ _ _, fun k _ hk => ?_, fun p hp _ => ?_⟩
 ·injection e with e1 e2
  have := hn (g, 2, 1) (List.mem_singleton.2 rfl) e1
  simp only at this
  omega
 ·obtain ⟨y, hy⟩ := hk
  exact ⟨y, (cell_ne (fun e => by injection e with _ e; omega)).trans hy⟩
 ·rw [List.mem_singleton.1 hp]; exact ⟨x, hx⟩
theorem IntAt.set2 {w : World} {g : Nat} {v : Int} (h : IntAt w g 0 v) (s : Value) : IntAt (w.setCell ⟨g, 2, none⟩ s) g 0 v :=
 h.fs (Fs.set2 h s) fun p hp _ => by rw [List.mem_singleton.1 hp]; left; exact Nat.le_refl _
theorem RatAt.made {w : World} {g n c d : Nat} {p x : Int} {y : Nat} {A : Option Addr} (h : IntAt w g 0 x) (hc : ∃ z, w.cell? ⟨g, 2, none⟩ = some z) (hd : DenAt w A n c y) (hp : 0 < d) (hy : 0 < y) (h1 : Nat.gcd x.natAbs y = 1) (h2 : x * d = p * y) : RatAt (w.setCell ⟨g, 2, none⟩ (.slice A n c)) g p d := by
 obtain ⟨e1, e2⟩ := low_uniq hp hy h1 h2
 obtain ⟨z, hz⟩ := hc
 exact ⟨by rw [e1]; exact h.set2 _, ⟨A, n, c, cell_eq hz, by rw [e2]; exact hd.fs (Fs.set2 h _)⟩, hp⟩
theorem fs3 {w w' : World} {g : Nat} (h : Fs [(g, 0, 2), (g, 2, 1)] w w') : Fs [(g, 0, 3)] w w' :=
 ⟨h.os, h.tape, h.output, h.size, fun k hk hn => h.block k hk fun p hp => by
   simp only [List.mem_cons, List.not_mem_nil, or_false] at hp
   rcases hp with rfl | rfl <;> exact hn (g, 0, 3) (List.mem_singleton.2 rfl),
  fun k j hk hn => h.cell k j hk fun p hp e => by
   have := hn (g, 0, 3) (List.mem_singleton.2 rfl)
   simp only [List.mem_cons, List.not_mem_nil, or_false] at hp
   rcases hp with rfl | rfl <;> (have := this e; simp only at this ⊢; omega),
  h.frozen, h.head, fun p hp hlt => by
   rw [List.mem_singleton.1 hp] at hlt ⊢
   exact h.obj (g, 0, 2) (by simp) hlt⟩
def RatF (g : Nat) (p : Int) (d : Nat) (w : World) (e : Ending) (w' : World) : Prop := e = .returned (.pointer (some ⟨g, 0, none⟩)) /\ RatAt w' g p d /\ Fs [(g, 0, 3)] w w'
theorem RatF.below {g B d : Nat} {p : Int} {a w w' : World} {e : Ending} (h : RatF g p d w e w') (hb : Below B a w) (hB : B <= w.heap.size) (hg : B <= g) : Below B a w' :=
 h.2.2.below hb hB (fun p hp => by rw [List.mem_singleton.1 hp]; exact hg)
theorem Fs.after {l : List Ob} {a w w' : World} (h : Fs l w w') (hb : Below a.heap.size a w) : Fs l a w' :=
 ((Fs.of_nil hb).trans h).drop (fun p hp _ => hp) (fun p hp => hp)
def NewRat' (p : Int) (d : Nat) (w : World) (e : Ending) (w' : World) : Prop := ∃ g, e = .returned (.pointer (some ⟨g, 0, none⟩)) /\ w.heap.size <= g /\ RatAt w' g p d /\ Below w.heap.size w w'
theorem RatAt.zero (w : World) (t : TypeId) : RatAt (w.alloc (.cells #[.bool false, .slice none 0 0, .slice none 0 0] t)) w.heap.size 0 1 := by
 have hi : IntAt (w.alloc (.cells #[.bool false, .slice none 0 0, .slice none 0 0] t)) w.heap.size 0 0 :=
  ⟨by simp, ⟨false, by simp only [World.cell?]; rw [heap_alloc_new]; rfl⟩, fun j => by simp only [World.frozen?]; rw [heap_alloc_new]; simp, none, 0, 0, by simp only [World.cell?]; rw [heap_alloc_new]; rfl, by simp only [World.cell?]; rw [heap_alloc_new]; rfl, by
   have : toL (0 : Int).natAbs = [] := rfl
   rw [this]; exact Rd.nil _, fun a e => by cases e⟩
 exact ⟨by rw [lp_zero]; exact hi, ⟨none, 0, 0, by simp only [World.cell?]; rw [heap_alloc_new]; rfl, .inl ⟨rfl, ld_zero (by omega)⟩, fun a e => by cases e⟩, by omega⟩
theorem Rd.den {w : World} {A : Option Addr} {n c d : Nat} (h : Rd w A n c (toL d)) (hd : 0 < d) (hz : ∀ a, A = some a -> a.off = 0) : DenAt w A n c d := by
 refine ⟨.inr ⟨?_, h⟩, hz⟩
 rcases Nat.eq_zero_or_pos n with rfl | hn
 ·have := words_eq_zero.1 h.words; omega
 ·exact hn
theorem DenAt.nil (w : World) : DenAt w none 0 0 1 := ⟨.inl ⟨rfl, rfl⟩, fun a e => by cases e⟩
theorem inv_low {N d : Nat} (hN : 0 < N) (hd : 0 < d) : Nat.gcd (ld N d) (lp N d).natAbs = 1 /\ ((ld N d : Nat) : Int) * (N : Nat) = (d : Int) * ((lp N d).natAbs : Nat) /\ 0 < (lp (N : Int) d).natAbs := by
 have h := lp_cop (p := (N : Int)) hd
 have k := lp_cross (N : Int) d
 have z := lp_neg (p := (N : Int)) hd
 have z0 := lp_eq_zero (p := (N : Int)) (d := d)
 refine ⟨by rw [Nat.gcd_comm]; exact h, ?_, by omega⟩
 have : ((lp (N : Int) d).natAbs : Int) = lp (N : Int) d := by omega
 rw [this, Int.mul_comm (d : Int), k, Int.mul_comm]
def Sm (n : Nat) : Prop := bl n <= 4294967296
theorem bl_mul_le (a b : Nat) : bl (a * b) <= bl a + bl b := bl_le (by rw [Nat.pow_add]; exact Nat.mul_lt_mul'' (lt_bl a) (lt_bl b))
theorem bl_add_le (a b : Nat) : bl (a + b) <= max (bl a) (bl b) + 1 := bl_le (by
 have h1 := lt_bl a
 have h2 := lt_bl b
 have h3 : 2 ^ bl a <= 2 ^ max (bl a) (bl b) := Nat.pow_le_pow_right (by omega) (Nat.le_max_left _ _)
 have h4 : 2 ^ bl b <= 2 ^ max (bl a) (bl b) := Nat.pow_le_pow_right (by omega) (Nat.le_max_right _ _)
 rw [Nat.pow_succ]; omega)
end Go.Proofs.YtddaldghlinokaaGreatDoor
namespace Go.Proofs.YtddaldghlinokaaGreatDoor
open Go
theorem le_ilog {a b : Nat} {e : Int} (ha : 0 < a) (hb : 0 < b) (h : b * p2 e <= a * p2 (-e)) : e <= ilog a b := by
 rcases Int.lt_or_le (ilog a b) e with k | k
 ·have := lt_scale k (ilog_spec ha hb).2
  omega
 ·exact k
theorem ilog_lt {a b : Nat} {e : Int} (ha : 0 < a) (hb : 0 < b) (h : a * p2 (-e) < b * p2 e) : ilog a b < e := by
 rcases Int.lt_or_le (ilog a b) e with k | k
 ·exact k
 ·have := le_scale k (ilog_spec ha hb).1
  omega
theorem out_big {E F : Nat} {neg : Bool} {mode a b : Nat} (h : bias E < ilog a b) : out E F neg mode a b = (if inner neg mode then inf_ E F - 1 else inf_ E F, 3) := by
 have : over E F neg mode a b = true := by
  unfold over low_
  rw [Bool.or_eq_true, decide_eq_true_iff]
  left; omega
 unfold out
 rw [if_pos this]
theorem out_tiny {E F : Nat} {neg : Bool} {mode a b : Nat} (hE : 2 <= E) (hF : 1 <= F) (ha : 0 < a) (hb : 0 < b) (h : ilog a b < -bias E - F - 1) : out E F neg mode a b = (if more neg mode false (-1) then 1 else 0, 5) := by
 have h3 := bias_pos hE
 have hl : low_ E a b = 1 - bias E := by unfold low_; omega
 have hs := (ilog_spec ha hb).2
 have hA : 4 * (a * p2 (F - (1 - bias E))) < b := by
  have e1 : p2 (-ilog a b) = 8 * p2 (F - (1 - bias E)) * p2 (-ilog a b - (F - (1 - bias E)) - 3) := by
   have k1 := p2_add_nonneg (m := 3) (n := F - (1 - bias E)) (by omega) (by omega)
   have k2 := p2_add_nonneg (m := 3 + (F - (1 - bias E))) (n := -ilog a b - (F - (1 - bias E)) - 3) (by omega) (by omega)
   rw [show (3 : Int) + (F - (1 - bias E)) + (-ilog a b - (F - (1 - bias E)) - 3) = -ilog a b by omega, k1] at k2
   exact k2
  rw [p2_nonpos (n := ilog a b) (by omega), Nat.mul_one, e1] at hs
  have h4 := p2_pos (-ilog a b - (F - (1 - bias E)) - 3)
  have h5 : a * (8 * p2 (F - (1 - bias E))) * 1 <= a * (8 * p2 (F - (1 - bias E))) * p2 (-ilog a b - (F - (1 - bias E)) - 3) := Nat.mul_le_mul_left _ h4
  have h6 : a * (8 * p2 (F - (1 - bias E)) * p2 (-ilog a b - (F - (1 - bias E)) - 3)) = a * (8 * p2 (F - (1 - bias E))) * p2 (-ilog a b - (F - (1 - bias E)) - 3) := by grind
  rw [h6] at hs
  have h7 : a * (8 * p2 (F - (1 - bias E))) = 8 * (a * p2 (F - (1 - bias E))) := by grind
  omega
 have hA0 : 0 < a * p2 (F - (1 - bias E)) := Nat.mul_pos ha (p2_pos _)
 have hr : rest_ E F a b = a * p2 (F - (1 - bias E)) := by
  unfold rest_
  rw [hl, p2_nonpos (n := 1 - bias E - F) (by omega), Nat.mul_one]
  exact Nat.mod_eq_of_lt (by omega)
 have hm : mant E F neg mode a b = if more neg mode false (-1) then 1 else 0 := by
  unfold mant rnd
  rw [hl, p2_nonpos (n := 1 - bias E - F) (by omega), Nat.mul_one, Nat.mod_eq_of_lt (by omega), Nat.div_eq_of_lt (by omega), if_neg (by omega), cmpI_lt (by omega)]
  rfl
 have hbt : bits_ E F neg mode a b = if more neg mode false (-1) then 1 else 0 := by
  unfold bits_
  rw [hm, hl, show (1 - bias E + bias E - 1).toNat = 0 by omega]
  simp
 have hi := inf_eq (F := F) hE
 have hF2 : 2 ^ 1 <= 2 ^ F := Nat.pow_le_pow_right (by omega) hF
 have ho : over E F neg mode a b = false := by
  unfold over
  rw [hbt, hl, Bool.or_eq_false_iff, decide_eq_false_iff_not, decide_eq_false_iff_not]
  refine ⟨by omega, ?_⟩
  have h8 : 3 * ((2 ^ F : Nat) : Int) <= (2 * bias E + 1) * (2 ^ F : Nat) := Int.mul_le_mul_of_nonneg_right (by omega) (by omega)
  split <;> omega
 have hu : under E F neg mode a b = true := by
  unfold under
  rw [Bool.and_eq_true, Bool.or_eq_true, decide_eq_true_iff, decide_eq_true_iff]
  exact ⟨by omega, .inl (by omega)⟩
 unfold out flags_
 rw [ho, if_neg (by decide), hbt, hr, if_neg (show ¬ a * p2 (F - (1 - bias E)) = 0 by omega), hu, if_pos rfl]
def near (n K : Int) : Int := max (-K) (min n K)
theorem out_near {E F : Nat} {neg : Bool} {mode : Nat} (f g : Int -> Nat) (K n : Int) (hE : 2 <= E) (hE' : E <= 11) (hF : 1 <= F) (hF' : F <= 52) (hK : 0 <= K) (hf : ∀ n, 0 < f n) (hg : ∀ n, 0 < g n)
  (h1 : ∀ n, K <= n -> g n * p2 1200 <= f n) (h2 : ∀ n, n <= -K -> f n * p2 1200 < g n) : out E F neg mode (f (near n K)) (g (near n K)) = out E F neg mode (f n) (g n) := by
 have hb := bias_le hE'
 have big : ∀ n, K <= n -> out E F neg mode (f n) (g n) = (if inner neg mode then inf_ E F - 1 else inf_ E F, 3) := fun n hn => by
  have := le_ilog (e := 1200) (hf n) (hg n) (by rw [p2_nonpos (n := -1200) (by omega), Nat.mul_one]; exact h1 n hn)
  exact out_big (by omega)
 have tiny : ∀ n, n <= -K -> out E F neg mode (f n) (g n) = (if more neg mode false (-1) then 1 else 0, 5) := fun n hn => by
  have := ilog_lt (e := -1200) (hf n) (hg n) (by rw [p2_nonpos (n := -1200) (by omega), Nat.mul_one]; exact h2 n hn)
  exact out_tiny hE hF (hf n) (hg n) (by omega)
 unfold near
 rcases Int.lt_or_le n (-K) with h | h
 ·rw [show max (-K) (min n K) = -K by omega, tiny _ (Int.le_refl _), tiny _ (by omega)]
 ·rcases Int.lt_or_le K n with h' | h'
  ·rw [show max (-K) (min n K) = K by omega, big _ (Int.le_refl _), big _ (by omega)]
  ·rw [show max (-K) (min n K) = n by omega]
theorem pow_p2 (x : Nat) (y : Int) : 2 ^ x * p2 y = 2 ^ (x + y.toNat) := by unfold p2; rw [Nat.pow_add]
def t10 (n : Int) : Nat := 10 ^ n.toNat
theorem near_twos {E F : Nat} {neg : Bool} {mode a : Nat} (c : Int) (n : Int) (hE : 2 <= E) (hE' : E <= 11) (hF : 1 <= F) (hF' : F <= 52) (ha : 0 < a) (hc : 1200 <= c) :
  out E F neg mode (a * p2 (near n (bl a + c))) (p2 (-near n (bl a + c))) = out E F neg mode (a * p2 n) (p2 (-n)) := by
 refine out_near (fun n => a * p2 n) (fun n => p2 (-n)) _ n hE hE' hF hF' (by omega) (fun n => Nat.mul_pos ha (p2_pos _)) (fun n => p2_pos _) (fun n hn => ?_) (fun n hn => ?_)
 ·show p2 (-n) * p2 1200 <= a * p2 n
  rw [p2_nonpos (n := -n) (by omega), Nat.one_mul]
  calc p2 1200 <= p2 n := p2_mono (by omega)
   _ <= a * p2 n := Nat.le_mul_of_pos_left _ ha
 ·show a * p2 n * p2 1200 < p2 (-n)
  rw [p2_nonpos (n := n) (by omega), Nat.mul_one]
  calc a * p2 1200 < 2 ^ bl a * p2 1200 := Nat.mul_lt_mul_of_pos_right (lt_bl a) (p2_pos _)
   _ = 2 ^ (bl a + (1200 : Int).toNat) := pow_p2 _ _
   _ <= p2 (-n) := Nat.pow_le_pow_right (by omega) (by omega)
end Go.Proofs.YtddaldghlinokaaGreatDoor
