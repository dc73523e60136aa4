/- Lemmas. -/
import Derived.Test.YtddaldghlinokaaGreatDoorPartBJ
import Derived.Outline
import Derived.Test.YtddaldghlinokaaGreatDoorPartAX
import Derived.Test.YtddaldghlinokaaGreatDoorPartAW
import Derived.Test.YtddaldghlinokaaGreatDoorPartAY
import Derived.Test.YtddaldghlinokaaGreatDoorPartAU
set_option linter.all false
namespace Go.Proofs.YtddaldghlinokaaGreatDoor.A
open Go Go.RowKit Scn
theorem and_all (x : Nat) (h : x < 4294967296) : bits .and .u32 (x : Int) 4294967295 = (x : Int) := by
 have := u32_and_nat x 4294967295 h (by omega)
 have e : x &&& 4294967295 = x := by
  have h2 := Nat.and_two_pow_sub_one_eq_mod x 32
  rw [show (2 : Nat) ^ 32 - 1 = 4294967295 from rfl, show (2 : Nat) ^ 32 = 4294967296 from rfl] at h2
  rw [h2]; omega
 rw [e] at this
 exact this
def AndI (w : World) (R : Nat) (i : Value) (wr : World) : Prop :=
 ∃ k : Nat, k <= 1 /\ i = .int .i64 (k : Int) /\ Own wr w.heap.size 34 [if k = 0 then 0 else R] /\ Below w.heap.size w wr
set_option maxHeartbeats 2000000 in
set_option maxRecDepth 100000 in
theorem And32 (g o gx ox gy oy : Nat) (v : Int) (X : Nat) (w : World) (h : IntAt w g o v) (hx : IntAt w gx ox (X : Int)) (hy : IntAt w gy oy 4294967295) (sX : Sz X) (h0 : 0 < X) :
  Calls Tryz.prog 267 #[.pointer (some ⟨g, o, none⟩), .pointer (some ⟨gx, ox, none⟩), .pointer (some ⟨gy, oy, none⟩)] w (SetPost g o ((X % 4294967296 : Nat) : Int) w) := by
 have HI := vv h
 have hlx := hx.lt
 have hly := hy.lt
 obtain ⟨A, n, c, -, h1, hr, hz⟩ := hx.ex
 obtain ⟨B, m, d, -, k1, hs, hzy⟩ := hy.ex
 rw [Int.natAbs_natCast] at hr
 have hs : Rd w B m d (toL 4294967295) := hs
 have hm1 : m = 1 := by
  have a := hs.bound (k := 1) (by rw [Nat.pow_one]; decide)
  rcases Nat.eq_zero_or_pos m with e | e
  ·subst e
   have := hs.lt
   rw [val_toL, Nat.pow_zero] at this
   omega
  ·omega
 subst hm1
 have hn1 := hr.sz sX
 have hn0 : 0 < n := by
  rcases Nat.eq_zero_or_pos n with e | e
  ·subst e
   have := hr.lt
   rw [val_toL, Nat.pow_zero] at this
   omega
  ·exact e
 obtain ⟨b1, o1, rfl, hb1, hc1⟩ := hr.cell hn0
 obtain ⟨b2, o2, rfl, hb2, hc2⟩ := hs.cell (by decide)
 have x0 := hc1 0 hn0
 have y0 := hc2 0 (by decide)
 rw [Nat.add_zero] at x0 y0
 have ex : nth (toL X) 0 = X % 4294967296 := by rw [nth_toL, Nat.pow_zero, Nat.div_one]
 have ey : ((nth (toL 4294967295) 0 : Nat) : Int) = 4294967295 := by rw [nth_toL]; rfl
 rw [ex] at x0
 rw [ey] at y0
 obtain ⟨R, hR⟩ := yx (X % 4294967296)
 rw [<- hR] at x0 ⊢
 have hRb : R < 4294967296 := by omega
 have hni : (n : Int) <= 8589934592 := by omega
 have hn0i : (1 : Int) <= (n : Int) := by omega
 have HRb := vv hRb
 have HAnd := vv (and_all R hRb)
 have HX1 := vv (fun (w' : World) (h : Below w.heap.size w w') => And.intro ((h.cell (p := ⟨gx, ox + 1, none⟩) hlx).trans h1) (And.intro ((h.cell (p := ⟨gy, oy + 1, none⟩) hly).trans k1) (And.intro ((h.cell (p := ⟨b1, o1, none⟩) hb1).trans x0) ((h.cell (p := ⟨b2, o2, none⟩) hb2).trans y0))))
 have hmk : ∀ w, (Instr.makeSlice 26 (.int .i64 1) (.int .i64 1)).run Tryz.prog w = .ok (.slice (some ⟨w.heap.size, 0, none⟩) 1 1) (w.alloc (.cells (madeCells #[.int .u32 0] 1) 34)) := fun w => mk 1 (by omega) w
 have Hmin : min (n : Int) 1 = 1 := by omega
 clear hx hy h hc1 hc2 hr hs hz hzy ex ey hR hRb sX h0 hn1
 go_enter Tryz.func267, Tryz.ntmps267
 go_wp2_with fail
 refine wp_region_sch (fun w' => w'.cell? ⟨gx, ox + 1, none⟩ = some (.slice (some ⟨b1, o1, none⟩) n c) /\ w'.cell? ⟨gy, oy + 1, none⟩ = some (.slice (some ⟨b2, o2, none⟩) 1 d)) 11
  (.still 0 (.still 1 (.still 2 (.still 3 (.still 4 (.still 5 (.still 6 (.still 7 (.still 8 (.still 9 (.still 10 .done))))))))))) (by kernel_rfl) (by kernel_rfl) (fun _ _ d _ _ h => by cases d <;> exact h) ⟨h1, k1⟩ (fun hS0 => ?_)
 iterate 11
  refine sch_still (v := ?_) rfl (by rfl) ?_ ?_
  rotate_left
  ·intro w hSw; go_simp; with_reducible rfl
  simp only [Act.put, List.setIfInBounds_toArray, List.set_cons_zero, List.set_cons_succ]
 refine sch_done ?_
 simp only [List.drop_succ_cons, List.drop_zero]
 clear hS0
 go_wp2
 have hO : Own (w.drew.alloc (.cells (madeCells #[.int .u32 0] 1) 34)) w.heap.size 34 [0] := Own.made w.drew 1 34
 have hB : Below w.heap.size w (w.drew.alloc (.cells (madeCells #[.int .u32 0] 1) 34)) := (below_drew (Below.refl _ w)).alloc (Nat.le_refl _) _
 have HO := vv hO
 have HB := vv hB
 clear hO hB
 go_loopw [9] (fun i wr => AndI w R i wr) (fun i _ => 1 - (intOf i).toNat)
 case atStart => exact ⟨0, by omega, rfl, HO.out, HB.out⟩
 case round =>
  obtain ⟨k, hk, rfl, hO, hB⟩ := hrel
  have HO := vv hO
  have HB := vv hB
  clear hO hB
  rcases (by omega : k = 0 \/ k = 1) with rfl | rfl
  ·obtain ⟨c1, c2, c3, c4⟩ := HX1.out _ HB.out
   have ow := HO.out.cell (i := 0) (by simp)
   have of := HO.out.frozen 0
   have ol := HO.out.lt
   go_wp2_with fail
   refine wp_region_sch (fun w' => w'.cell? ⟨gx, ox + 1, none⟩ = some (.slice (some ⟨b1, o1, none⟩) n c) /\ w'.cell? ⟨gy, oy + 1, none⟩ = some (.slice (some ⟨b2, o2, none⟩) 1 d) /\ w'.cell? ⟨b1, o1, none⟩ = some (.int .u32 (R : Int)) /\ w'.cell? ⟨b2, o2, none⟩ = some (.int .u32 4294967295)) 18
    (.still 0 (.still 1 (.still 2 (.still 3 (.still 4 (.still 5 (.still 6 (.still 7 (.still 8 (.still 9 (.still 10 (.still 11 (.still 12 (.still 13 (.still 14 (.still 15 (.still 16 (.still 17 .done)))))))))))))))))) (by kernel_rfl) (by kernel_rfl) (fun _ _ d _ _ h => by cases d <;> exact h) ⟨c1, c2, c3, c4⟩ (fun hS0 => ?_)
   have hand := HAnd.out
   iterate 18
    refine sch_still (v := ?_) rfl (by rfl) ?_ ?_
    rotate_left
    ·intro w hSw; go_simp; with_reducible rfl
    simp only [Act.put, List.setIfInBounds_toArray, List.set_cons_zero, List.set_cons_succ]
   refine sch_done ?_
   simp only [List.drop_succ_cons, List.drop_zero]
   clear hS0 hand c1 c2 c3 c4
   obtain ⟨w2, hw2⟩ := yx ((wr.setCell ⟨w.heap.size, 0, none⟩ (.int .u32 (R : Int))).drew)
   have HO2 : Hid (Own w2 w.heap.size 34 [R]) := vv (by rw [hw2]; exact (HO.out.set (i := 0) (x := R) (by simp) HRb.out rfl).drew)
   have HB2 : Hid (Below w.heap.size w w2) := vv (by rw [hw2]; exact below_drew (HB.out.setCell (Nat.le_refl _) _))
   have HW2 := vv hw2
   clear hw2
   go_wp2
   go_roundw
   case rel => exact ⟨1, by omega, by go_num, by rw [<- HW2.out]; exact HO2.out, by rw [<- HW2.out]; exact HB2.out⟩
   case measure => simp [intOf]
  ·have HR : Hid (Rd wr (some ⟨w.heap.size, 0, none⟩) 1 1 [R]) := vv (HO.out.rd rfl (Nat.le_refl _) (by decide))
   have HI2 := vv (HI.out.below HB.out)
   clear hk
   go_wp2_with fail
   refine (set_ g o v ((R : Nat) : Int) false _ 1 1 [R] wr HI2.out HR.out (fun a e => by cases e; rfl) (by rw [Int.natAbs_natCast]; simp [val]) (by rw [Bool.false_and]; exact decide_eq_false (by omega))).mono ?_
   rintro e w3 ⟨rfl, hI, hF⟩
   have HI3 := vv hI
   have HF3 := vv (Fm.trans (Fm.of_below HB.out HI.out.lt) hF)
   clear hI hF
   go_wp2
   go_ret
   exact ⟨rfl, HI3.out, HF3.out⟩
def OwnP (g o : Nat) (u : Int) (B : Nat) (w : World) (e : Ending) (w' : World) : Prop :=
 SetPost g o u w e w' /\ ∃ A n c, w'.cell? ⟨g, o + 1, none⟩ = some (.slice A n c) /\ Fr B A
def SetOwn (g o : Nat) (u : Int) (w : World) (e : Ending) (w' : World) : Prop := OwnP g o u w.heap.size w e w'
theorem set_own (g o : Nat) (v u : Int) (b : Bool) (A : Option Addr) (n c N B : Nat) (w : World) (h : IntAt w g o v) (hr : Rd w A n c (toL N)) (hz : Fr B A)
  (hu : u.natAbs = N) (hb : decide (u < 0) = (b && decide (0 < N))) :
  Calls Tryz.prog 247 #[.pointer (some ⟨g, o, none⟩), .bool b, .slice A n c] w (OwnP g o u B w) := by
 have hsm := hr.sm
 have HT := vv (trim A n c (toL N) w hr)
 have HI := vv h
 have hlt := h.lt
 have hf0 := h.fz o
 have hf1 := h.fz (o + 1)
 obtain ⟨A', n', c', h0, h1, hr', hz'⟩ := h.ex
 have HU := vv hu
 have HB := vv hb
 have HZ := vv hz
 clear h hr hr' hz' hu hb
 have H1 := vv h1
 go_enter Tryz.func247, Tryz.ntmps247
 go_wp2_with fail
 refine HT.out.mono ?_
 rintro e w' ⟨m, rfl, rfl, hR⟩
 rw [val_toL] at hR
 have hms := hR.sm
 have hme : m = 0 ↔ N = 0 := by
  have := hR.words
  rw [<- this]; exact words_eq_zero
 have HR := vv hR
 clear hR HT hsm
 have ne : (⟨g, o, none⟩ : Addr) ≠ ⟨g, o + 1, none⟩ := fun e => by injection e with _ e; omega
 have HNe := vv ne
 clear ne
 cases b
 ·have HF : Hid (decide (u < 0) = false) := vv (by rw [HB.out]; rfl)
  clear hme
  go_wp2
  go_ret
  exact ⟨⟨rfl, HI.out.put HF.out.symm (by rw [HU.out]; exact HR.out) (fun a e => (HZ.out a e).2), put_fm _ _ _ _ _⟩, A, m, c, (cell_ne HNe.out).trans (cell_eq H1.out), HZ.out⟩
 ·have HF : Hid (decide (u < 0) = decide (0 < m)) := vv (by rw [HB.out, Bool.true_and]; by_cases h : m = 0 <;> simp <;> omega)
  clear hme
  go_wp2
  go_ret
  exact ⟨⟨rfl, HI.out.put HF.out.symm (by rw [HU.out]; exact HR.out) (fun a e => (HZ.out a e).2), put_fm _ _ _ _ _⟩, A, m, c, (cell_ne HNe.out).trans (cell_eq H1.out), HZ.out⟩
theorem Set_own (g o gx ox : Nat) (v u : Int) (w : World) (h : IntAt w g o v) (hx : IntAt w gx ox u) :
  Calls Tryz.prog 257 #[.pointer (some ⟨g, o, none⟩), .pointer (some ⟨gx, ox, none⟩)] w (SetOwn g o u w) := by
 have HI := vv h
 have hlt := hx.lt
 obtain ⟨A, n, c, h0, h1, hr, hz⟩ := hx.ex
 have HR := vv hr.drew
 have HZ := vv hz
 clear hr hz h hx
 go_enter Tryz.func257, Tryz.ntmps257
 go_wp2_with fail
 go_region_with (first
  | (go_at_call 248; (with_reducible refine (copied _ _ _ _ _ HR.out).mono ?_); rintro e w1 ⟨rfl, hO, hB⟩; have HO1 : Hid (Rd w1 (some ⟨w.heap.size, 0, none⟩) n n (toL u.natAbs)) := vv (hO.rd HR.out.len.symm (Nat.le_refl _) HR.out.sm); have h0' := (hB.cell (p := ⟨gx, ox, none⟩) hlt).trans h0)
  | (go_at_call 247; (with_reducible refine (set_own g o v u _ _ n n u.natAbs w.heap.size _ (HI.out.drew.below hB) HO1.out (Fr.at_ (Nat.le_refl _)) rfl (sg_same u)).mono ?_); rintro e w2 ⟨⟨rfl, hI, hF⟩, hX⟩))
 all_goals
  have HX := vv hX
  clear hX
  go_wp2
  go_ret
  exact ⟨⟨rfl, hI, ((Fm.of_below hB HI.out.lt).trans hF).undrew⟩, HX.out⟩
theorem Rsh_own (g o gx ox k : Nat) (v u : Int) (w : World) (h : IntAt w g o v) (hx : IntAt w gx ox u) (hu : 0 <= u) (hk : k < 1000000000000) :
  Calls Tryz.prog 266 #[.pointer (some ⟨g, o, none⟩), .pointer (some ⟨gx, ox, none⟩), .int .u64 (k : Int)] w (SetOwn g o (u / 2 ^ k) w) := by
 have HI := vv h
 have hlx := hx.lt
 obtain ⟨A, n, c, h0, h1, hr, hz⟩ := hx.ex
 have hd : decide (u < 0) = false := decide_eq_false (by omega)
 rw [hd] at h0
 have hk2 : IntKind.i64.wrap (k : Int) = (k : Int) := by rw [IntKind.wrap_i64]; omega
 have HM := vv (down A n c _ k _ rfl w hr (by omega))
 have HU : Hid ((u / 2 ^ k).natAbs = u.natAbs / 2 ^ k) := vv (by
  obtain ⟨N, rfl⟩ : ∃ N : Nat, u = (N : Int) := ⟨u.toNat, by omega⟩
  have : ((N : Int) / 2 ^ k) = ((N / 2 ^ k : Nat) : Int) := by rw [Int.natCast_ediv, Int.natCast_pow]; rfl
  rw [this]; rfl)
 have HP : Hid (0 <= u / 2 ^ k) := vv (Int.ediv_nonneg hu (by
  have : (0 : Int) < 2 ^ k := by exact_mod_cast Nat.pow_pos (n := k) (show 0 < 2 by decide)
  omega))
 clear hr hz h hx hk hu hd
 go_enter Tryz.func266, Tryz.ntmps266
 go_wp2_with fail
 refine HM.out.mono ?_
 rintro e w1 ⟨A', m', c', rfl, hR, hFr, hB⟩
 have HB := vv hB
 have j0 := (hB.cell (p := ⟨gx, ox, none⟩) hlx).trans h0
 have j1 := (hB.cell (p := ⟨gx, ox + 1, none⟩) hlx).trans h1
 rw [val_toL] at hR
 have HR := vv hR
 have HF := vv hFr
 have hl1 : gx < w1.heap.size := Nat.lt_of_lt_of_le hlx hB.size
 clear hR hFr hB h0 h1 hlx
 go_wp2_with fail
 refine (set_own g o v (u / 2 ^ k) _ A' m' c' (u.natAbs / 2 ^ k) w.heap.size _ (HI.out.below HB.out) HR.out HF.out HU.out (sg_pos HP.out)).mono ?_
 rintro e w2 ⟨⟨rfl, hI, hF⟩, hX⟩
 have HX := vv hX
 clear hX
 go_wp2
 go_ret
 exact ⟨⟨rfl, hI, (Fm.of_below HB.out HI.out.lt).trans hF⟩, HX.out⟩
end Go.Proofs.YtddaldghlinokaaGreatDoor.A
namespace Go.Proofs.YtddaldghlinokaaGreatDoor.Rnd
open Go Go.RowKit R5 Scn
theorem toL_take_succ (N k : Nat) (h : k < words N) : (toL N).take (k + 1) = (toL N).take k ++ [N / 4294967296 ^ k % 4294967296] := by
 have e := nth_toL N k
 unfold words at h
 rw [List.take_succ_eq_append_getElem h]
 congr 2
 rw [<- e]
 unfold nth
 rw [List.getD_eq_getElem?_getD, List.getElem?_eq_getElem h]
 rfl
theorem words_pos_iff (N k : Nat) : 0 < N / 4294967296 ^ k ↔ k < words N := by
 constructor
 ·intro h
  rcases Nat.lt_or_ge k (words N) with h1 | h1
  ·exact h1
  ·have h2 := lt_words N
   have h3 : N < 4294967296 ^ k := Nat.lt_of_lt_of_le h2 (Nat.pow_le_pow_right (by decide) h1)
   rw [Nat.div_eq_of_lt h3] at h
   omega
 ·intro h
  rcases Nat.eq_zero_or_pos (N / 4294967296 ^ k) with h1 | h1
  ·have h3 : N < 4294967296 ^ k := by
    rcases Nat.lt_or_ge N (4294967296 ^ k) with h4 | h4
    ·exact h4
    ·have := Nat.div_pos h4 (Nat.pow_pos (by decide))
     omega
   have := words_le h3
   omega
  ·exact h1
theorem Rd.row {w w' : World} {A : Option Addr} {n c : Nat} {xs : List Nat} {row : Option Nat} (h : Rd w A n c xs) (hg : w.grownBy w' row) (hne : ∀ a, A = some a -> row ≠ some a.block) : Rd w' A n c xs :=
 ⟨h.len, h.le, h.sm, h.lim, fun hn => by
  obtain ⟨b, off, e, hlt, hc⟩ := h.cell hn
  exact ⟨b, off, e, Nat.lt_of_lt_of_le hlt hg.size, fun j hj => (World.cell?_of_block (a := ⟨b, off + j, none⟩) (hg.block b hlt (fun k => hne _ e k.symm))).trans (hc j hj)⟩⟩
def NumBy (wr : World) (g : Nat) (X : Nat) (row : Option Nat) : Prop := IntAt wr g 0 (X : Int) /\ ∃ A n c, wr.cell? ⟨g, 0 + 1, none⟩ = some (.slice A n c) /\ ∀ a, A = some a -> row ≠ some a.block
theorem NumBy.below {w w' : World} {g X : Nat} {row : Option Nat} (h : NumBy w g X row) (hb : Below w.heap.size w w') : NumBy w' g X row := by
 obtain ⟨h1, A, n, c, h2, h3⟩ := h
 exact ⟨h1.below hb, A, n, c, (hb.cell (p := ⟨g, 0 + 1, none⟩) h1.lt).trans h2, h3⟩
theorem NumBy.grown {w w' : World} {g X : Nat} {row : Option Nat} (h : NumBy w g X row) (hg : w.grownBy w' row) (hne : row ≠ some g) : IntAt w' g 0 (X : Int) := by
 obtain ⟨h1, A, n, c, h2, h3⟩ := h
 obtain ⟨A', n', c', k0, k1, hr, hz⟩ := h1.ex
 rw [h2] at k1
 cases k1
 have hb : w'.heap[g]? = w.heap[g]? := hg.block g h1.lt (fun k => hne k.symm)
 obtain ⟨x, hx⟩ := h1.head
 exact ⟨Nat.lt_of_lt_of_le h1.lt hg.size, ⟨x, (World.cell?_of_block (a := ⟨g, 0, none⟩) hb).trans hx⟩, fun j => (World.frozen?_of_block (a := ⟨g, j, none⟩) hb).trans (h1.fz j),
  A, n, c, (World.cell?_of_block (a := ⟨g, 0, none⟩) hb).trans k0, (World.cell?_of_block (a := ⟨g, 0 + 1, none⟩) hb).trans h2, Rd.row hr hg h3, hz⟩
theorem NumBy.fs {w w' : World} {g g' X : Nat} {row : Option Nat} (h : NumBy w g X row) (hf : Fs [(g', 0, 2)] w w') (hne : g' ≠ g) : NumBy w' g X row := by
 obtain ⟨h1, A, n, c, h2, h3⟩ := h
 exact ⟨h1.fs1 hf hne, A, n, c, (hf.cell g (0 + 1) h1.lt (fun p hp e => by rw [List.mem_singleton.1 hp] at e; exact absurd e hne)).trans h2, h3⟩
def LmI (w : World) (N : Nat) (v : Value) (wr : World) : Prop :=
 ∃ (k : Nat), k <= words N /\ (∃ A cap, v = .slice A k cap) /\ NumBy wr (w.heap.size + 1) (N / 4294967296 ^ k) v.ownBlock /\ wr.ownsRow (w.heap.size + 2) 34 1 v k (u32s ((toL N).take k)) /\
  Ctx w [(w.heap.size, 28, [.slice none 0 0])] wr /\ w.heap.size + 2 <= wr.heap.size
def LimbsP (N : Nat) (w : World) (e : Ending) (w' : World) : Prop := ∃ A n c, e = .returned (natV A n c) /\ Rd w' A n c (toL N) /\ Fr w.heap.size A /\ Below w.heap.size w w'
def lmM (N : Nat) (v : Value) : Nat := match v with | .slice _ n _ => words N - n | _ => 0
set_option maxRecDepth 100000 in
set_option maxHeartbeats 4000000 in
theorem limbs (g N : Nat) (w : World) (h : IntAt w g 0 (N : Int)) (sN : bl N <= 4294967296) :
  Calls Tryz.prog 173 #[.pointer (some ⟨g, 0, none⟩)] w (LimbsP N w) := by
 have hlg := h.lt
 have hwN : words N <= 8589934592 := Sz.words (by unfold Sz; omega)
 obtain ⟨w0, hw0⟩ := yx ((w.alloc (.cells #[.slice none 0 0] 28)).alloc (.cells #[.bool false, .slice none 0 0] 209))
 have hC : Ctx w [(w.heap.size, 28, [.slice none 0 0])] w0 := by
  rw [hw0]
  exact ((Ctx.nil w).new _ _ rfl).step ((Below.refl _ _).alloc (Nat.le_refl _) _)
 have hZ : IntAt w0 (w.heap.size + 1) 0 0 := by
  rw [hw0]
  have := IntAt.zero (w.alloc (.cells #[.slice none 0 0] 28)) 209
  rwa [World.size_alloc] at this
 have hs0 : w0.heap.size = w.heap.size + 2 := by rw [hw0]; simp
 have HC := vv hC
 have HZ := vv hZ
 have HI := vv (h.below hC.low)
 have HW := vv hw0
 have HS0 := vv hs0
 have HLg := vv hlg
 have HWN := vv hwN
 have HSN := vv (show Sz N by unfold Sz; omega)
 obtain ⟨i0, hi, hz0, hz1, hz2⟩ := info_parts Go.Proofs.YtddaldghlinokaaGreatDoor.A.inf
 clear hw0 hC hZ hs0 h hlg sN hwN
 go_enter Tryz.func173, Tryz.ntmps173
 go_wp2_with fail
 rw [<- HW.out]
 refine (A.Set_own (w.heap.size + 1) 0 g 0 0 (N : Int) _ HZ.out HI.out).mono ?_
 rintro e w1 ⟨⟨rfl, hI, hF⟩, hX⟩
 have HI1 : Hid (NumBy w1 (w.heap.size + 1) N none) := vv ⟨hI, by
  obtain ⟨A, n, c, h1, -⟩ := hX
  exact ⟨A, n, c, h1, fun a e k => by cases k⟩⟩
 have HC1 := vv (HC.out.write hF.grown (by omega) (by intro x hx; rw [List.mem_singleton.1 hx]; show w.heap.size ≠ _; omega))
 have HS1 : Hid (w.heap.size + 2 <= w1.heap.size) := vv (by have := hF.size; have := HS0.out; omega)
 clear hI hF HC HZ HI hX
 go_wp2
 go_loopw [3] (fun v wr => LmI w N v wr) (fun v _ => lmM N v)
 case atStart => exact ⟨0, Nat.zero_le _, ⟨none, 0, rfl⟩, (by rw [Nat.pow_zero, Nat.div_one]; exact HI1.out), World.ownsRow_nil _ _ _ _, HC1.out, HS1.out⟩
 case round =>
  obtain ⟨k, hk, ⟨A0, cap, rfl⟩, hI, hR, hC, hS⟩ := hrel
  have HI := vv hI
  have HC := vv hC
  have HR := vv hR
  have HSz := vv hS
  have HK := vv hk
  obtain ⟨X, hX⟩ := yx (N / 4294967296 ^ k)
  rw [<- hX] at HI
  have HX := vv hX
  have HRl0 : Hid (∀ b, (Value.slice A0 k cap).ownBlock = some b -> w.heap.size + 2 <= b /\ b < wr.heap.size) := vv (fun b e => hR.lt b e)
  clear hI hR hC hS hk hX HC1 HI1 HS1
  rcases Nat.eq_zero_or_pos X with h0 | h0
  ·have HE : Hid (k = words N) := vv (by
    have h1 := (words_pos_iff N k).2
    have := HK.out
    have h2 := HX.out
    rw [h0] at h2
    rcases Nat.lt_or_ge k (words N) with h3 | h3
    ·have := h1 h3; omega
    ·omega)
   have hs : ((X : Nat) : Int).sign = 0 := by rw [h0]; rfl
   have HSg := vv hs
   have b0 := HC.out.get 0 rfl |>.cell 0
   have bl := HC.out.get 0 rfl |>.lt
   have bf := HC.out.get 0 rfl |>.fz 0
   simp only [List.getElem?_cons_zero] at b0
   obtain ⟨w9, hw9⟩ := yx (wr.setCell ⟨w.heap.size, 0, none⟩ (.slice A0 k cap))
   have hrd := A.row_rd HR.out (by exact Lim_take (Lim_toL N) _) (by have := HWN.out; have := HK.out; omega)
   have ht : (toL N).take k = toL N := by rw [HE.out]; exact List.take_length
   rw [ht] at hrd
   have HR9 : Hid (Rd w9 A0 k cap (toL N)) := vv (by rw [hw9]; exact hrd.1.other _ _ _ (fun a e => by have := (hrd.2 a e).1; omega))
   have HF9 : Hid (Fr w.heap.size A0) := vv (hrd.2.mono (by omega))
   have HB9 : Hid (Below w.heap.size w w9) := vv (by rw [hw9]; exact HC.out.low.setCell (Nat.le_refl _) _)
   have k0 : w9.cell? ⟨w.heap.size, 0, none⟩ = some (.slice A0 k cap) := by rw [hw9]; exact cell_eq b0
   have HW9 := vv hw9
   have HK0 := vv k0
   clear hs h0 hrd ht hw9 k0
   go_wp2_with fail
   refine (A.Sign (w.heap.size + 1) 0 _ _ HI.out.1).mono ?_
   rintro e w' ⟨rfl, rfl⟩
   rw [HSg.out]
   go_wp2
   rw [<- HW9.out]
   have k0 := HK0.out
   exact bodyPost_ret (v := natV A0 k cap) (by simp [results, Tryz.results173, go_sem, k0]) rfl ⟨A0, k, cap, rfl, HR9.out, HF9.out, HB9.out⟩
  ·obtain ⟨v, hv⟩ := yx (Value.slice A0 k cap)
   rw [<- hv] at HR HI HRl0 ⊢
   have HV := vv hv
   clear hv
   have hs : ((X : Nat) : Int).sign = 1 := Int.sign_eq_one_of_pos (by omega)
   have HSg := vv hs
   have HKl : Hid (k < words N) := vv ((words_pos_iff N k).1 (by rw [<- HX.out]; exact h0))
   have HX0 := vv h0
   have HSX : Hid (Sz X) := vv (Sz.mono HSN.out (by rw [HX.out]; exact Nat.div_le_self _ _))
   clear hs h0
   go_wp2_with fail
   refine (A.Sign (w.heap.size + 1) 0 _ _ HI.out.1).mono ?_
   rintro e w' ⟨rfl, rfl⟩
   rw [HSg.out]
   go_wp2_with fail
   obtain ⟨w2, hw2⟩ := yx (wr.alloc (.cells #[.bool false, .slice none 0 0] 209))
   have hb2 : Below wr.heap.size wr w2 := by rw [hw2]; exact (Below.refl _ _).alloc (Nat.le_refl _) _
   obtain ⟨gz, hgz⟩ := yx (wr.heap.size)
   have HZ2 : Hid (IntAt w2 gz 0 0) := vv (by rw [hw2, hgz]; exact IntAt.zero _ _)
   have HI2 := vv (HI.out.below hb2)
   have HC2 := vv (HC.out.step hb2)
   have HR2 : Hid (w2.ownsRow (w.heap.size + 2) 34 1 v k (u32s ((toL N).take k))) := vv (row_below HR.out hb2 rfl)
   have HGz : Hid (w.heap.size + 2 <= gz) := vv (by rw [hgz]; exact HSz.out)
   rw [<- hgz] at HRl0
   rw [<- hw2, <- hgz]
   clear hb2 hw2 hgz
   refine (A.NewInt 4294967295 w2 (by omega) (by omega)).mono ?_
   rintro e w3 ⟨gy, rfl, hgy, hIy, hB⟩
   have HIy := vv hIy
   have HZ3 := vv (HZ2.out.below hB)
   have HI3 := vv (HI2.out.below hB)
   have HC3 := vv (HC2.out.step hB)
   have HR3 : Hid (w3.ownsRow (w.heap.size + 2) 34 1 v k (u32s ((toL N).take k))) := vv (row_below HR2.out hB rfl)
   have HRl : Hid (∀ b, v.ownBlock = some b -> w.heap.size + 2 <= b /\ b < gz) := vv HRl0.out
   clear hIy hgy hB HZ2 HI2 HC2 HR2
   go_wp2_with fail
   refine (A.And32 gz 0 (w.heap.size + 1) 0 gy 0 0 X w3 HZ3.out HI3.out.1 HIy.out HSX.out HX0.out).mono ?_
   rintro e w4 ⟨rfl, hI, hFm⟩
   have hF := hFm.fs HZ3.out hI
   obtain ⟨R, hR⟩ := yx (X % 4294967296)
   rw [<- hR] at hI
   have hRb : R < 4294967296 := by omega
   have HIr := vv hI
   have HI4 := vv (HI3.out.fs hF (by have := HGz.out; omega))
   have HC4 := vv (HC3.out.write hFm.grown (by have := HGz.out; omega) (by intro x hx; rw [List.mem_singleton.1 hx]; have := HGz.out; show w.heap.size ≠ _; omega))
   have HR4 : Hid (w4.ownsRow (w.heap.size + 2) 34 1 v k (u32s ((toL N).take k))) := vv (HR3.out.kept hFm.grown (by
    right
    intro e
    have := (HRl.out gz e).2
    omega))
   have HRe := vv hR
   have hRi : (R : Int) <= 4294967295 := by omega
   have HRb := vv hRb
   clear hI hFm hF hR HZ3 HI3 HC3 HR3 HIy hRb
   go_wp2_with fail
   refine (A.Uint64 gz 0 (R : Int) w4 HIr.out (by rw [Int.natAbs_natCast]; have := HRb.out; omega)).mono ?_
   rintro e w' ⟨rfl, rfl⟩
   rw [Int.natAbs_natCast]
   have HSz4 : Hid (w.heap.size + 2 <= w4.heap.size) := vv (by have := HGz.out; have := HIr.out.lt; omega)
   have hkw := HKl.out
   have hww := HWN.out
   go_wp2_with (at_builtin; refine wpList_append_own _ rfl _ _ 26 rfl (w.heap.size + 2) 34 i0 (.int .u32 0) 1 4 Tryz.underlying26 hi hz0 hz1 hz2 rfl (by decide) _ k (u32s ((toL N).take k)) rfl (HR4.out.alloc _) ⟨w4.heap.size, 0, none⟩ 1 1 [.int .u32 (R : Int)] rfl rfl (cell_one_new _ _ _) (by simp [Value.oneCell']) (by unfold maxLen; omega) (by omega) (by have := HC4.out.low.size; have := HSz4.out; simp; omega) ?_)
   intro v' w5 hown1 hgrow1 _
   have hal : Below w4.heap.size w4 (w4.alloc (.cells #[.int .u32 (R : Int)] 34)) := (Below.refl _ _).alloc (Nat.le_refl _) _
   have hI5 : IntAt w5 (w.heap.size + 1) 0 (X : Int) := (HI4.out.below hal).grown hgrow1 (fun e => by have := (HRl.out _ e).1; omega)
   have hC5 : Ctx w [(w.heap.size, 28, [.slice none 0 0])] w5 := (HC4.out.step hal).row hgrow1 (fun b e => ⟨by have := (HRl.out _ e).1; omega, fun x hx => by rw [List.mem_singleton.1 hx]; have := (HRl.out _ e).1; show w.heap.size ≠ b; omega⟩)
   have hs5 : w.heap.size + 2 <= w5.heap.size := by have := HSz4.out; have := hal.size; have := hgrow1.size; omega
   have hrow5 : w5.ownsRow (w.heap.size + 2) 34 1 v' (k + 1) (u32s ((toL N).take (k + 1))) := by
    rw [toL_take_succ N k HKl.out, <- HX.out, <- HRe.out]
    have e : u32s ((toL N).take k ++ [R]) = u32s ((toL N).take k) ++ [.int .u32 (R : Int)] := by simp [u32s]
    rw [e]
    exact hown1
   have HI5 := vv hI5
   have HC5 := vv hC5
   have HR5 := vv hrow5
   have HS5 := vv hs5
   clear hal hI5 hC5 hs5 hrow5 hown1 hgrow1 hkw hww HI4 HC4 HR4 HIr HSz4
   go_wp2_with fail
   refine (A.Rsh_own (w.heap.size + 1) 0 (w.heap.size + 1) 0 32 (X : Int) (X : Int) w5 HI5.out HI5.out (by omega) (by omega)).mono ?_
   rintro e w6 ⟨⟨rfl, hI, hFm⟩, hX6⟩
   have hne : v'.ownBlock ≠ some (w.heap.size + 1) := fun e => by have := (HR5.out.lt _ e).1; omega
   have HR6 : Hid (w6.ownsRow (w.heap.size + 2) 34 1 v' (k + 1) (u32s ((toL N).take (k + 1)))) := vv (HR5.out.kept hFm.grown (.inr hne))
   have HC6 := vv (HC5.out.write hFm.grown (by omega) (by intro x hx; rw [List.mem_singleton.1 hx]; show w.heap.size ≠ _; omega))
   have HS6 : Hid (w.heap.size + 2 <= w6.heap.size) := vv (by have := hFm.size; have := HS5.out; omega)
   have hXn : ((X : Int) / 2 ^ 32) = ((N / 4294967296 ^ (k + 1) : Nat) : Int) := by
    rw [Nat.pow_succ, <- Nat.div_div_eq_div_mul, <- HX.out]
    omega
   rw [hXn] at hI
   have HN6 : Hid (NumBy w6 (w.heap.size + 1) (N / 4294967296 ^ (k + 1)) v'.ownBlock) := vv ⟨hI, by
    obtain ⟨A, n, c, h1, h2⟩ := hX6
    refine ⟨A, n, c, h1, fun a e e2 => ?_⟩
    have := (HR5.out.lt _ e2).2
    have := (h2 a e).1
    omega⟩
   have HV6 := vv (Pnt.row_len_any HR6.out)
   clear hI hFm hX6 hXn hne HR5 HC5 HI5 HS5
   go_wp2
   go_roundw
   case rel => exact ⟨k + 1, HKl.out, HV6.out, HN6.out, HR6.out, HC6.out, HS6.out⟩
   case measure =>
    obtain ⟨A1, c1, e1⟩ := HV6.out
    rw [e1, HV.out]
    have := HKl.out
    show words N - (k + 1) < words N - k
    omega
end Go.Proofs.YtddaldghlinokaaGreatDoor.Rnd
namespace Go.Proofs.YtddaldghlinokaaGreatDoor.Rtp
open Go Go.RowKit R5 Scn
def RatP (p : Int) (D : Nat) (w : World) (e : Ending) (w' : World) : Prop :=
 ∃ X n Y m, e = .returned (.tuple #[ratioV (decide (p < 0)) X n n Y m m, .int .i64 0]) /\ Rd w' X n n (toL (lp p D).natAbs) /\ Rd w' Y m m (toL (ld p D)) /\ Below w.heap.size w w'
theorem wds_bl {N : Nat} {w : World} {A : Option Addr} {n c : Nat} (h : Rd w A n c (toL N)) (hn : n <= 16384) : bl N <= 524288 := by
 have k1 := lt_words N
 rw [h.words, pow32] at k1
 have := bl_le k1
 omega
theorem lp_le (p : Int) (D : Nat) : (lp p D).natAbs <= p.natAbs := by
 rw [lp_abs]; exact Nat.div_le_self _ _
theorem ld_le (p : Int) (D : Nat) (h : 0 < D) : ld p D <= D := by
 exact Nat.div_le_self _ _
def MkI (w : World) (X : Option Addr) (n c : Nat) (Y : Option Addr) (m d : Nat) (i : Value) (wr : World) : Prop :=
 ∃ k : Nat, k <= 2 /\ i = .int .i64 (k : Int) /\ Ctx w [(w.heap.size + 3, 28, [.slice X n c, .slice Y m d]), (w.heap.size + 2, 114, [.bool false, .slice none 0 0, .slice none 0 0]), (w.heap.size + 1, 28, [.slice Y m d]), (w.heap.size, 28, [.slice X n c])] wr
set_option maxRecDepth 100000 in
set_option maxHeartbeats 2000000 in
theorem Make (neg : Bool) (X : Option Addr) (n c : Nat) (Y : Option Addr) (m d N D : Nat) (w : World) (hX : Rd w X n c (toL N)) (hY : Rd w Y m d (toL D)) (hn : n <= 16384) (hm : m <= 16384) (hD : 0 < D) (hst : Std w) :
  Calls Tryz.prog 68 #[.bool neg, natV X n c, natV Y m d] w (RatP (sg neg N) D w) := by
 have hbn := wds_bl hX hn
 have hbd := wds_bl hY hm
 have hm0 : 0 < m := by
  rcases Nat.eq_zero_or_pos m with h | h
  ·subst h
   have := hY.lt
   rw [val_toL, Nat.pow_zero] at this
   omega
  ·exact h
 have HCk : Hid (∀ wr, Rd wr X n c (toL N) -> Calls Tryz.prog 138 #[natV X n c] wr fun e w' => e = .returned (.int .i64 0) /\ Below wr.heap.size wr w') := vv fun wr h => Pnt.Check_ok h hn
 have HCk2 : Hid (∀ wr, Rd wr Y m d (toL D) -> Calls Tryz.prog 138 #[natV Y m d] wr fun e w' => e = .returned (.int .i64 0) /\ Below wr.heap.size wr w') := vv fun wr h => Pnt.Check_ok h hm
 have HWn := vv fun wr (h : Rd wr X n c (toL N)) => whole X n c N wr h (by omega)
 have HWd := vv fun wr (h : Rd wr Y m d (toL D)) => whole Y m d D wr h (by omega)
 have HNg := vv fun g wr (h : IntAt wr g 0 (N : Int)) => A.Neg g 0 g 0 (N : Int) (N : Int) wr h h
 have HSf := vv fun g gx gy u wr (h : RatSh wr g) (hx : IntAt wr gx 0 u) (hy : IntAt wr gy 0 (D : Int)) (hu : u.natAbs = N) (hs : Std wr) => A.SetFrac g gx gy u D wr h hx hy hD hs (by rw [hu]; unfold Sz; omega) (by unfold Sz; omega)
 obtain ⟨p, hp⟩ := yx (sg neg N)
 have hpa : p.natAbs = N := by rw [hp]; exact sg_abs _ _
 have HTo := vv fun g wr (h : RatAt wr g p D) => told g p D wr h (by have := bl_mono (lp_le p D); rw [hpa] at this; omega) (by have := bl_mono (ld_le p D hD); omega)
 rw [<- hp]
 have HP := vv hp
 have HPa := vv hpa
 have HX := vv hX
 have HY := vv hY
 have HSt := vv hst
 obtain ⟨w3, hw3⟩ := yx ((((w.alloc (.cells #[.slice X n c] 28)).alloc (.cells #[.slice Y m d] 28)).alloc (.cells #[.bool false, .slice none 0 0, .slice none 0 0] 114)).alloc (.cells #[.slice X n c, .slice Y m d] 28))
 have hC : Ctx w [(w.heap.size + 3, 28, [.slice X n c, .slice Y m d]), (w.heap.size + 2, 114, [.bool false, .slice none 0 0, .slice none 0 0]), (w.heap.size + 1, 28, [.slice Y m d]), (w.heap.size, 28, [.slice X n c])] w3 := by
  rw [hw3]
  exact ((((Ctx.nil w).new _ _ rfl).new _ _ (by simp)).new _ _ (by simp)).new _ _ (by simp)
 have HW := vv hw3
 have HC := vv hC
 have hni : (n : Int) <= 16384 := by omega
 have hmi : (m : Int) <= 16384 := by omega
 have tm : ((m : Int) == 0) = false := by rw [beq_eq_false_iff_ne]; omega
 clear hw3 hC hX hY hn hm hD hst hbn hbd hm0 hp hpa
 go_enter Tryz.func68, Tryz.ntmps68
 go_wp2
 rw [<- HW.out]
 go_loopw [16] (fun i wr => MkI w X n c Y m d i wr) (fun i _ => 2 - (intOf i).toNat)
 case atStart => exact ⟨0, by omega, rfl, HC.out⟩
 case round =>
  obtain ⟨k, hk, rfl, hC⟩ := hrel
  have HC := vv hC
  have a0 := hC.get 0 rfl |>.cell 0
  have a1 := hC.get 0 rfl |>.cell 1
  have al := hC.get 0 rfl |>.lt
  simp only [List.getElem?_cons_zero, List.getElem?_cons_succ] at a0 a1
  clear hC
  rcases (by omega : k = 0 \/ k = 1 \/ k = 2) with rfl | rfl | rfl
  ·go_wp2_with fail
   refine (HCk.out _ ?_).mono ?_
   ·exact (HX.out.below HC.out.low rfl).below ((Below.refl _ _).alloc (Nat.le_refl _) _) rfl
   rintro e w1 ⟨rfl, hB⟩
   have HC1 := vv (HC.out.step (((Below.refl _ _).alloc (Nat.le_refl _) _).trans (hB.mono (by simp))))
   clear hB a0 a1 al
   go_wp2
   go_roundw
   case rel => exact ⟨1, by omega, by go_num, HC1.out⟩
   case measure => simp [intOf]
  ·go_wp2_with fail
   refine (HCk2.out _ ?_).mono ?_
   ·exact (HY.out.below HC.out.low rfl).below ((Below.refl _ _).alloc (Nat.le_refl _) _) rfl
   rintro e w1 ⟨rfl, hB⟩
   have HC1 := vv (HC.out.step (((Below.refl _ _).alloc (Nat.le_refl _) _).trans (hB.mono (by simp))))
   clear hB a0 a1 al
   go_wp2
   go_roundw
   case rel => exact ⟨2, by omega, by go_num, HC1.out⟩
   case measure => simp [intOf]
  ·have b0 := HC.out.get 2 rfl |>.cell 0
   have bl := HC.out.get 2 rfl |>.lt
   have n0 := HC.out.get 3 rfl |>.cell 0
   have nl := HC.out.get 3 rfl |>.lt
   simp only [List.getElem?_cons_zero] at b0 n0
   go_wp2_with fail
   refine (HWn.out _ (HX.out.below HC.out.low rfl)).mono ?_
   rintro e w4 ⟨g4, rfl, hg4, hI4, hB⟩
   have HI4 := vv hI4
   have HG4 : Hid (w.heap.size + 3 < g4) := vv (by have := HC.out.get 0 rfl |>.lt; omega)
   have HC4 := vv (HC.out.step hB)
   clear hI4 hg4 hB a0 a1 al b0 bl n0 nl
   have nw : ∀ x ∈ ([(w.heap.size + 3, 28, [.slice X n c, .slice Y m d]), (w.heap.size + 2, 114, [.bool false, .slice none 0 0, .slice none 0 0]), (w.heap.size + 1, 28, [.slice Y m d]), (w.heap.size, 28, [.slice X n c])] : List BlkD), x.1 < g4 := by
    have := HG4.out
    intro x hx
    simp only [List.mem_cons, List.not_mem_nil, or_false] at hx
    rcases hx with rfl | rfl | rfl | rfl <;> show _ < g4 <;> simp only <;> omega
   have HNw := vv nw
   clear nw
   cases neg
   obtain ⟨w5, rfl⟩ := yx (w4)
   have HI5 : Hid (IntAt w5 g4 0 p) := vv (by rw [HP.out]; exact HI4.out)
   have HC5 := HC4
   have b0 := HC5.out.get 2 rfl |>.cell 0
   have bl := HC5.out.get 2 rfl |>.lt
   simp only [List.getElem?_cons_zero] at b0
   clear HI4 HC4
   go_wp2_with fail
   rotate_left
   go_wp2_with fail
   refine (HNg.out g4 _ HI4.out).mono ?_
   rintro e w5 ⟨rfl, hI, hF⟩
   have HI5 : Hid (IntAt w5 g4 0 p) := vv (by rw [HP.out]; exact hI)
   have HC5 := vv (HC4.out.write hF.grown (by have := HG4.out; omega) (fun x hx => Nat.ne_of_lt (HNw.out x hx)))
   have b0 := HC5.out.get 2 rfl |>.cell 0
   have bl := HC5.out.get 2 rfl |>.lt
   simp only [List.getElem?_cons_zero] at b0
   clear HI4 HC4 hI hF
   go_wp2_with fail
   rotate_left
   all_goals
    obtain ⟨gr, hgr⟩ := yx (w5.heap.size)
    rw [<- hgr]
    obtain ⟨w6, hw6⟩ := yx (w5.alloc (.cells #[.bool false, .slice none 0 0, .slice none 0 0] 211))
    have hb6 : Below w5.heap.size w5 w6 := by rw [hw6]; exact (Below.refl _ _).alloc (Nat.le_refl _) _
    have HZ6 : Hid (RatAt w6 gr 0 1) := vv (by rw [hw6, hgr]; exact RatAt.zero _ _)
    have HG6 : Hid (w.heap.size + 3 < gr) := vv (by have := HC5.out.get 0 rfl |>.lt; omega)
    have HGN : Hid (g4 < gr) := vv (by have := HI5.out.lt; omega)
    have HC6 := vv (HC5.out.step hb6)
    have HI6 := vv (HI5.out.below hb6)
    rw [<- hw6]
    clear hgr hw6 hb6 b0 bl HC5 HI5
    refine (HWd.out _ (HY.out.below HC6.out.low rfl)).mono ?_
    rintro e w7 ⟨g7, rfl, hg7, hI7, hB⟩
    have HI7 := vv hI7
    have HG7 : Hid (gr < g7) := vv (by have := HZ6.out.lt; omega)
    have HZ7 := vv (HZ6.out.below hB)
    have HC7 := vv (HC6.out.step hB)
    have HN7 := vv (HI6.out.below hB)
    clear hI7 hg7 hB HC6 HI6 HZ6
    go_wp2_with fail
    refine (HSf.out gr g4 g7 _ _ HZ7.out.sh HN7.out HI7.out HPa.out (HC7.out.std HSt.out)).mono ?_
    rintro e w8 ⟨rfl, hR, hF⟩
    have HR8 := vv hR
    have HC8 := vv (HC7.out.fs hF (by intro p hp; rw [List.mem_singleton.1 hp]; have := HG6.out; show _ <= gr; omega) (by intro x hx p hp; rw [List.mem_singleton.1 hp]; have := HNw.out x hx; have := HGN.out; show gr ≠ _; omega))
    clear hR hF HC7 HZ7 HN7 HI7
    go_wp2_with fail
    refine (HTo.out _ _ HR8.out).mono ?_
    rintro e w9 ⟨X', n', Y', m', rfl, hX', hY', hB⟩
    have HC9 := vv (HC8.out.step hB)
    have HX9 := vv hX'
    have HY9 := vv hY'
    clear hB hX' hY' HC8 HR8
    have HBk := vv (HC9.out.get 1 rfl)
    obtain ⟨sgn, hsgn⟩ := yx (decide (p < 0))
    rw [<- hsgn]
    have HSg := vv hsgn
    clear hsgn
    go_wp2_with (with_reducible refine wpList_store_blk rfl 114 (.tmp 6) (.tmp 44) rfl (w.heap.size + 1 + 1) [.bool sgn, .slice X' n' n', .slice Y' m' m'] rfl rfl 114 _ HBk.out (by kernel_rfl) rfl rfl ?_)
    intro w10 hB hg10
    have HB10 := vv (only_below HC9.out.low hg10 HC9.out.low.size (by omega))
    have HX10 := vv (HX9.out.else_ HBk.out rfl hg10)
    have HY10 := vv (HY9.out.else_ HBk.out rfl hg10)
    obtain ⟨k0, k1, k2⟩ := Fms.blk3 hB
    have K := vv (And.intro k0 (And.intro k1 k2))
    clear hB hg10 k0 k1 k2
    go_wp2
    obtain ⟨k0, k1, k2⟩ := K.out
    exact bodyPost_ret (v := .tuple #[ratioV sgn X' n' n' Y' m' m', .int .i64 0]) (by simp [results, Tryz.results68, go_sem, k0, k1, k2]) rfl ⟨X', n', Y', m', by rw [<- HSg.out], HX10.out, HY10.out, HB10.out⟩
theorem sg_mul (b : Bool) (N M : Nat) : sg b N * (M : Int) = sg b (N * M) := by
 cases b
 ·exact (Int.natCast_mul N M).symm
 ·show -(N : Int) * (M : Int) = -((N * M : Nat) : Int)
  rw [Int.natCast_mul, Int.neg_mul]
theorem two_exp (g gx gy y : Nat) (w : World) (h : IntAt w g 0 0) (hx : IntAt w gx 0 2) (hy : IntAt w gy 0 (y : Int)) (h0 : 0 < y) (hb : y <= 20000) :
  Calls Tryz.prog 167 #[.pointer (some ⟨g, 0, none⟩), .pointer (some ⟨gx, 0, none⟩), .pointer (some ⟨gy, 0, none⟩), .pointer none] w (SetF g 0 ((2 ^ y : Nat) : Int) w) :=
 A.Exp g 0 gx 0 gy 0 0 2 y w h hx hy (by decide) h0 (by
  have : bl (2 ^ y) <= y + 1 := bl_le (Nat.pow_lt_pow_right (by decide) (by omega))
  unfold Sz; omega) (by unfold Sz; have : bl y <= y := bl_le Nat.lt_two_pow_self; omega)
theorem bl_two (N y : Nat) : bl (N * 2 ^ y) <= bl N + y := bl_le (by
 rw [Nat.pow_add]
 exact Nat.mul_lt_mul_of_pos_right (lt_bl N) (Nat.two_pow_pos y))
set_option maxRecDepth 100000 in
set_option maxHeartbeats 4000000 in
theorem Scale (neg : Bool) (X : Option Addr) (n c : Nat) (Y : Option Addr) (m d N D : Nat) (k : Int) (w : World) (hX : Rd w X n c (toL N)) (hY : Rd w Y m d (toL D)) (hn : n <= 16384) (hm : m <= 16384) (hD : 0 < D) (hg : Nat.gcd N D = 1) (hN : 0 < N)
  (hk1 : -20000 <= k) (hk2 : k <= 20000) (hbN : bl N <= 500000) (hbD : bl D <= 500000) (hst : Std w) :
  Calls Tryz.prog 70 #[ratioV neg X n c Y m d, .int .u32 2, .int .i64 k] w (RatP (sg neg (N * p2 k)) (D * p2 (-k)) w) := by
 obtain ⟨w0, hw0⟩ := yx ((w.alloc (.cells #[.bool neg, .slice X n c, .slice Y m d] 114)).alloc (.cells #[.bool false, .slice none 0 0, .slice none 0 0] 114))
 have hC : Ctx w [(w.heap.size + 1, 114, [.bool false, .slice none 0 0, .slice none 0 0]), (w.heap.size, 114, [.bool neg, .slice X n c, .slice Y m d])] w0 := by
  rw [hw0]
  exact ((Ctx.nil w).new _ _ rfl).new _ _ (by simp)
 have HTk := vv (taken neg X n c Y m d N D w0 (hC.rd hX) (hC.rd hY) hn hm hD hg (fun _ => hN) (hC.std hst))
 have HLn := vv fun w => (Tryz.bits_Len32 2 w (by omega) (by omega))
 have HTo := vv fun g p D' wr (h : RatAt wr g p D') (h1 : bl p.natAbs <= 524288) (h2 : bl D' <= 524288) => told g p D' wr h (Nat.le_trans (bl_mono (lp_le p D')) h1) (Nat.le_trans (bl_mono (Nat.div_le_self _ _)) h2)
 have HSt := vv hst
 obtain ⟨p, hp⟩ := yx (sg neg N)
 have hps : (p.sign == 0) = false := by
  rw [beq_eq_false_iff_ne]
  have : p ≠ 0 := by rw [hp]; cases neg <;> simp [sg] <;> omega
  intro e
  exact this (Int.sign_eq_zero_iff_zero.1 e)
 have hpa : p.natAbs = N := by rw [hp]; exact sg_abs _ _
 rw [<- hp] at HTk
 obtain ⟨s, hs⟩ := yx (p.sign)
 rw [<- hs] at hps
 have HS := vv hs
 have HP := vv hp
 have HPa := vv hpa
 have HbN := vv hbN
 have HbD := vv hbD
 have HD := vv hD
 have HC := vv hC
 have HW := vv hw0
 have f0 := hC.get 1 rfl |>.cell 0
 have f1 := hC.get 1 rfl |>.cell 1
 have f2 := hC.get 1 rfl |>.cell 2
 have fl := hC.get 1 rfl |>.lt
 simp only [List.getElem?_cons_zero, List.getElem?_cons_succ] at f0 f1 f2
 clear hw0 hC hX hY hn hm hD hg hN hbN hbD hst hs hp hpa
 go_enter Tryz.func70, Tryz.ntmps70
 go_wp2_with fail
 rw [<- HW.out]
 go_wp2_with fail
 refine HTk.out.mono ?_
 rintro e w1 ⟨g, rfl, hg, hR, hB⟩
 have HR1 := vv hR
 have HC1 := vv (HC.out.step hB)
 have HG1 : Hid (w.heap.size + 1 < g) := vv (by have := HC.out.get 0 rfl |>.lt; omega)
 clear hg hR hB f0 f1 f2 fl HC
 by_cases hk0 : k = 0
 ·subst hk0
  go_wp2_with fail
  refine (HTo.out _ _ _ _ HR1.out (by rw [HPa.out]; have := HbN.out; omega) (by have := HbD.out; omega)).mono ?_
  rintro e w9 ⟨X', n', Y', m', rfl, hX', hY', hB⟩
  have HC9 := vv (HC1.out.step hB)
  have HX9 := vv hX'
  have HY9 := vv hY'
  clear hB hX' hY'
  have HBk := vv (HC9.out.get 0 rfl)
  obtain ⟨sgn, hsgn⟩ := yx (decide (p < 0))
  rw [<- hsgn]
  have HSg := vv hsgn
  clear hsgn
  go_wp2_with (with_reducible refine wpList_store_blk rfl 114 (.tmp 6) (.tmp 39) rfl (w.heap.size + 1) [.bool sgn, .slice X' n' n', .slice Y' m' m'] rfl rfl 114 _ HBk.out (by kernel_rfl) rfl rfl ?_)
  intro w10 hB hg10
  have HB10 := vv (only_below HC9.out.low hg10 HC9.out.low.size (by omega))
  have HX10 := vv (HX9.out.else_ HBk.out rfl hg10)
  have HY10 := vv (HY9.out.else_ HBk.out rfl hg10)
  obtain ⟨k0, k1, k2⟩ := Fms.blk3 hB
  have K := vv (And.intro k0 (And.intro k1 k2))
  clear hB hg10 k0 k1 k2
  go_wp2
  obtain ⟨k0, k1, k2⟩ := K.out
  have e1 : sg neg (N * p2 0) = p := by rw [HP.out, show p2 0 = 1 from rfl, Nat.mul_one]
  have e2 : D * p2 (-0) = D := by rw [show p2 (-0) = 1 from rfl, Nat.mul_one]
  exact bodyPost_ret (v := .tuple #[ratioV sgn X' n' n' Y' m' m', .int .i64 0]) (by simp [results, Tryz.results70, go_sem, k0, k1, k2]) rfl (by rw [e1, e2]; exact ⟨X', n', Y', m', by rw [<- HSg.out], HX10.out, HY10.out, HB10.out⟩)
 ·have t0 : (k == 0) = false := by rw [beq_eq_false_iff_ne]; exact hk0
  obtain ⟨j, hj⟩ := yx (k.natAbs)
  have hj0 : 0 < j := by omega
  have hj2 : j <= 20000 := by omega
  have hji : (j : Int) <= 20000 := by omega
  have hmx : max k (-k) = (j : Int) := by omega
  have HJ := vv hj
  have HJ0 := vv hj0
  have HJ2 := vv hj2
  have HMx := vv hmx
  have HK0 := vv hk0
  clear hj hj0 hj2 hk0 hmx
  go_wp2_with fail
  refine (A.RSign g _ _ _ HR1.out).mono ?_
  rintro e w' ⟨rfl, rfl⟩
  rw [<- HS.out]
  go_wp2_with fail
  refine (HLn.out _).mono ?_
  rintro e wL ⟨rfl, hw⟩
  subst hw
  rw [show Lib.bitLen (2 : Int).toNat = 2 from by kernel_rfl]
  go_wp2_with fail
  obtain ⟨gR, hgR⟩ := yx (wL.heap.size)
  rw [<- hgR]
  obtain ⟨w2, hw2⟩ := yx ((wL.alloc (.cells #[.bool false, .slice none 0 0, .slice none 0 0] 211)).alloc (.cells #[.bool false, .slice none 0 0] 209))
  have hb2 : Below wL.heap.size wL w2 := by rw [hw2]; exact ((Below.refl _ _).alloc (Nat.le_refl _) _).alloc (by simp) _
  have HZ2 : Hid (RatAt w2 gR 0 1) := vv (by
   rw [hw2, hgR]
   exact (RatAt.zero wL _).below ((Below.refl _ _).alloc (Nat.le_refl _) _))
  have HI2 : Hid (IntAt w2 (gR + 1) 0 0) := vv (by
   rw [hw2, hgR]
   have := IntAt.zero (wL.alloc (.cells #[.bool false, .slice none 0 0, .slice none 0 0] 211)) 209
   rwa [World.size_alloc] at this)
  have HGR : Hid (g < gR) := vv (by rw [hgR]; exact HR1.out.lt)
  have HC2 := vv (HC1.out.step hb2)
  have HR2 := vv (HR1.out.below hb2)
  rw [<- hw2]
  clear hgR hw2 hb2 HR1 HC1
  refine (A.NewInt 2 w2 (by omega) (by omega)).mono ?_
  rintro e w3 ⟨g3, rfl, hg3, hI3, hB⟩
  have HI3 := vv hI3
  have HZ3 := vv (HZ2.out.below hB)
  have HY3 := vv (HI2.out.below hB)
  have HC3 := vv (HC2.out.step hB)
  have HR3 := vv (HR2.out.below hB)
  clear hg3 hI3 hB HZ2 HI2 HC2 HR2
  go_wp2_with fail
  rw [HMx.out]
  refine (A.NewInt (j : Int) w3 (by omega) (by omega)).mono ?_
  rintro e w4 ⟨g4, rfl, hg4, hI4, hB⟩
  have HI4 := vv hI4
  have HX4 := vv (HI3.out.below hB)
  have HZ4 := vv (HZ3.out.below hB)
  have HY4 := vv (HY3.out.below hB)
  have HC4 := vv (HC3.out.step hB)
  have HR4 := vv (HR3.out.below hB)
  clear hg4 hI4 hB HI3 HZ3 HY3 HC3 HR3
  go_wp2_with fail
  refine (two_exp (gR + 1) g3 g4 j w4 HY4.out HX4.out HI4.out HJ0.out HJ2.out).mono ?_
  rintro e w5 hP
  have hF := hP.2.2
  have HZ5 := vv (HZ4.out.fs1 hF (by omega))
  have HR5 := vv (HR4.out.fs1 hF (by have := HGR.out; omega))
  have HC5 := vv (HC4.out.fs hF (by intro p hp; rw [List.mem_singleton.1 hp]; have := HGR.out; have := HG1.out; show _ <= gR + 1; omega) (by
   intro x hx p hp
   rw [List.mem_singleton.1 hp]
   have := HGR.out
   have := HG1.out
   simp only [List.mem_cons, List.not_mem_nil, or_false] at hx
   rcases hx with rfl | rfl <;> show gR + 1 ≠ _ <;> omega))
  obtain ⟨rfl, hI5, -⟩ := hP
  have HI5 := vv hI5
  clear hF hI5 HY4 HX4 HI4 HZ4 HC4 HR4
  go_wp2_with fail
  refine (A.SetInt gR (gR + 1) _ w5 HZ5.out.sh HI5.out).mono ?_
  rintro e w6 hP
  have hF := hP.2.2
  have HR6 := vv (HR5.out.fs1 hF (by have := HGR.out; omega))
  have HC6 := vv (HC5.out.fs hF (by intro p hp; rw [List.mem_singleton.1 hp]; have := HGR.out; have := HG1.out; show _ <= gR; omega) (by
   intro x hx p hp
   rw [List.mem_singleton.1 hp]
   have := HGR.out
   have := HG1.out
   simp only [List.mem_cons, List.not_mem_nil, or_false] at hx
   rcases hx with rfl | rfl <;> show gR ≠ _ <;> omega))
  obtain ⟨rfl, hQ6, -⟩ := hP
  have HQ6 := vv hQ6
  clear hF hQ6 HZ5 HI5 HC5 HR5
  by_cases hlt : k < 0
  have hp1 : p2 k = 1 := p2_nonpos (by omega)
  have hp2 : p2 (-k) = 2 ^ j := by rw [show -k = (j : Int) by have := HJ.out; omega, p2_nat]
  have HP1 := vv (And.intro hp1 hp2)
  clear hp1 hp2
  go_wp2_with fail
  refine (A.Inv gR gR (2 ^ j) 1 w6 HQ6.out.sh HQ6.out (Nat.two_pow_pos _)).mono ?_
  rintro e w7 hP
  have hF := hP.2.2
  have HR7 := vv (HR6.out.fs1 hF (by have := HGR.out; omega))
  have HC7 := vv (HC6.out.fs hF (by intro p hp; rw [List.mem_singleton.1 hp]; have := HGR.out; have := HG1.out; show _ <= gR; omega) (by
   intro x hx p hp
   rw [List.mem_singleton.1 hp]
   have := HGR.out
   have := HG1.out
   simp only [List.mem_cons, List.not_mem_nil, or_false] at hx
   rcases hx with rfl | rfl <;> show gR ≠ _ <;> omega))
  obtain ⟨rfl, hQ7, -⟩ := hP
  have HQ7 : Hid (RatAt w7 gR ((1 : Nat) : Int) (2 ^ j)) := vv hQ7
  clear hF hQ7 HR6 HC6 HQ6
  have HS1 : Hid (bl ((1 : Nat) : Int).natAbs <= 30000 /\ bl (2 ^ j) <= 30000) := vv ⟨by decide, by have := bl_two 1 j; rw [Nat.one_mul, show bl 1 = 1 from rfl] at this; have := HJ2.out; omega⟩
  have HE : Hid (sg neg (N * p2 k) = p * ((1 : Nat) : Int) /\ D * p2 (-k) = D * 2 ^ j) := vv ⟨by rw [HP1.out.1, HP.out, Nat.mul_one]; omega, by rw [HP1.out.2]⟩
  have HE2 : Hid (bl (p * ((1 : Nat) : Int)).natAbs <= 524288 /\ bl (D * 2 ^ j) <= 524288) := vv ⟨by rw [Int.natCast_one, Int.mul_one, HPa.out]; have := HbN.out; omega, by have := bl_two D j; have := HbD.out; have := HJ2.out; omega⟩
  obtain ⟨Pn, hPn⟩ : ∃ Pn : Int, Pn = ((1 : Nat) : Int) := ⟨_, rfl⟩
  obtain ⟨Dn, hDn⟩ := yx (2 ^ j)
  rw [<- hPn, <- hDn] at HE HE2 HQ7 HS1
  clear hPn hDn
  go_wp2_with fail
  rotate_left
  have hp1 : p2 k = 2 ^ j := by rw [show k = (j : Int) by have := HJ.out; omega, p2_nat]
  have hp2 : p2 (-k) = 1 := p2_nonpos (by omega)
  have HP1 := vv (And.intro hp1 hp2)
  clear hp1 hp2
  obtain ⟨w7, rfl⟩ := yx (w6)
  have HR7 := HR6
  have HC7 := HC6
  have HQ7 : Hid (RatAt w7 gR ((2 ^ j : Nat) : Int) 1) := HQ6
  clear HR6 HC6 HQ6
  have HS1 : Hid (bl ((2 ^ j : Nat) : Int).natAbs <= 30000 /\ bl 1 <= 30000) := vv ⟨by rw [Int.natAbs_natCast]; have := bl_two 1 j; rw [Nat.one_mul, show bl 1 = 1 from rfl] at this; have := HJ2.out; omega, by decide⟩
  have HE : Hid (sg neg (N * p2 k) = p * ((2 ^ j : Nat) : Int) /\ D * p2 (-k) = D * 1) := vv ⟨by rw [HP1.out.1, HP.out, sg_mul], by rw [HP1.out.2]⟩
  have HE2 : Hid (bl (p * ((2 ^ j : Nat) : Int)).natAbs <= 524288 /\ bl (D * 1) <= 524288) := vv ⟨by rw [Int.natAbs_mul, Int.natAbs_natCast, HPa.out]; have := bl_two N j; have := HbN.out; have := HJ2.out; omega, by rw [Nat.mul_one]; have := HbD.out; omega⟩
  obtain ⟨Pn, hPn⟩ : ∃ Pn : Int, Pn = ((2 ^ j : Nat) : Int) := ⟨_, rfl⟩
  obtain ⟨Dn, hDn⟩ : ∃ Dn : Nat, Dn = 1 := ⟨_, rfl⟩
  rw [<- hPn, <- hDn] at HE HE2 HQ7 HS1
  clear hPn hDn
  go_wp2_with fail
  rotate_left
  all_goals
   refine (A.MulR g g gR p Pn D Dn w7 HR7.out.sh HR7.out HQ7.out (HC7.out.std HSt.out) (by unfold Sz; rw [HPa.out]; have := HbN.out; omega) (by unfold Sz; have := HbD.out; omega) (by unfold Sz; have := HS1.out.1; omega) (by unfold Sz; have := HS1.out.2; omega)).mono ?_
   rintro e w8 hP
   have hF := hP.2.2
   have HC8 := vv (HC7.out.fs hF (by intro p hp; rw [List.mem_singleton.1 hp]; have := HG1.out; show _ <= g; omega) (by
    intro x hx p hp
    rw [List.mem_singleton.1 hp]
    have := HG1.out
    simp only [List.mem_cons, List.not_mem_nil, or_false] at hx
    rcases hx with rfl | rfl <;> show g ≠ _ <;> omega))
   obtain ⟨rfl, hR8, -⟩ := hP
   have HR8 := vv hR8
   clear hF hR8 HC7 HR7 HQ7
   go_wp2_with fail
   refine (HTo.out _ _ _ _ HR8.out HE2.out.1 HE2.out.2).mono ?_
   rintro e w9 ⟨X', n', Y', m', rfl, hX', hY', hB⟩
   have HC9 := vv (HC8.out.step hB)
   have HX9 := vv hX'
   have HY9 := vv hY'
   clear hB hX' hY'
   have HBk := vv (HC9.out.get 0 rfl)
   obtain ⟨sgn, hsgn⟩ := yx (decide (p * Pn < 0))
   rw [<- hsgn]
   have HSg := vv hsgn
   clear hsgn
   go_wp2_with (with_reducible refine wpList_store_blk rfl 114 (.tmp 6) (.tmp 86) rfl (w.heap.size + 1) [.bool sgn, .slice X' n' n', .slice Y' m' m'] rfl rfl 114 _ HBk.out (by kernel_rfl) rfl rfl ?_)
   intro w10 hB hg10
   have HB10 := vv (only_below HC9.out.low hg10 HC9.out.low.size (by omega))
   have HX10 := vv (HX9.out.else_ HBk.out rfl hg10)
   have HY10 := vv (HY9.out.else_ HBk.out rfl hg10)
   obtain ⟨k0, k1, k2⟩ := Fms.blk3 hB
   have K := vv (And.intro k0 (And.intro k1 k2))
   clear hB hg10 k0 k1 k2
   go_wp2
   obtain ⟨k0, k1, k2⟩ := K.out
   exact bodyPost_ret (v := .tuple #[ratioV sgn X' n' n' Y' m' m', .int .i64 0]) (by simp [results, Tryz.results70, go_sem, k0, k1, k2]) rfl (by rw [HE.out.1, HE.out.2]; exact ⟨X', n', Y', m', by rw [<- HSg.out], HX10.out, HY10.out, HB10.out⟩)
end Go.Proofs.YtddaldghlinokaaGreatDoor.Rtp
namespace Go.Proofs.YtddaldghlinokaaGreatDoor.Rnd
open Go Go.RowKit R5 Scn
def WlP (neg : Bool) (q : Nat) (same : Bool) (w : World) (e : Ending) (w' : World) : Prop :=
 ∃ A n c, e = .returned (.tuple #[.bool (neg && decide (0 < q)), natV A n c, .bool same, .int .i64 0]) /\ Rd w' A n c (toL q) /\ Fr w.heap.size A /\ Below w.heap.size w w'
set_option maxRecDepth 100000 in
set_option maxHeartbeats 4000000 in
theorem Whole (neg : Bool) (X : Option Addr) (n c : Nat) (Y : Option Addr) (m d N D : Nat) (mode : Nat) (w : World) (hX : Rd w X n c (toL N)) (hY : Rd w Y m d (toL D)) (hn : n <= 16384) (hm : m <= 16384) (hD : 0 < D) (hg : Nat.gcd N D = 1) (h0 : neg = true -> 0 < N) (hmd : mode <= 4) (hst : Std w) :
  Calls Tryz.prog 71 #[ratioV neg X n c Y m d, .int .u8 (mode : Int)] w (WlP neg (rnd neg mode N D) (decide (N % D = 0)) w) := by
 have hbN := Rtp.wds_bl hX hn
 have hbD := Rtp.wds_bl hY hm
 have hq1 := rnd_le neg mode N D
 have hq2 : bl (rnd neg mode N D) <= 524289 := by
  have h1 := bl_mono (Nat.le_trans hq1 (Nat.add_le_add_right (Nat.div_le_self N D) 1))
  have h2 := bl_add_le N 1
  have : bl 1 = 1 := rfl
  omega
 obtain ⟨w0, hw0⟩ := yx ((w.alloc (.cells #[.bool neg, .slice X n c, .slice Y m d] 114)).alloc (.cells #[.slice none 0 0] 28))
 have hC : Ctx w [(w.heap.size + 1, 28, [.slice none 0 0]), (w.heap.size, 114, [.bool neg, .slice X n c, .slice Y m d])] w0 := by
  rw [hw0]
  exact ((Ctx.nil w).new _ _ rfl).new _ _ (by simp)
 have HCk := vv fun w' (h : Below w.heap.size w w') => Rtp.Check neg X n c Y m d N D w' (hX.below h rfl) (hY.below h rfl) hn hm hD hg h0 (hst.below h)
 have HLn := vv fun w' (h : Below w.heap.size w w') => large X n c N w' (hX.below h rfl) (by unfold Sz; omega)
 have HLd := vv fun w' (h : Below w.heap.size w w') => large Y m d D w' (hY.below h rfl) (by unfold Sz; omega)
 have HWh := vv fun gx gy w' (hx : IntAt w' gx 0 (N : Int)) (hy : IntAt w' gy 0 (D : Int)) => whole gx 0 gy 0 N D neg mode w' hx hy hD (by unfold Sz; omega) (by unfold Sz; omega) hmd
 obtain ⟨q, hq⟩ := yx (rnd neg mode N D)
 obtain ⟨same, hsame⟩ := yx (decide (N % D = 0))
 rw [<- hq, <- hsame] at HWh
 rw [<- hq] at hq2
 rw [<- hq, <- hsame]
 have HLm := vv fun g w' (h : IntAt w' g 0 (q : Int)) => limbs g q w' h (by omega)
 have HSi := vv fun g w' (h : IntAt w' g 0 (q : Int)) => A.Sign g 0 (q : Int) w' h
 obtain ⟨s, hs⟩ := yx (((q : Nat) : Int).sign)
 rw [<- hs] at HSi
 have hsq : decide (0 < s) = decide (0 < q) := by
  rw [hs]
  rcases Nat.eq_zero_or_pos q with h | h
  ·subst h; rfl
  ·rw [Int.sign_eq_one_of_pos (by omega), decide_eq_true h]; rfl
 obtain ⟨sp, hsp⟩ := yx (decide (0 < q))
 rw [<- hsp] at hsq
 have HSp := vv hsp
 have hmi : (mode : Int) <= 4 := by omega
 have dm : decide ((4 : Int) < (mode : Int)) = false := decide_eq_false (by omega)
 have HC := vv hC
 have HW := vv hw0
 have f0 := hC.get 1 rfl |>.cell 0
 have f1 := hC.get 1 rfl |>.cell 1
 have f2 := hC.get 1 rfl |>.cell 2
 have fl := hC.get 1 rfl |>.lt
 simp only [List.getElem?_cons_zero, List.getElem?_cons_succ] at f0 f1 f2
 clear hw0 hC hX hY hn hm hD hg h0 hst hbN hbD hq1 hq2 hq hsame hs hsp hmd
 go_enter Tryz.func71, Tryz.ntmps71
 go_wp2_with fail
 rw [<- HW.out]
 go_wp2_with fail
 refine (HCk.out _ HC.out.low).mono ?_
 rintro e w1 ⟨rfl, hB⟩
 have HC1 := vv (HC.out.step hB)
 clear hB f0 f1 f2 fl HC
 go_wp2_with fail
 have f0 := HC1.out.get 1 rfl |>.cell 0
 have f1 := HC1.out.get 1 rfl |>.cell 1
 have f2 := HC1.out.get 1 rfl |>.cell 2
 simp only [List.getElem?_cons_zero, List.getElem?_cons_succ] at f0 f1 f2
 refine wp_region_sch (fun w' => w'.cell? ⟨w.heap.size, 0, none⟩ = some (.bool neg) /\ w'.cell? ⟨w.heap.size, 1, none⟩ = some (.slice X n c) /\ w'.cell? ⟨w.heap.size, 2, none⟩ = some (.slice Y m d)) 15
  (.still 0 (.still 1 (.still 3 (.still 4 (.still 6 (.still 7 (.still 8 (.one 2 (.one 5 (.one 9 (.still 10 (.still 11 (.still 12 (.still 13 (.still 14 .done))))))))))))))) (by kernel_rfl) (by kernel_rfl) (fun _ _ d _ _ h => by cases d <;> exact h) ⟨f0, f1, f2⟩ (fun hS0 => ?_)
 have HC1 := vv HC1.out.drew
 obtain ⟨wc, hwc⟩ := yx (w1.drew)
 rw [<- hwc] at hS0 HC1 ⊢
 clear hwc f0 f1 f2
 iterate 7
  refine sch_still (v := ?_) rfl (by rfl) ?_ ?_
  rotate_left
  ·intro w hSw; go_simp; with_reducible rfl
  simp only [Act.put, List.setIfInBounds_toArray, List.set_cons_zero, List.set_cons_succ]
 refine sch_one rfl (by rfl) (fun K hK => ?_)
 go_simp
 refine (HLn.out _ HC1.out.low).mono ?_
 rintro e w2 ⟨gN, rfl, hgN, hI, hB⟩
 have HIn := vv hI
 have HC2 := vv (HC1.out.step hB)
 clear hI hgN hB HC1
 go_wp2_with fail
 refine hK.out _ _ (Fms.blk3 (HC2.out.get 1 rfl)) (fun hHeld => ?_)
 clear hK
 refine sch_one rfl (by rfl) (fun K hK => ?_)
 go_simp
 refine (HLd.out _ HC2.out.low).mono ?_
 rintro e w3 ⟨gD, rfl, hgD, hI, hB⟩
 have HId := vv hI
 have HIn := vv (HIn.out.below hB)
 have HC3 := vv (HC2.out.step hB)
 clear hI hgD hB HC2
 go_wp2_with fail
 refine hK.out _ _ (Fms.blk3 (HC3.out.get 1 rfl)) (fun hHeld => ?_)
 clear hK
 refine sch_one rfl (by rfl) (fun K hK => ?_)
 go_simp
 refine (HWh.out gN gD _ HIn.out HId.out).mono ?_
 rintro e w4 ⟨gQ, rfl, hgQ, hI, hB⟩
 have HIq := vv hI
 have HC4 := vv (HC3.out.step hB)
 clear hI hgQ hB HC3 HIn HId
 go_wp2_with fail
 refine hK.out _ _ (Fms.blk3 (HC4.out.get 1 rfl)) (fun hHeld => ?_)
 clear hK
 iterate 5
  refine sch_still (v := ?_) rfl (by rfl) ?_ ?_
  rotate_left
  ·intro w hSw; go_simp; with_reducible rfl
  simp only [Act.put, List.setIfInBounds_toArray, List.set_cons_zero, List.set_cons_succ]
 refine sch_end rfl ?_
 clear hHeld hS0
 have f0 := HC4.out.get 1 rfl |>.cell 0
 have fl := HC4.out.get 1 rfl |>.lt
 simp only [List.getElem?_cons_zero, List.getElem?_cons_succ] at f0
 cases neg
 go_wp2_with fail
 rotate_left
 go_wp2_with fail
 refine (HSi.out gQ _ HIq.out).mono ?_
 rintro e w' ⟨rfl, rfl⟩
 go_wp2_with fail
 rotate_left
 all_goals
  refine (HLm.out gQ _ HIq.out).mono ?_
  rintro e w5 ⟨A', n', c', rfl, hR, hFr, hB⟩
  have HC5 := vv (HC4.out.step hB)
  have b0 := HC5.out.get 0 rfl |>.cell 0
  have bl := HC5.out.get 0 rfl |>.lt
  have bf := HC5.out.get 0 rfl |>.fz 0
  simp only [List.getElem?_cons_zero] at b0
  obtain ⟨w9, hw9⟩ := yx (w5.setCell ⟨w.heap.size + 1, 0, none⟩ (.slice A' n' c'))
  have hlt4 := HC4.out.get 0 rfl |>.lt
  have HR9 : Hid (Rd w9 A' n' c' (toL q)) := vv (by rw [hw9]; exact hR.other _ _ _ (fun a e => by have := (hFr a e).1; omega))
  have HF9 : Hid (Fr w.heap.size A') := vv (hFr.mono HC4.out.low.size)
  have HB9 : Hid (Below w.heap.size w w9) := vv (by rw [hw9]; exact HC5.out.low.setCell (by show _ <= w.heap.size + 1; omega) _)
  have k0 : w9.cell? ⟨w.heap.size + 1, 0, none⟩ = some (.slice A' n' c') := by rw [hw9]; exact cell_eq b0
  have HW9 := vv hw9
  have HK0 := vv k0
  clear hR hFr hB hw9 k0 f0 fl hlt4
  go_wp2
  rw [<- HW9.out]
  have k0 := HK0.out
  first
   | exact bodyPost_ret (v := .tuple #[.bool false, natV A' n' c', .bool same, .int .i64 0]) (by simp [results, Tryz.results71, go_sem, k0]) rfl ⟨A', n', c', rfl, HR9.out, HF9.out, HB9.out⟩
   | exact bodyPost_ret (v := .tuple #[.bool sp, natV A' n' c', .bool same, .int .i64 0]) (by simp [results, Tryz.results71, go_sem, k0]) rfl ⟨A', n', c', by rw [HSp.out]; rfl, HR9.out, HF9.out, HB9.out⟩
end Go.Proofs.YtddaldghlinokaaGreatDoor.Rnd
namespace Go.Proofs.YtddaldghlinokaaGreatDoor.Hx
open Go Go.RowKit R5 Scn Fms Exa
def plcK (N places : Nat) : Int := 4 * (places : Int) - ((bl N : Int) - 1)
def plcN (g : Bool) (N mode places : Nat) : Nat := rnd g mode (N * p2 (plcK N places)) (p2 (-plcK N places))
def plcL (neg g : Bool) (N : Nat) (x : Int) (mode places : Nat) : List UInt8 :=
 if N = 0 then txtL neg (hexL 0 (places + 1)) 0 else
 if 4 * places + 1 < bl (plcN g N mode places) then txtL neg (hexL (plcN g N mode places / 2) (places + 1)) (x + (bl N : Int) - 1 + 1)
 else txtL neg (hexL (plcN g N mode places) (places + 1)) (x + (bl N : Int) - 1)
theorem plc_quo {N : Nat} (h0 : 0 < N) (places : Nat) : N * p2 (plcK N places) / p2 (-plcK N places) < 2 ^ (4 * places + 1) := by
 apply Nat.div_lt_of_lt_mul
 have h1 := lt_bl N
 have h2 := bl_pos h0
 have e : p2 (plcK N places) * 2 ^ bl N = p2 (-plcK N places) * 2 ^ (4 * places + 1) := by
  unfold p2
  rw [<- Nat.pow_add, <- Nat.pow_add]
  congr 1
  unfold plcK
  omega
 calc N * p2 (plcK N places) < 2 ^ bl N * p2 (plcK N places) := Nat.mul_lt_mul_of_pos_right h1 (p2_pos _)
  _ = _ := by rw [Nat.mul_comm, e]
theorem plcN_le {g : Bool} {N : Nat} (mode : Nat) (h0 : 0 < N) (places : Nat) : plcN g N mode places <= 2 ^ (4 * places + 1) := by
 have h1 := rnd_le g mode (N * p2 (plcK N places)) (p2 (-plcK N places))
 have h2 := plc_quo h0 places
 unfold plcN
 omega
theorem plcN_half {g : Bool} {N : Nat} (mode : Nat) (h0 : 0 < N) (places : Nat) : (if 4 * places + 1 < bl (plcN g N mode places) then plcN g N mode places / 2 else plcN g N mode places) < 2 ^ (4 * places + 1) := by
 have h1 := plcN_le (g := g) mode h0 places
 have h2 := Nat.two_pow_pos (4 * places + 1)
 split
 ·omega
 ·rename_i h
  exact Nat.lt_of_lt_of_le (lt_bl _) (Nat.pow_le_pow_right (by decide) (by omega))
theorem plc_figs {n places : Nat} (h : n < 2 ^ (4 * places + 1)) : max (1 + places) ((bl n + 3) / 4) = places + 1 := by
 have := bl_le h
 omega
def RtP (g : Bool) (N D : Nat) (w : World) (e : Ending) (w' : World) : Prop :=
 ∃ X n Y m, e = .returned (.tuple #[ratioV g X n n Y m m, .int .i64 0]) /\ Rd w' X n n (toL N) /\ Rd w' Y m m (toL D) /\ n <= 16384 /\ m <= 16384 /\ Below w.heap.size w w'
theorem rd_small {w : World} {A : Option Addr} {n c N : Nat} (h : Rd w A n c (toL N)) (hb : bl N <= 32000) : n <= 16384 := by
 obtain ⟨k, hk⟩ := yx (1000)
 have := h.bound (k := k) (by
  rw [pow32]
  exact Nat.lt_of_lt_of_le (lt_bl N) (Nat.pow_le_pow_right (by decide) (by omega)))
 omega
theorem RatP.rt {p : Int} {g : Bool} {D N' D' : Nat} {w w' : World} {e : Ending} (h : Rtp.RatP p D w e w') (hg : decide (p < 0) = g) (h1 : (lp p D).natAbs = N') (h2 : ld p D = D') (b1 : bl N' <= 32000) (b2 : bl D' <= 32000) : RtP g N' D' w e w' := by
 obtain ⟨X, n, Y, m, rfl, hX, hY, hB⟩ := h
 rw [h1] at hX
 rw [h2] at hY
 exact ⟨X, n, Y, m, by rw [hg], hX, hY, rd_small hX b1, rd_small hY b2, hB⟩
theorem sg_neg_pos (g : Bool) {N : Nat} (h : 0 < N) : decide (sg g N < 0) = g := by
 rw [sg_neg', decide_eq_true h, Bool.and_true]
theorem make1 (g : Bool) (A : Option Addr) (m c : Nat) (B : Option Addr) (N : Nat) (w : World) (ha : Rd w A m c (toL N)) (hb : Rd w B 1 1 (toL 1)) (h0 : 0 < N) (hN : bl N <= 100) (hs : Std w) :
  Calls Tryz.prog 68 #[.bool g, natV A m c, natV B 1 1] w (RtP g N 1 w) :=
 (Rtp.Make g A m c B 1 1 N 1 w ha hb (rd_small ha (by omega)) (by omega) (by decide) hs).mono fun e w' h =>
  RatP.rt h (sg_neg_pos g h0) (by rw [lp_abs, Nat.gcd_one_right, Nat.div_one, sg_abs]) (by unfold ld; rw [Nat.gcd_one_right]) (by omega) (by decide)
def plcP (N places : Nat) : Nat := (lp ((N * p2 (plcK N places) : Nat) : Int) (p2 (-plcK N places))).natAbs
def plcD (N places : Nat) : Nat := ld ((N * p2 (plcK N places) : Nat) : Int) (p2 (-plcK N places))
theorem bl_p2 (z : Int) : bl (p2 z) <= z.toNat + 1 := bl_le (Nat.pow_lt_pow_right (by decide) (Nat.lt_succ_self _))
theorem plc_bounds {N places : Nat} (hN : bl N <= 100) (hp : places <= 2000) (h0 : 0 < N) : bl (plcP N places) <= 32000 /\ bl (plcD N places) <= 32000 := by
 have k1 := bl_pos h0
 have h1 : bl (p2 (plcK N places)) <= 9000 := by have := bl_p2 (plcK N places); have e : plcK N places = 4 * (places : Int) - ((bl N : Int) - 1) := rfl; omega
 have h2 : bl (p2 (-plcK N places)) <= 9000 := by have := bl_p2 (-plcK N places); have e : plcK N places = 4 * (places : Int) - ((bl N : Int) - 1) := rfl; omega
 have h3 := bl_mul_le N (p2 (plcK N places))
 constructor
 ·have := bl_mono (Rtp.lp_le ((N * p2 (plcK N places) : Nat) : Int) (p2 (-plcK N places)))
  rw [Int.natAbs_natCast] at this
  unfold plcP
  omega
 ·have := bl_mono (Nat.div_le_self (p2 (-plcK N places)) (Nat.gcd ((N * p2 (plcK N places) : Nat) : Int).natAbs (p2 (-plcK N places))))
  unfold plcD ld
  omega
theorem sg_lp (g : Bool) (M D : Nat) : (lp (sg g M) D).natAbs = (lp (M : Int) D).natAbs /\ ld (sg g M) D = ld (M : Int) D := by
 unfold ld
 rw [lp_abs, lp_abs, sg_abs, Int.natAbs_natCast]
 exact ⟨rfl, rfl⟩
theorem scale2 (g : Bool) (X : Option Addr) (n : Nat) (Y : Option Addr) (m N places : Nat) (k : Int) (w : World) (hX : Rd w X n n (toL N)) (hY : Rd w Y m m (toL 1)) (hn : n <= 16384) (hm : m <= 16384) (h0 : 0 < N) (hN : bl N <= 100) (hp : places <= 2000) (hk : k = plcK N places) (hs : Std w) :
  Calls Tryz.prog 70 #[ratioV g X n n Y m m, .int .u32 2, .int .i64 k] w (RtP g (plcP N places) (plcD N places) w) := by
 have hb := plc_bounds hN hp h0
 have k1 := bl_pos h0
 subst hk
 refine (Rtp.Scale g X n n Y m m N 1 (plcK N places) w hX hY hn hm (by decide) (Nat.gcd_one_right N) h0 (by unfold plcK; omega) (by unfold plcK; omega) (by omega) (by decide) hs).mono fun e w' h => ?_
 rw [Nat.one_mul] at h
 have hl := sg_lp g (N * p2 (plcK N places)) (p2 (-plcK N places))
 exact RatP.rt h (sg_neg_pos g (Nat.mul_pos h0 (p2_pos _))) hl.1 hl.2 hb.1 hb.2
theorem plc_rnd (g : Bool) (mode : Nat) {N : Nat} (h0 : 0 < N) (places : Nat) : rnd g mode (plcP N places) (plcD N places) = plcN g N mode places := by
 have hd : 0 < plcD N places := ld_pos (p2_pos _)
 have h := lp_cross ((N * p2 (plcK N places) : Nat) : Int) (p2 (-plcK N places))
 have hpos : 0 <= lp ((N * p2 (plcK N places) : Nat) : Int) (p2 (-plcK N places)) := by
  unfold lp
  rw [decide_eq_false (by omega)]
  exact Int.natCast_nonneg _
 refine rnd_cross hd (p2_pos _) ?_
 unfold plcP plcD
 generalize N * p2 (plcK N places) = M at h hpos ⊢
 refine Int.natCast_inj.1 ?_
 rw [Int.natCast_mul, Int.natCast_mul, Int.natAbs_of_nonneg hpos]
 exact h
theorem wholeP (g : Bool) (X : Option Addr) (n : Nat) (Y : Option Addr) (m N places mode : Nat) (w : World) (hX : Rd w X n n (toL (plcP N places))) (hY : Rd w Y m m (toL (plcD N places))) (hn : n <= 16384) (hm : m <= 16384) (h0 : 0 < N) (hmd : mode <= 4) (hs : Std w) :
  Calls Tryz.prog 71 #[ratioV g X n n Y m m, .int .u8 (mode : Int)] w (Rnd.WlP g (plcN g N mode places) (decide (plcP N places % plcD N places = 0)) w) := by
 have hd : 0 < plcD N places := ld_pos (p2_pos _)
 rw [<- plc_rnd g mode h0 places]
 exact Rnd.Whole g X n n Y m m (plcP N places) (plcD N places) mode w hX hY hn hm hd (lp_cop (p2_pos _)) (fun _ => by
  unfold plcP
  rw [lp_abs, Int.natAbs_natCast]
  exact Nat.div_pos (Nat.le_of_dvd (Nat.mul_pos h0 (p2_pos _)) (Nat.gcd_dvd_left _ _)) (gcd_pos_of (p2_pos _))) hmd hs
end Go.Proofs.YtddaldghlinokaaGreatDoor.Hx
