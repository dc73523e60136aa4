/- Lemmas. -/
import Derived.Test.YtddaldghlinokaaGreatDoorPartBJ
import Derived.ScopeJumps
set_option linter.all false
namespace Go.Proofs.YtddaldghlinokaaGreatDoor.Hx
open Go Go.RowKit R5 Scn Fms Exa
abbrev figS : ByteArray := ⟨#[48, 49, 50, 51, 52, 53, 54, 55, 56, 57, 97, 98, 99, 100, 101, 102]⟩
def atL (s : ByteArray) (i : Nat) : Int := if i = 0 then fig ⟨#[48]⟩ s 0 else if i = 1 then fig ⟨#[120]⟩ s 1 else fig figS s i
def worthL (s : ByteArray) : Nat -> Nat
 | 0 => 0
 | k + 1 => worthL s k * 16 + (fig figS s (2 + k)).toNat
abbrev ldV (r : Nat) (i : Nat) (c : Int) : Ending := .returned (.tuple #[.int .u64 (r : Int), .int .i64 (i : Int), .int .i64 c])
def LdE (E F : Nat) (s : ByteArray) (d : Nat) (e : Ending) : Prop :=
 (∃ i, i < 2 + d /\ (∀ j, j < i -> 0 <= atL s j) /\ atL s i < 0 /\ e = ldV 0 i 12) \/
 ((∀ j, j < 2 + d -> 0 <= atL s j) /\
  ((2 + d < s.size /\ e = ldV 0 (2 + d) 12) \/
   (s.size <= 2 + d /\ fitsErr E F (worthL s (d)) ≠ 0 /\ e = ldV 0 2 6) \/
   (s.size <= 2 + d /\ fitsErr E F (worthL s (d)) = 0 /\ e = ldV (worthL s (d)) 0 0)))
theorem indexByte_lt : ∀ (l : List UInt8) (c : UInt8), -1 <= Lib.indexByte l c /\ Lib.indexByte l c < l.length
 | [], _ => by simp [Lib.indexByte]
 | b :: l, c => by
  have h := indexByte_lt l c
  unfold Lib.indexByte
  split
  ·simp
  ·split
   ·simp; omega
   ·simp only [List.length_cons]; omega
theorem fig_lt (s : ByteArray) (i : Nat) : -1 <= fig figS s i /\ fig figS s i < 16 := by
 unfold fig
 split
 ·exact indexByte_lt _ _
 ·omega
theorem fig_size {set s : ByteArray} {i : Nat} (h : 0 <= fig set s i) : i < s.size := by
 unfold fig at h
 split at h
 ·assumption
 ·omega
theorem worthL_lt (s : ByteArray) : ∀ k, worthL s k < 16 ^ k
 | 0 => by simp [worthL]
 | k + 1 => by
  have h := worthL_lt s k
  have h2 := fig_lt s (2 + k)
  unfold worthL
  rw [Nat.pow_succ]
  omega
theorem scope_shared {P : Program} {a : Act} {w : World} {Q : Exit -> Act -> World -> Prop} {c rest : Code} (l : Nat) (J : Act -> World -> Prop) (μ : Act -> World -> Nat) (hf : findLabel c l = some (.seq .skip rest))
  (pass : ∀ a w, J a w -> rest.wp P (Exit.jump l (fun a' w' => J a' w' /\ μ a' w' < μ a w) Q) a w)
  (first : (∀ a w, J a w -> rest.wp P (Exit.jump l J Q) a w) -> c.wp P (Exit.jump l J Q) a w) : (Code.scope c).wp P Q a w :=
 wp_scope_jumps l J μ hf (first fun a w h => wp_mono (pass a w h) fun e a w h => by
  cases e <;> first | exact h | exact ⟨h.1, h.2.1⟩) fun a w h => wp_seq (wp_skip (pass a w h))
def ldM (d : Nat) (a : Act) (w : World) : Nat := match a.tmps.getD 8 undef with
 | .pointer (some p) => (match w.cell? p with | some (.int _ z) => 2 + d - z.toNat | _ => 0)
 | _ => 0
def LdI (E F : Nat) (s : ByteArray) (d b : Nat) (w : World) (a : Act) (wr : World) : Prop :=
 ∃ (g k : Nat) (u7 u12 u13 u14 u15 u16 u17 u18 u19 u20 u21 u22 u23 u24 u25 u26 u27 u28 u29 u30 u31 u32 u33 u34 u35 u36 u37 u38 u39 u40 u41 u42 u43 u44 u45 u46 u47 u48 u49 u50 u51 u52 u53 u54 u55 u56 u57 u58 u59 u60 u61 : Value), a = { tmps := #[fm E F, .string s, .pointer (some ⟨b, 0, none⟩), .pointer (some ⟨b + 1, 0, none⟩), .int .u64 0, .int .i64 0, .int .i64 0, u7, .pointer (some ⟨g, 0, none⟩), .int .i64 (2 + (d : Int)), .int .u64 ((worthL s k : Nat) : Int), .func (.func 86) #[] #[.pointer (some ⟨g, 0, none⟩), .pointer (some ⟨b + 1, 0, none⟩)], u12, u13, u14, u15, u16, u17, u18, u19, u20, u21, u22, u23, u24, u25, u26, u27, u28, u29, u30, u31, u32, u33, u34, u35, u36, u37, u38, u39, u40, u41, u42, u43, u44, u45, u46, u47, u48, u49, u50, u51, u52, u53, u54, u55, u56, u57, u58, u59, u60, u61], defers := [] } /\ k <= d /\ (∀ j, j < 2 + k -> 0 <= atL s j) /\ b + 1 < g /\ Blk wr g 3 [.int .i64 (2 + (k : Int))] /\
  Blk wr b 23 [.int .i64 (E : Int), .int .i64 (F : Int)] /\ Blk wr (b + 1) 9 [.string s] /\ Below b w wr
set_option maxRecDepth 100000 in
set_option maxHeartbeats 2000000 in
theorem Load (E F : Nat) (s : ByteArray) (w : World) (h1 : 2 <= E) (h2 : E <= 11) (h3 : 1 <= F) (h4 : F <= 52) (hs : s.size <= 65536) :
  Calls Tryz.prog 19 #[fm E F, .string s] w fun e w' => LdE E F s ((E + F + 4) / 4) e /\ Below w.heap.size w w' := by
 have hck := R3.chk_ok (Fms.formOk_in (E := E) (F := F) (by omega) (by omega) h3 h4)
 have HFm := vv fun w => Fms.Check (E : Int) F w
 rw [hck] at HFm
 have HWd := vv fun w => wide E F w (by omega) (by omega)
 have HLd := vv fun set g b i w hg hb hi => Load1 set s g b i w hg hb hi (by omega)
 obtain ⟨d, hd⟩ := yx ((E + F + 4) / 4)
 rw [<- hd] at HWd ⊢
 have hdi : (d : Int) <= 16 := by omega
 have hsi : (s.size : Int) <= 65536 := by omega
 obtain ⟨w0, hw0⟩ := yx ((w.alloc (.cells #[.int .i64 (E : Int), .int .i64 (F : Int)] 23)).alloc (.cells #[.string s] 9))
 have hB : Below w.heap.size w w0 := by rw [hw0]; exact ((Below.refl _ _).alloc (Nat.le_refl _) _).alloc (by simp) _
 have HW := vv hw0
 have HB := vv hB
 clear hw0 hB hd hck h1 h2 h3 h4 hs
 go_enter Tryz.func19, Tryz.ntmps19
 go_wp2_with fail
 rw [<- HW.out]
 refine scope_shared 0 (fun a' w' => LdI E F s d w.heap.size w a' w') (ldM d) rfl ?_ (fun pass => ?_)
 rotate_left
 ·have HPs := vv pass
  clear pass
  have hQ : Blk w0 w.heap.size 23 [.int .i64 (E : Int), .int .i64 (F : Int)] := by rw [HW.out]; exact (Blk.made w 23 [.int .i64 (E : Int), .int .i64 (F : Int)]).alloc _
  have hS : Blk w0 (w.heap.size + 1) 9 [.string s] := by
   rw [HW.out]
   have := Blk.made (w.alloc (.cells #[.int .i64 (E : Int), .int .i64 (F : Int)] 23)) 9 [.string s]
   rwa [World.size_alloc] at this
  have HQ := vv hQ
  have HS := vv hS
  have c0 := hQ.cell 0
  have c1 := hQ.cell 1
  have cl := hQ.lt
  simp only [List.getElem?_cons_zero, List.getElem?_cons_succ] at c0 c1
  clear hQ hS
  go_wp2_with fail
  refine (HFm.out _).mono ?_
  rintro e w1 ⟨rfl, hB⟩
  have HQ1 := vv (HQ.out.below hB)
  have HS1 := vv (HS.out.below hB)
  have HB1 := vn HB hB
  clear hB c0 c1 cl
  have c0 := HQ1.out.cell 0
  have c1 := HQ1.out.cell 1
  have cl := HQ1.out.lt
  have s0 := HS1.out.cell 0
  have sl := HS1.out.lt
  simp only [List.getElem?_cons_zero, List.getElem?_cons_succ] at c0 c1 s0
  go_wp2_with fail
  refine (HWd.out _).mono ?_
  rintro e w2 ⟨rfl, hB⟩
  have HQ2 := vv (HQ1.out.below hB)
  have HS2 := vv (HS1.out.below hB)
  have HB2 := vn HB1 hB
  clear hB c0 c1 cl s0 sl
  obtain ⟨w3, hw3⟩ := yx (w2.alloc (.cells #[.int .i64 0] 3))
  have hb3 : Below w2.heap.size w2 w3 := by rw [hw3]; exact (Below.refl _ _).alloc (Nat.le_refl _) _
  have hC3 : Blk w3 w2.heap.size 3 [.int .i64 0] := by rw [hw3]; exact Blk.made w2 3 [.int .i64 0]
  obtain ⟨g, hg⟩ := yx (w2.heap.size)
  have hlt : w.heap.size + 1 < g := by rw [hg]; exact HS2.out.lt
  have HQ3 := vv (HQ2.out.below hb3)
  have HS3 := vv (HS2.out.below hb3)
  have HB3 := vn HB2 hb3
  have HW3 := vv hw3
  have HG := vv hg
  have HLt := vv hlt
  have HC3 : Hid (Blk w3 g 3 [.int .i64 ((0 : Nat) : Int)]) := vv (by rw [hg]; exact hC3)
  clear hb3 hw3 hg hlt hC3
  go_wp2_with fail
  rw [<- HW3.out, <- HG.out]
  refine (HLd.out _ _ _ 0 _ (HC3.out.cell 0) (HS3.out.cell 0) (Nat.zero_le _)).mono ?_
  rintro e w' ⟨rfl, rfl⟩
  obtain ⟨z, hz⟩ := yx (fig ⟨#[48]⟩ s 0)
  rw [<- hz]
  have c3 := HC3.out.cell 0
  have cl := HC3.out.lt
  have cf := HC3.out.fz 0
  simp only [List.getElem?_cons_zero] at c3
  have HZ := vv hz
  clear hz
  by_cases hz0 : z < 0
  ·have HA : Hid (LdE E F s d (ldV 0 0 12)) := vv (Or.inl ⟨0, by omega, fun j hj => absurd hj (by omega), by unfold atL; rw [if_pos rfl, <- HZ.out]; exact hz0, rfl⟩)
   go_wp2_with fail
   go_region
   go_wp2
   simp only [Exit.jump]
   go_ret3
   exact ⟨HA.out, below_drew HB3.out⟩
  ·have hz1 : 0 <= z := by omega
   obtain ⟨w4, hw4⟩ := yx (w3.setCell ⟨g, 0, none⟩ (.int .i64 1))
   have HC4 : Hid (Blk w4 g 3 [.int .i64 ((1 : Nat) : Int)]) := vv (by rw [hw4]; exact HC3.out.set 0 _)
   have HQ4 : Hid (Blk w4 w.heap.size 23 [.int .i64 (E : Int), .int .i64 (F : Int)]) := vv (by rw [hw4]; exact HQ3.out.other (p := ⟨g, 0, none⟩) (by have := HLt.out; show g ≠ _; omega) _)
   have HS4 : Hid (Blk w4 (w.heap.size + 1) 9 [.string s]) := vv (by rw [hw4]; exact HS3.out.other (p := ⟨g, 0, none⟩) (by have := HLt.out; show g ≠ _; omega) _)
   have HB4 : Hid (Below w.heap.size w w4) := vv (by rw [hw4]; exact HB3.out.setCell (p := ⟨g, 0, none⟩) (by have := HLt.out; show _ <= g; omega) _)
   have HSz : Hid (1 <= s.size) := vv (by rw [HZ.out] at hz1; exact fig_size hz1)
   have HW4 := vv hw4
   clear hw4
   go_wp2_with fail
   rw [<- HW4.out]
   refine (HLd.out _ _ _ 1 _ (HC4.out.cell 0) (HS4.out.cell 0) HSz.out).mono ?_
   rintro e w' ⟨rfl, rfl⟩
   obtain ⟨y, hy⟩ := yx (fig ⟨#[120]⟩ s 1)
   rw [<- hy]
   clear c3 cl cf
   have c3 := HC4.out.cell 0
   have cl := HC4.out.lt
   have cf := HC4.out.fz 0
   simp only [List.getElem?_cons_zero] at c3
   have HY := vv hy
   have HZ1 := vv hz1
   clear hy
   by_cases hy0 : y < 0
   ·have HA : Hid (LdE E F s d (ldV 0 1 12)) := vv (Or.inl ⟨1, by omega, fun j hj => by
     obtain rfl : j = 0 := by omega
     unfold atL; rw [if_pos rfl, <- HZ.out]; exact HZ1.out, by unfold atL; rw [if_neg (by decide), if_pos rfl, <- HY.out]; exact hy0, rfl⟩)
    go_wp2_with fail
    go_region
    go_wp2
    simp only [Exit.jump]
    go_ret3
    exact ⟨HA.out, below_drew HB4.out⟩
   ·have hy1 : 0 <= y := by omega
    go_wp2_with fail
    go_step3
    have hne1 : g ≠ w.heap.size := by have := HLt.out; omega
    have hne2 : g ≠ w.heap.size + 1 := by have := HLt.out; omega
    have hC5 : Blk (w4.setCell ⟨g, 0, none⟩ (.int .i64 2)) g 3 [.int .i64 (2 + ((0 : Nat) : Int))] := HC4.out.set 0 _
    rename_i hK
    refine hK _ _ (HPs.out _ _ ?_)
    exact ⟨g, 0, _, _, _, _, _, _, _, _, _, _, _, _, _, _, _, _, _, _, _, _, _, _, _, _, _, _, _, _, _, _, _, _, _, _, _, _, _, _, _, _, _, _, _, _, _, _, _, _, _, _, _, rfl, Nat.zero_le _, (fun j hj => by
     rcases Nat.eq_zero_or_pos j with h | h
     ·subst h; unfold atL; rw [if_pos rfl, <- HZ.out]; exact HZ1.out
     ·obtain rfl : j = 1 := by omega
      unfold atL; rw [if_neg (by decide), if_pos rfl, <- HY.out]; exact hy1), HLt.out, hC5, HQ4.out.other (p := ⟨g, 0, none⟩) hne1 _, HS4.out.other (p := ⟨g, 0, none⟩) hne2 _, HB4.out.setCell (p := ⟨g, 0, none⟩) (by have := HLt.out; show _ <= g; omega) _⟩
 ·rintro a' w' ⟨g, k, u7, u12, u13, u14, u15, u16, u17, u18, u19, u20, u21, u22, u23, u24, u25, u26, u27, u28, u29, u30, u31, u32, u33, u34, u35, u36, u37, u38, u39, u40, u41, u42, u43, u44, u45, u46, u47, u48, u49, u50, u51, u52, u53, u54, u55, u56, u57, u58, u59, u60, u61, rfl, hk, hat, hlt, hC, hQ, hS, hB⟩
  have c3 := hC.cell 0
  have cl := hC.lt
  have cf := hC.fz 0
  simp only [List.getElem?_cons_zero] at c3
  have HC := vv hC
  have HQ := vv hQ
  have HS := vv hS
  have HB := vv hB
  have HAt := vv hat
  have HLt := vv hlt
  clear hC hQ hS hB hat
  rcases Nat.lt_or_ge k d with hkd | hkd
  ·have t1 : (2 + (k : Int)) < 2 + (d : Int) := by omega
   have hki : (k : Int) <= 16 := by omega
   have hsz : 2 + k <= s.size := by
    have h := HAt.out (2 + k - 1) (by omega)
    unfold atL at h
    rcases Nat.eq_zero_or_pos k with h0 | h0
    ·subst h0
     rw [if_neg (by decide), if_pos rfl] at h
     have := fig_size h; omega
    ·rw [if_neg (by omega), if_neg (by omega)] at h
     have := fig_size h; omega
   have HLc : Hid (Calls Tryz.prog 86 #[.string figS, .pointer (some ⟨g, 0, none⟩), .pointer (some ⟨w.heap.size + 1, 0, none⟩)] w' fun e w'' => e = .returned (.int .i64 (fig figS s (2 + k))) /\ w' = w'') := vv (HLd.out figS g (w.heap.size + 1) (2 + k) w' (by rw [show ((2 + k : Nat) : Int) = 2 + (k : Int) by omega]; exact c3) (HS.out.cell 0) hsz)
   have HKd := vv hkd
   have HSz := vv hsz
   clear hsz hkd hk
   go_wp2_with fail
   refine HLc.out.mono ?_
   rintro e w'' ⟨rfl, rfl⟩
   obtain ⟨z, hz⟩ := yx (fig figS s (2 + k))
   rw [<- hz]
   have hzb := fig_lt s (2 + k)
   rw [<- hz] at hzb
   have HZ := vv hz
   clear hz
   by_cases hz0 : z < 0
   ·have HA : Hid (LdE E F s d (ldV 0 (2 + k) 12)) := vv (Or.inl ⟨2 + k, by have := HKd.out; omega, HAt.out, by unfold atL; rw [if_neg (by omega), if_neg (by omega), <- HZ.out]; exact hz0, rfl⟩)
    go_wp2_with fail
    go_region
    go_wp2
    simp only [Exit.jump]
    go_ret3
    refine ⟨?_, below_drew HB.out⟩
    have h := HA.out
    rw [show ldV 0 (2 + k) 12 = .returned (.tuple #[.int .u64 0, .int .i64 (2 + (k : Int)), .int .i64 12]) by unfold ldV; rw [show ((2 + k : Nat) : Int) = 2 + (k : Int) by omega]; rfl] at h
    exact h
   ·have hz1 : 0 <= z := by omega
    obtain ⟨n, rfl⟩ : ∃ n : Nat, z = (n : Int) := ⟨z.toNat, by omega⟩
    have hwl := worthL_lt s k
    have hp : 16 ^ k <= 16 ^ 15 := Nat.pow_le_pow_right (by decide) (by have := HKd.out; omega)
    have HWr : Hid (IntKind.u64.wrap ((worthL s k : Int) * 16) = ((worthL s k * 16 : Nat) : Int)) := vv (by rw [IntKind.wrap_u64]; omega)
    have HOr : Hid (bits .or .u64 ((worthL s k * 16 : Nat) : Int) (n : Int) = ((worthL s (k + 1) : Nat) : Int)) := vv (by
     rw [u64_or_nat _ _ (by omega) (by omega)]
     have h := Nat.two_pow_add_eq_or_of_lt (i := 4) (b := n) (by omega) (worthL s k)
     rw [show worthL s (k + 1) = worthL s k * 16 + (fig figS s (2 + k)).toNat from rfl, <- HZ.out, Int.toNat_natCast, show worthL s k * 16 = 2 ^ 4 * worthL s k by omega, h])
    clear hwl hp
    go_wp2_with fail
    rw [HWr.out, HOr.out]
    go_step3
    have hne1 : g ≠ w.heap.size := by have := HLt.out; omega
    have hne2 : g ≠ w.heap.size + 1 := by have := HLt.out; omega
    have hC5 : Blk (w'.setCell ⟨g, 0, none⟩ (.int .i64 (2 + (k : Int) + 1))) g 3 [.int .i64 (2 + ((k + 1 : Nat) : Int))] := by
     have := HC.out.set 0 (.int .i64 (2 + (k : Int) + 1))
     rwa [show 2 + ((k + 1 : Nat) : Int) = 2 + (k : Int) + 1 by omega]
    refine ⟨rfl, ⟨g, k + 1, _, _, _, _, _, _, _, _, _, _, _, _, _, _, _, _, _, _, _, _, _, _, _, _, _, _, _, _, _, _, _, _, _, _, _, _, _, _, _, _, _, _, _, _, _, _, _, _, _, _, _, rfl, HKd.out, ?_, HLt.out, hC5, HQ.out.other (p := ⟨g, 0, none⟩) hne1 _, HS.out.other (p := ⟨g, 0, none⟩) hne2 _, HB.out.setCell (p := ⟨g, 0, none⟩) (by have := HLt.out; show _ <= g; omega) _⟩, ?_⟩
    ·intro j hj
     rcases Nat.lt_or_ge j (2 + k) with h | h
     ·exact HAt.out j h
     ·obtain rfl : j = 2 + k := by omega
      unfold atL
      rw [if_neg (by omega), if_neg (by omega), <- HZ.out]
      exact hz1
    ·have e1 := hC5.cell 0
     simp only [List.getElem?_cons_zero] at e1
     have hk' := HKd.out
     simp only [ldM, Array.getD_eq_getD_getElem?, List.getElem?_toArray, List.getElem?_cons_succ, List.getElem?_cons_zero, Option.getD_some]
     rw [e1, c3]
     show 2 + d - (2 + ((k + 1 : Nat) : Int)).toNat < 2 + d - (2 + (k : Int)).toNat
     omega
  ·obtain rfl : k = d := by omega
   have s0 := HS.out.cell 0
   have sl := HS.out.lt
   have c0 := HQ.out.cell 0
   have c1 := HQ.out.cell 1
   have ql := HQ.out.lt
   simp only [List.getElem?_cons_zero, List.getElem?_cons_succ] at s0 c0 c1
   have hwl := worthL_lt s k
   have hp : 16 ^ k <= 16 ^ 16 := Nat.pow_le_pow_right (by decide) (by omega)
   have HFi := vv fun w => Fits E F (worthL s k) w (by omega)
   obtain ⟨q, hq⟩ := yx (fitsErr E F (worthL s k))
   rw [<- hq] at HFi
   have HQe := vv hq
   clear hwl hp hq
   rcases Nat.lt_or_ge (2 + k) s.size with hl | hl
   ·have t1 : 2 + (k : Int) < (s.size : Int) := by omega
    have HA : Hid (LdE E F s k (.returned (.tuple #[.int .u64 0, .int .i64 (2 + (k : Int)), .int .i64 12]))) := vv (Or.inr ⟨HAt.out, Or.inl ⟨hl, by unfold ldV; rw [show ((2 + k : Nat) : Int) = 2 + (k : Int) by omega]; rfl⟩⟩)
    go_wp2_with fail
    go_region
    go_wp2
    simp only [Exit.jump]
    go_ret3
    exact ⟨HA.out, below_drew HB.out⟩
   ·have t1 : ¬ 2 + (k : Int) < (s.size : Int) := by omega
    have t2 : (s.size : Int) <= 2 + (k : Int) := by omega
    by_cases hq0 : q = 0
    ·have HA : Hid (LdE E F s k (ldV (worthL s k) 0 0)) := vv (Or.inr ⟨HAt.out, Or.inr (Or.inr ⟨hl, by rw [<- HQe.out]; exact hq0, rfl⟩)⟩)
     have t3 : (q == 0) = true := by rw [hq0]; rfl
     go_wp2_with fail
     refine (HFi.out _).mono ?_
     rintro e w2 ⟨rfl, hB⟩
     have HB2 := vn HB hB
     clear hB
     go_wp2
     simp only [Exit.jump]
     go_ret3
     exact ⟨HA.out, HB2.out⟩
    ·have HA : Hid (LdE E F s k (ldV 0 2 6)) := vv (Or.inr ⟨HAt.out, Or.inr (Or.inl ⟨hl, by rw [<- HQe.out]; exact hq0, rfl⟩)⟩)
     have t3 : (q == 0) = false := by rw [beq_eq_false_iff_ne]; exact hq0
     go_wp2_with fail
     refine (HFi.out _).mono ?_
     rintro e w2 ⟨rfl, hB⟩
     have HB2 := vn HB hB
     clear hB
     go_wp2
     simp only [Exit.jump]
     go_ret3
     exact ⟨HA.out, HB2.out⟩
end Go.Proofs.YtddaldghlinokaaGreatDoor.Hx
