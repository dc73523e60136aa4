/- Lemmas. -/
import Derived.Test.YtddaldghlinokaaGreatDoorPartBG
import Derived.Test.YtddaldghlinokaaGreatDoorPartAZ
import Derived.Test.YtddaldghlinokaaGreatDoorPartBF
import Derived.Lib.RepeatB
set_option linter.all false
namespace Go.Proofs.YtddaldghlinokaaGreatDoor.Rpt
open Go Go.RowKit R5 Scn
abbrev nought : ByteArray := ⟨#[48]⟩
def nts (c : Nat) : ByteArray := ⟨(List.replicate c 48).toArray⟩
theorem nts_size (c : Nat) : (nts c).size = c := by
 show (List.replicate c (48 : UInt8)).toArray.size = c
 simp
set_option maxRecDepth 1000000 in
theorem Repeat1 (w : World) : Calls Tryz.prog 67 #[.string nought, .int .i64 1] w fun e w' => e = .returned (.string (nts 1)) /\ Below w.heap.size w w' := by
 go_enter Tryz.func67, Tryz.ntmps67
 go_wp2
 go_ret
 exact ⟨rfl, Below.refl _ _⟩
abbrev K0 : ByteArray := ⟨#[48, 48, 48, 48, 48, 48, 48, 48, 48, 48, 48, 48, 48, 48, 48, 48, 48, 48, 48, 48, 48, 48, 48, 48, 48, 48, 48, 48, 48, 48, 48, 48, 48, 48, 48, 48, 48, 48, 48, 48, 48, 48, 48, 48, 48, 48, 48, 48, 48, 48, 48, 48, 48, 48, 48, 48, 48, 48, 48, 48, 48, 48, 48, 48]⟩
theorem K0_extract (c : Nat) (h : c <= 64) : K0.extract 0 c = nts c := by
 have h1 := Lib.fast_ok K0.data.toList 48 64 (by rfl) nought c c (by show 1 * c = c; omega) h (by rfl)
 have h2 : Lib.repeatL nought.data.toList c = List.replicate c 48 := by
  have := Lib.repeatL_replicate 48 1 c
  rwa [Nat.mul_one] at this
 rw [h2] at h1
 exact h1
theorem mul_ (c : Nat) (hc : c <= 2001) (w : World) : Calls Tryz.prog 153 #[.int .u64 1, .int .u64 c] w fun e w' => e = .returned (.tuple #[.int .u64 0, .int .u64 c]) /\ w = w' := by
 have h := Tryz.bits_Mul 1 c (by omega) (by omega) w
 rw [Nat.one_mul, Nat.div_eq_of_lt (by omega), Nat.mod_eq_of_lt (by omega)] at h
 exact h.mono fun _ _ h => ⟨h.1, h.2.symm⟩
theorem pre_is (K : ByteArray) (b : Bool) (h : pre K nought.data.toList = b) (w : World) : Calls Tryz.prog 154 #[.string K, .string nought] w fun e w' => e = .returned (.bool b) /\ w = w' := by
 have := pre_ K nought w
 rwa [h] at this
set_option maxRecDepth 1000000 in
set_option maxHeartbeats 4000000 in
theorem Repeat_few (c : Nat) (w : World) (h1 : 2 <= c) (h2 : c <= 64) :
  Calls Tryz.prog 67 #[.string nought, .int .i64 (c : Int)] w fun e w' => e = .returned (.string (nts c)) /\ Below w.heap.size w w' := by
 have hc1 : (2 : Int) <= (c : Int) := by omega
 have hc2 : (c : Int) <= 64 := by omega
 have t0 : ((c : Int) == 0) = false := by rw [beq_eq_false_iff_ne]; omega
 have t1 : ((c : Int) == 1) = false := by rw [beq_eq_false_iff_ne]; omega
 have tp : (0 : Int) < (c : Int) := by omega
 have HMu := vv fun w => mul_ c (by omega) w
 have HX := vv (K0_extract c h2)
 clear h1 h2
 go_enter Tryz.func67, Tryz.ntmps67
 go_wp2_with fail
 refine (HMu.out _).mono ?_
 rintro e w1 ⟨rfl, hw⟩
 subst hw
 go_wp2_with fail
 refine (pre_is _ false (by decide +kernel) _).mono ?_
 rintro e w1 ⟨rfl, hw⟩
 subst hw
 go_wp2_with fail
 refine (pre_is _ false (by decide +kernel) _).mono ?_
 rintro e w1 ⟨rfl, hw⟩
 subst hw
 go_wp2_with fail
 refine (pre_is _ true (by decide +kernel) _).mono ?_
 rintro e w1 ⟨rfl, hw⟩
 subst hw
 go_wp2_with fail
 go_ret
 exact ⟨congrArg (fun x => Ending.returned (Value.string x)) HX.out, Below.refl _ _⟩
theorem min3 {w : World} (ts : Array TypeId) (t : TypeId) (x y z : Int) :
  (Builtin.min_ ts t #[.int .i64 x, .int .i64 y, .int .i64 z]).run Tryz.prog w = .ok (.int .i64 (if z < (if y < x then y else x) then z else (if y < x then y else x))) w := by
 simp [Builtin.min_, Builtin.min2]
theorem chunk_ok (c q m : Nat) (hq1 : 1 <= q) (hqc : q < c) (hm : 1 <= m) :
  ∃ k, 1 <= k /\ k <= q /\ q + k <= c /\ min (min (c - q) q) m = k := ⟨min (min (c - q) q) m, by omega, by omega, by omega, rfl⟩
abbrev cs (q : Nat) : List Value := Lib.byteCells (List.replicate q 48)
set_option maxRecDepth 1000000 in
set_option maxHeartbeats 4000000 in
theorem Repeat_long (c : Nat) (w : World) (h1 : 65 <= c) (h2 : c <= 2001) :
  Calls Tryz.prog 67 #[.string nought, .int .i64 (c : Int)] w fun e w' => e = .returned (.string (nts c)) /\ Below w.heap.size w w' := by
 have hc1 : (65 : Int) <= (c : Int) := by omega
 have hc2 : (c : Int) <= 2001 := by omega
 have t0 : ((c : Int) == 0) = false := by rw [beq_eq_false_iff_ne]; omega
 have t1 : ((c : Int) == 1) = false := by rw [beq_eq_false_iff_ne]; omega
 have tp : (0 : Int) < (c : Int) := by omega
 have tw : IntKind.u64.wrap (c : Int) = (c : Int) := by rw [IntKind.wrap_u64]; omega
 have HMu := vv fun w => mul_ c (by omega) w
 have HC := vv (And.intro h1 h2)
 have HL : Hid ((128 : Int) < (c : Int) \/ (c : Int) <= 128) := vv (by omega)
 obtain ⟨W0, hW0⟩ := yx (w.alloc (.cells #[.pointer none, .slice none 0 0] 190))
 have b0 : Below w.heap.size w W0 := by rw [hW0]; exact (Below.refl _ w).alloc (Nat.le_refl _) _
 have HB0 := vv b0
 have HG := vv (Bld.Grow_fresh w.heap.size c W0 (by rw [hW0]; exact heap_alloc_new w _) (by omega) (by omega))
 have HW0 := vv hW0
 clear hW0 b0 h1 h2
 rcases HL.out with hc3 | hc3
 go_enter Tryz.func67, Tryz.ntmps67
 go_wp2_with fail
 refine (HMu.out _).mono ?_
 rintro e w1 ⟨rfl, hw⟩
 subst hw
 go_wp2_with fail
 rotate_left
 go_enter Tryz.func67, Tryz.ntmps67
 go_wp2_with fail
 refine (HMu.out _).mono ?_
 rintro e w1 ⟨rfl, hw⟩
 subst hw
 go_wp2_with fail
 refine (pre_is _ false (by decide +kernel) _).mono ?_
 rintro e w1 ⟨rfl, hw⟩
 subst hw
 go_wp2_with fail
 refine (pre_is _ false (by decide +kernel) _).mono ?_
 rintro e w1 ⟨rfl, hw⟩
 subst hw
 go_wp2_with fail
 refine (pre_is _ false (by decide +kernel) _).mono ?_
 rintro e w1 ⟨rfl, hw⟩
 subst hw
 go_wp2_with fail
 rotate_left
 all_goals
  rw [<- HW0.out]
  refine HG.out.mono ?_
  rintro e W1 ⟨rfl, h1, b1⟩
  have HB1 := vv (HB0.out.trans b1)
  have HWs := vv (Bld.WriteString w.heap.size w.heap.size [] nought W1 (Lib.IsBuilderF.of (Or.inr h1)) (by decide) HB1.out.size)
  clear h1 b1
  go_wp2_with fail
  refine HWs.out.mono ?_
  rintro e W2 ⟨rfl, h2, b2⟩
  have HB2 := vv (HB1.out.trans b2)
  rw [List.nil_append, Lib.strCells_eq] at h2
  have H2 : Hid (Bld.IsF w.heap.size w.heap.size (cs 1) W2) := vv (Or.inr h2)
  clear h2 b2 HWs
  go_wp2_with fail
  go_loopg [] (c - 1) (fun g wx => ∃ q : Nat, 1 <= q /\ q + g = c /\ Bld.IsF w.heap.size w.heap.size (cs q) wx /\ Below w.heap.size w wx)
  case atStart => exact ⟨1, Nat.le_refl _, by have := HC.out.1; omega, H2.out, HB2.out⟩
  case round =>
   obtain ⟨q, hq1, hqg, hB, hbx⟩ := hrel
   have hlq : (cs q).length = q := by rw [Lib.byteCells_length, List.length_replicate]
   have HLen := vv (Tryz.Builder_Len_f w.heap.size w.heap.size _ wr hB)
   rw [hlq] at HLen
   have HStr := vv (Bld.String w.heap.size w.heap.size (List.replicate q 48) wr hB (by intro hq; have := congrArg List.length hq; simp at this; omega))
   have HBx := vv hbx
   clear hB hbx
   cases gk with
   | zero =>
    obtain rfl : q = c := by omega
    have hQn : ¬ ((q : Int) < (q : Int)) := by omega
    go_wp2_with fail
    refine HLen.out.mono ?_
    rintro e w' ⟨rfl, hw⟩
    rw [hw]
    clear hw
    go_wp2_with fail
    refine HStr.out.mono ?_
    rintro e W3 ⟨rfl, h3, b3⟩
    go_wp2_with fail
    go_ret
    exact ⟨rfl, HBx.out.trans b3⟩
   | succ g =>
    obtain ⟨k, hk1, hkq, hkc, hmin⟩ := chunk_ok c q c hq1 (by omega) (by omega)
    have hmin3 : ∀ (ts : Array TypeId) (t : TypeId) (W : World), (Builtin.min_ ts t #[.int .i64 ((c : Int) - (q : Int)), .int .i64 (q : Int), .int .i64 (c : Int)]).run Tryz.prog W = .ok (.int .i64 (k : Int)) W := fun ts t W => by
     rw [min3]
     congr 2
     rw [<- hmin]
     omega
    have HE : Hid ((nts q).extract 0 k = nts k) := vv (by
     rw [Lib.extract_eq]
     simp only [nts, List.drop_zero, Nat.sub_zero, List.take_replicate]
     rw [Nat.min_eq_left hkq])
    have hSz : (nts q).size = q := nts_size q
    obtain ⟨S, hS⟩ := yx (nts q)
    rw [<- hS] at HE hSz
    rw [show (⟨(List.replicate q 48).toArray⟩ : ByteArray) = S from hS.symm] at HStr
    have HK := vv (And.intro hmin (And.intro hk1 (And.intro hkq (And.intro hkc hqg))))
    have hQn : (q : Int) < (c : Int) := by omega
    have hq1i : (1 : Int) <= (q : Int) := by omega
    have hkqi : (k : Int) <= (q : Int) := by omega
    have hkq' : k <= q := hkq
    clear hmin hk1 hkc hqg hlq hS
    go_wp2_with fail
    refine HLen.out.mono ?_
    rintro e w' ⟨rfl, hw⟩
    rw [hw]
    clear hw
    go_wp2_with fail
    refine HLen.out.mono ?_
    rintro e w' ⟨rfl, hw⟩
    rw [hw]
    clear hw
    go_wp2_with fail
    refine HLen.out.mono ?_
    rintro e w' ⟨rfl, hw⟩
    rw [hw]
    clear hw
    go_wp2_with fail
    refine HStr.out.mono ?_
    rintro e W3 ⟨rfl, h3, b3⟩
    have HB3 := vv (HBx.out.trans b3)
    have HWr := vv (Bld.WriteString w.heap.size w.heap.size _ (S.extract 0 k) W3 h3 (by
     have := HC.out
     have := HK.out.2.2.2.1
     rw [HE.out, nts_size, Lib.byteCells_length, List.length_replicate]
     omega) HB3.out.size)
    clear h3 b3
    go_wp2_with fail
    refine HWr.out.mono ?_
    rintro e W4 ⟨rfl, h4, b4⟩
    go_wp2_with fail
    go_roundg (c - (q + k))
    case measure => have := HK.out; omega
    case rel =>
     obtain ⟨_, hk1, _, hkc, _⟩ := HK.out
     refine ⟨q + k, by omega, by omega, Or.inr ?_, HB3.out.trans b4⟩
     rw [HE.out, Lib.strCells_eq, <- Lib.byteCells_append] at h4
     rw [show (List.replicate q (48 : UInt8)) ++ (nts k).data.toList = List.replicate (q + k) 48 by
      show List.replicate q (48 : UInt8) ++ (List.replicate k (48 : UInt8)).toArray.toList = _
      rw [List.toList_toArray, List.replicate_append_replicate]] at h4
     exact h4
theorem Repeat (c : Nat) (w : World) (h1 : 1 <= c) (h2 : c <= 2001) :
  Calls Tryz.prog 67 #[.string nought, .int .i64 (c : Int)] w fun e w' => e = .returned (.string (nts c)) /\ Below w.heap.size w w' := by
 rcases Nat.lt_or_ge c 2 with h | h
 ·obtain rfl : c = 1 := by omega
  exact Repeat1 w
 ·rcases Nat.lt_or_ge 64 c with h3 | h3
  ·exact Repeat_long c w (by omega) h2
  ·exact Repeat_few c w h h3
end Go.Proofs.YtddaldghlinokaaGreatDoor.Rpt
