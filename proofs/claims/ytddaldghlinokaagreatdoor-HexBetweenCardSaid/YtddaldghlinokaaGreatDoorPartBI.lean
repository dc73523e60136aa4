/- Lemmas. -/
import Derived.Test.YtddaldghlinokaaGreatDoorPartBF
import Derived.Lib.ItoaLen
import Derived.Lib.LaidTab
import Derived.Lib.AppendIntMem
set_option linter.all false
namespace Go.Proofs.YtddaldghlinokaaGreatDoor.Hx
open Go Go.RowKit R5 Scn Fms Exa
def Ten (w : World) : Prop := Lib.TabIs Tryz.prog w "internal/strconv.uint64pow10" .u64 Lib.pow10Tab /\ 5 < w.heap.size
def txtL (neg : Bool) (l : List UInt8) (x : Int) : List UInt8 := (if neg then [45] else []) ++ ([48, 120] ++ l.take 1 ++ (if 1 < l.length then 46 :: l.drop 1 else []) ++ 112 :: Lib.itoa x)
theorem retS {x y : ByteArray} (h : x.data.toList = y.data.toList) : Ending.returned (.string x) = Ending.returned (.string y) := by
 congr 2
 exact ByteArray.ext (Array.toList_inj.1 h)
set_option maxRecDepth 100000 in
set_option maxHeartbeats 4000000 in
theorem text (neg : Bool) (l : List UInt8) (x : Int) (w : World) (hl : l ≠ []) (hn : l.length <= 65536) (h1 : -1000000 <= x) (h2 : x <= 1000000) (hp : Ten w) :
  Calls Tryz.prog 53 #[.bool neg, .string ⟨l.toArray⟩, .int .i64 x] w fun e w' => e = .returned (.string ⟨(txtL neg l x).toArray⟩) /\ Below w.heap.size w w' := by
 obtain ⟨s, hs⟩ : ∃ s : ByteArray, s = ⟨l.toArray⟩ := ⟨_, rfl⟩
 have hsz : s.size = l.length := by rw [hs]; exact List.size_toArray ..
 rw [<- hs]
 have hsi : (s.size : Int) <= 65536 := by omega
 have hs1 : (1 : Int) <= s.size := by have := List.length_pos_iff.2 hl; omega
 obtain ⟨t, ht⟩ : ∃ t : ByteArray, t = ⟨(Lib.itoa x).toArray⟩ := ⟨_, rfl⟩
 have hti : (t.size : Int) <= 21 := by
  have h := Lib.itoa_length_le x (by omega) (by omega)
  have e : t.size = (Lib.itoa x).length := by rw [ht]; exact List.size_toArray ..
  omega
 have hI := Tryz.strconv_Itoa x (by omega) (by omega) w hp.1
 rw [<- ht] at hI
 have HI := vv hI
 have HT := vv ht
 have HS := vv (And.intro hs hsz)
 clear hp hl hn h1 h2 hs hsz hI ht
 go_enter Tryz.func53, Tryz.ntmps53
 go_wp2_with fail
 all_goals
  refine HI.out.mono ?_
  rintro e w1 ⟨rfl, k, os, rfl⟩
  have HB := vv (Lib.below_grow w.heap.size w (Nat.le_refl _) k os)
  cases neg
  all_goals
   go_wp2
   go_ret
   refine ⟨retS ?_, HB.out⟩
   have hS := HS.out.2
   simp only [ByteArray.data_append, ByteArray.data_extract, Array.toList_append, Array.toList_extract, txtL]
   have e1 : s.data.toList = l := by rw [HS.out.1]
   have e2 : t.data.toList = Lib.itoa x := by rw [HT.out]
   have e3 : l.extract 0 1 = l.take 1 := by simp [List.extract_eq_take_drop]
   have e4 : l.extract 1 l.length = l.drop 1 := by
    simp only [List.extract_eq_take_drop]
    exact List.take_of_length_le (by simp)
   rw [e1, e2]
   simp only [hS, e3, e4]
   by_cases h : 1 < l.length
   ·first
     | (exfalso; omega)
     | simp [h]
   ·first
     | (exfalso; omega)
     | simp [h]
theorem wide (E F : Nat) (w : World) (h1 : E <= 62) (h2 : F <= 62) :
  Calls Tryz.prog 82 #[fm E F] w fun e w' => e = .returned (.int .i64 (((E + F + 4) / 4 : Nat) : Int)) /\ Below w.heap.size w w' := by
 have hb : Below w.heap.size w (w.alloc (.cells #[.int .i64 (E : Int), .int .i64 (F : Int)] 23)) := (Below.refl _ _).alloc (Nat.le_refl _) _
 have hE : (E : Int) <= 62 := by omega
 have hF : (F : Int) <= 62 := by omega
 clear h1 h2
 go_enter Tryz.func82, Tryz.ntmps82
 go_wp2
 go_ret
 exact ⟨retI (by omega), hb⟩
theorem first (neg : Bool) (A : Option Addr) (n c N : Nat) (x : Int) (w : World) (ha : Rd w A n c (toL N)) (hn : n <= 16384) (h1 : -1000000 <= x) (h2 : x <= 1000000) :
  Calls Tryz.prog 57 #[dyadV neg A n c x] w fun e w' => e = .returned (.int .i64 (x + (bl N : Int) - 1)) /\ Below w.heap.size w w' := by
 obtain ⟨w0, hw0⟩ := yx (w.alloc (.cells #[.bool neg, .slice A n c, .int .i64 x] 30))
 have hb : Below w.heap.size w w0 := by rw [hw0]; exact (Below.refl _ _).alloc (Nat.le_refl _) _
 have hQ : Blk w0 w.heap.size 30 [.bool neg, .slice A n c, .int .i64 x] := by rw [hw0]; exact Blk.made w 30 [.bool neg, .slice A n c, .int .i64 x]
 have hbl : bl N <= 524288 := by
  have h := ha.lt
  rw [val_toL, pow32] at h
  have := bl_le h
  omega
 have HBi := vv (Pnt.Bits A n c N w0 (ha.below hb rfl) hn)
 obtain ⟨s, hs⟩ := yx (bl N)
 rw [<- hs] at HBi hbl ⊢
 have hsi : (s : Int) <= 524288 := by omega
 have HB := vv hb
 have HQ := vv hQ
 have HW := vv hw0
 clear hb hQ hw0 ha hn hbl hs
 go_enter Tryz.func57, Tryz.ntmps57
 go_wp2_with fail
 rw [<- HW.out]
 refine HBi.out.mono ?_
 rintro e w1 ⟨rfl, hB⟩
 have HB1 := vn HB hB
 have c2 := (HQ.out.below hB).cell 2
 have cl := (HQ.out.below hB).lt
 simp only [List.getElem?_cons_zero, List.getElem?_cons_succ] at c2
 clear hB
 go_wp2
 go_ret
 exact ⟨retI (by omega), HB1.out⟩
def oddN (M : Nat) : Nat := if M = 0 then 0 else M / 2 ^ tz M
def oddX (M : Nat) (p : Int) : Int := if M = 0 then 0 else p + (tz M : Int)
def oddG (neg : Bool) (M : Nat) : Bool := if M = 0 then false else neg
theorem ValP_eq {neg : Bool} {M : Nat} {p : Int} {w : World} {e : Ending} {w' : World} (h : ValP neg M p w e w') : DyP (oddG neg M) (oddN M) (oddX M p) w e w' := by
 unfold ValP at h
 unfold oddG oddN oddX
 by_cases h0 : M = 0
 ·rw [if_pos h0] at h; simp only [if_pos h0]; exact h
 ·rw [if_neg h0] at h; simp only [if_neg h0]; exact h
def FinP (neg g : Bool) (N : Nat) (x : Int) (w : World) (e : Ending) (w' : World) : Prop :=
 ∃ A m, e = .returned (.tuple #[dyadV g A m m x, .bool neg, .int .i64 0]) /\ Rd w' A m m (toL N) /\ Fr w.heap.size A /\ Below w.heap.size w w'
set_option maxRecDepth 100000 in
set_option maxHeartbeats 2000000 in
theorem finite (E F b : Nat) (w : World) (h1 : 2 <= E) (h2 : E <= 11) (h3 : 1 <= F) (h4 : F <= 52) (hb : b < 2 ^ (1 + E + F)) (hf : expOf E F b ≠ R3.tw E - 1) (hs : Std w) (N : Nat) (x : Int) (g : Bool)
  (hN : N = oddN (mantOf F (expOf E F b) (fracOf F b))) (hx : x = oddX (mantOf F (expOf E F b) (fracOf F b)) (powOf E F (expOf E F b))) (hg : g = oddG (negOf E F b) (mantOf F (expOf E F b) (fracOf F b))) :
  Calls Tryz.prog 52 #[fm E F, .int .u64 (b : Int)] w (FinP (negOf E F b) g N x w) := by
 have HSp := vv fun w => Split E F b w h1 h2 h3 h4 hb
 have HVa : Hid (∀ w, Std w -> Calls Tryz.prog 22 #[fm E F, .int .u64 (b : Int)] w (DyP g N x w)) := vv fun w hs => by
  rw [hg, hN, hx]
  exact (Go.Proofs.YtddaldghlinokaaGreatDoor.Exa.Value E F b w h1 h2 h3 h4 hb hf hs).mono fun _ _ h => ValP_eq h
 obtain ⟨y, hy⟩ := yx (expOf E F b)
 obtain ⟨f, hfe⟩ := yx (fracOf F b)
 obtain ⟨neg, hneg⟩ := yx (negOf E F b)
 rw [<- hy, <- hfe, <- hneg] at HSp
 rw [<- hneg]
 obtain ⟨w0, hw0⟩ := yx ((w.alloc (.cells #[.int .i64 (E : Int), .int .i64 (F : Int)] 23)).alloc (.cells #[.bool false, .slice none 0 0, .int .i64 0] 30))
 have hB : Below w.heap.size w w0 := by rw [hw0]; exact ((Below.refl _ _).alloc (Nat.le_refl _) _).alloc (by simp) _
 have hR : Blk w0 (w.heap.size + 1) 30 [.bool false, .slice none 0 0, .int .i64 0] := by
  rw [hw0]
  have := Blk.made (w.alloc (.cells #[.int .i64 (E : Int), .int .i64 (F : Int)] 23)) 30 [.bool false, .slice none 0 0, .int .i64 0]
  rwa [World.size_alloc] at this
 have hQ : Blk w0 w.heap.size 23 [.int .i64 (E : Int), .int .i64 (F : Int)] := by
  rw [hw0]
  exact (Blk.made w 23 [.int .i64 (E : Int), .int .i64 (F : Int)]).alloc _
 have HW := vv hw0
 have HB := vv hB
 have HR := vv hR
 have HQ := vv hQ
 have HS := vv hs
 clear hN hx hg hy hfe hneg hw0 hB hR hQ hs h1 h2 h3 h4 hb hf
 go_enter Tryz.func52, Tryz.ntmps52
 go_wp2_with fail
 rw [<- HW.out]
 refine (HSp.out _).mono ?_
 rintro e w1 ⟨rfl, hB⟩
 have hb2 : Below w1.heap.size w1 (w1.alloc (.cells #[.bool neg, .int .i64 (y : Int), .int .u64 (f : Int)] 100)) := (Below.refl _ _).alloc (Nat.le_refl _) _
 obtain ⟨w2, hw2⟩ := yx (w1.alloc (.cells #[.bool neg, .int .i64 (y : Int), .int .u64 (f : Int)] 100))
 have hP2 : Blk w2 w1.heap.size 100 [.bool neg, .int .i64 (y : Int), .int .u64 (f : Int)] := by rw [hw2]; exact Blk.made w1 100 [.bool neg, .int .i64 (y : Int), .int .u64 (f : Int)]
 rw [<- hw2] at hb2
 have HW2 := vv hw2
 have HP2 := vv hP2
 have HLt := vv (HR.out.below hB).lt
 have HR2 := vv ((HR.out.below hB).below hb2)
 have HQ2 := vv ((HQ.out.below hB).below hb2)
 have HB2 := vv (HB.out.trans ((hB.trans (hb2.mono hB.size)).mono HB.out.size))
 have c0 := (HQ.out.below hB).cell 0
 have c1 := (HQ.out.below hB).cell 1
 have cl := (HQ.out.below hB).lt
 simp only [List.getElem?_cons_zero, List.getElem?_cons_succ] at c0 c1
 clear hB hb2 hw2 hP2
 go_wp2_with fail
 rw [<- HW2.out]
 refine (HVa.out _ (HS.out.below HB2.out)).mono ?_
 rintro e w3 ⟨A, m, rfl, hA, hF, hB⟩
 have HP3 := vv (HP2.out.below hB)
 have HR3 := vv (HR2.out.below hB)
 have HB3 := vn HB2 hB
 have HF3 := vv (hF.mono HR2.out.lt)
 have HA3 := vv hA
 clear hB hF hA c0 c1 cl
 go_wp2_with (with_reducible refine wpList_store_blk rfl 30 (.tmp 4) (.tmp 22) rfl (w.heap.size + 1) [.bool g, .slice A m m, .int .i64 x] rfl rfl 30 _ HR3.out (by kernel_rfl) rfl rfl ?_)
 intro w4 hB hg4
 have HB4 := vv (only_below HB3.out hg4 HB3.out.size (Nat.le_succ _))
 have HA4 := vv (HA3.out.only hg4 (fun a e => by have := (HF3.out a e).1; omega))
 have HP4 := vv (HP3.out.grown hg4 (fun e => by have := HLt.out; injection e; omega))
 have HR4 := vv hB
 clear hB hg4
 obtain ⟨p0, p1, p2⟩ := blk3 HP4.out
 obtain ⟨k0, k1, k2⟩ := blk3 HR4.out
 have f0 := HR4.out.fz 0
 have f1 := HR4.out.fz 1
 have f2 := HR4.out.fz 2
 have kl := HR4.out.lt
 have hne := HLt.out
 clear HP4 HP3 HR3 HQ2 HQ HP2 HR2 HSp HVa HA3
 go_wp2_with fail
 go_region
 obtain ⟨w5, hw5⟩ := yx ((((w4.setCell ⟨w.heap.size + 1, 0, none⟩ (.bool g)).setCell ⟨w.heap.size + 1, 1, none⟩ (.slice A m m)).setCell ⟨w.heap.size + 1, 2, none⟩ (.int .i64 x)).drew)
 have hB5 : Hid (Below w.heap.size w w5) := vv (by
  rw [hw5]
  exact below_drew (((HB4.out.setCell (p := ⟨w.heap.size + 1, 0, none⟩) (Nat.le_succ _) _).setCell (p := ⟨w.heap.size + 1, 1, none⟩) (Nat.le_succ _) _).setCell (p := ⟨w.heap.size + 1, 2, none⟩) (Nat.le_succ _) _))
 have hA5 : Hid (Rd w5 A m m (toL N)) := vv (by
  rw [hw5]
  have hne : ∀ a, A = some a -> a.block ≠ w.heap.size + 1 := fun a e => by have := (HF3.out a e).1; omega
  exact (((HA4.out.other _ _ _ hne).other _ _ _ hne).other _ _ _ hne).drew)
 have hR5 : Hid (Blk w5 (w.heap.size + 1) 30 [.bool g, .slice A m m, .int .i64 x]) := vv (by
  rw [hw5]
  exact (((HR4.out.set 0 (.bool g)).set 1 (.slice A m m)).set 2 (.int .i64 x)).below (below_drew (Below.refl _ _)))
 rw [<- hw5]
 clear hw5
 go_wp2
 obtain ⟨k0, k1, k2⟩ := blk3 hR5.out
 exact bodyPost_ret (v := .tuple #[dyadV g A m m x, .bool neg, .int .i64 0]) (by simp [results, Tryz.results52, go_sem, k0, k1, k2]) rfl ⟨A, m, rfl, hA5.out, HF3.out.mono (by omega), hB5.out⟩
theorem retS2 {x y : ByteArray} {v : Value} (h : x.data.toList = y.data.toList) : Ending.returned (.tuple #[.string x, v]) = Ending.returned (.tuple #[.string y, v]) := by
 have : x = y := ByteArray.ext (Array.toList_inj.1 h)
 rw [this]
theorem Dump_no (E F : Int) (b : Nat) (w : World) (hb : b < 18446744073709551616) (h : fitsErr E F b ≠ 0) :
  Calls Tryz.prog 17 #[fm E F, .int .u64 b] w fun e w' => e = .returned (.tuple #[.string ⟨#[]⟩, .int .i64 (fitsErr E F b)]) /\ Below w.heap.size w w' := by
 have HF := vv fun w => Fits E F b w hb
 obtain ⟨q, hq⟩ := yx (fitsErr E F b)
 rw [<- hq] at HF h ⊢
 have h' : (q == 0) = false := by rw [beq_eq_false_iff_ne]; exact h
 have HB := vv ((Below.refl w.heap.size w).alloc (o := .cells #[.int .i64 E, .int .i64 F] 23) (Nat.le_refl _))
 clear hq hb h
 go_enter Tryz.func17, Tryz.ntmps17
 go_wp2_with fail
 refine (HF.out _).mono ?_
 rintro e w1 ⟨rfl, hB⟩
 have HB1 := vn HB hB
 clear hB
 go_wp2
 go_ret2
 exact ⟨rfl, HB1.out⟩
def dumpL (E F b : Nat) : List UInt8 := [48, 120] ++ hexL b ((E + F + 4) / 4)
set_option maxRecDepth 100000 in
set_option maxHeartbeats 2000000 in
theorem Dump (E F b : Nat) (w : World) (h1 : 2 <= E) (h2 : E <= 11) (h3 : 1 <= F) (h4 : F <= 52) (hb : b < 2 ^ (1 + E + F)) :
  Calls Tryz.prog 17 #[fm E F, .int .u64 b] w fun e w' => e = .returned (.tuple #[.string ⟨(dumpL E F b).toArray⟩, .int .i64 0]) /\ Below w.heap.size w w' := by
 have hb64 : b < 18446744073709551616 := Nat.lt_of_lt_of_le hb (by rw [show (18446744073709551616 : Nat) = 2 ^ 64 from rfl]; exact Nat.pow_le_pow_right (by decide) (by omega))
 have hbl := bl_le hb
 have hfit : fitsErr E F b = 0 := by
  unfold fitsErr
  rw [formOk_in h1 h2 h3 h4, if_pos rfl, if_neg (by omega)]
 have HF := vv fun w => Fits E F b w hb64
 rw [hfit] at HF
 have HO := vv fun w => Pnt.Of b w hb64
 have HWd := vv fun w => wide E F w (by omega) (by omega)
 have HSx : Hid (∀ A m w, Rd w A m m (toL b) -> Calls Tryz.prog 56 #[natV A m m, .int .i64 (((E + F + 4) / 4 : Nat) : Int)] w fun e w' => e = .returned (.string ⟨(hexL b ((E + F + 4) / 4)).toArray⟩) /\ Below w.heap.size w w') := vv fun A m w hr => by
  have hm : m <= 2 := hr.bound (by omega)
  have h := sixteens A m m b ((E + F + 4) / 4) w hr (by omega) (by omega) (by omega)
  rwa [show max ((E + F + 4) / 4) ((bl b + 3) / 4) = (E + F + 4) / 4 by omega] at h
 obtain ⟨s, hs⟩ : ∃ s : ByteArray, s = ⟨(hexL b ((E + F + 4) / 4)).toArray⟩ := ⟨_, rfl⟩
 have hsz : (s.size : Int) <= 100 := by
  have e : s.size = (hexL b ((E + F + 4) / 4)).length := by rw [hs]; exact List.size_toArray ..
  rw [e, hexL_len]; omega
 rw [<- hs] at HSx
 obtain ⟨d, hd⟩ := yx ((E + F + 4) / 4)
 rw [<- hd] at HWd HSx
 obtain ⟨w0, hw0⟩ := yx (w.alloc (.cells #[.int .i64 (E : Int), .int .i64 (F : Int)] 23))
 have hB : Below w.heap.size w w0 := by rw [hw0]; exact (Below.refl _ _).alloc (Nat.le_refl _) _
 have hQ : Blk w0 w.heap.size 23 [.int .i64 (E : Int), .int .i64 (F : Int)] := by rw [hw0]; exact Blk.made w 23 [.int .i64 (E : Int), .int .i64 (F : Int)]
 have HW := vv hw0
 have HB := vv hB
 have HQ := vv hQ
 have HSt := vv (And.intro hs hd)
 clear hw0 hB hQ hs hd h1 h2 h3 h4 hb hb64 hbl hfit
 go_enter Tryz.func17, Tryz.ntmps17
 go_wp2_with fail
 rw [<- HW.out]
 refine (HF.out _).mono ?_
 rintro e w1 ⟨rfl, hB⟩
 have HQ1 := vv (HQ.out.below hB)
 have HB1 := vn HB hB
 have c0 := HQ1.out.cell 0
 have c1 := HQ1.out.cell 1
 have cl := HQ1.out.lt
 simp only [List.getElem?_cons_zero, List.getElem?_cons_succ] at c0 c1
 clear hB
 go_wp2_with fail
 refine wp_region_sch (fun w' => w'.cell? ⟨w.heap.size, 0, none⟩ = some (.int .i64 (E : Int)) /\ w'.cell? ⟨w.heap.size, 1, none⟩ = some (.int .i64 (F : Int))) 5
  (.still 0 (.still 2 (.one 1 (.one 3 (.one 4 .done))))) (by kernel_rfl) (by kernel_rfl) (fun _ _ d _ _ h => by cases d <;> exact h) ⟨c0, c1⟩ (fun hS0 => ?_)
 iterate 2
  refine sch_still (v := ?_) rfl (by rfl) ?_ ?_
  rotate_left
  ·intro w hSw; go_simp; with_reducible rfl
  simp only [Act.put, List.setIfInBounds_toArray, List.set_cons_zero, List.set_cons_succ]
 refine sch_one rfl (by rfl) (fun K hK => ?_)
 go_simp
 refine (HO.out _).mono ?_
 rintro e w2 ⟨A, m, rfl, hA, _, hB⟩
 have hB : Below w1.heap.size w1 w2 := ⟨hB.os, hB.tape, hB.output, hB.size, hB.block⟩
 have HQ2 := vv (HQ1.out.below hB)
 have HB2 := vn HB1 hB
 have HA2 := vv hA
 clear hB hA
 go_wp2_with fail
 refine hK.out _ _ ⟨HQ2.out.cell 0, HQ2.out.cell 1⟩ (fun hHeld => ?_)
 clear hK
 refine sch_one rfl (by rfl) (fun K hK => ?_)
 go_simp
 refine (HWd.out _).mono ?_
 rintro e w3 ⟨rfl, hB⟩
 have HQ3 := vv (HQ2.out.below hB)
 have HB3 := vn HB2 hB
 have HA3 := vv (HA2.out.below hB rfl)
 clear hB
 go_wp2_with fail
 refine hK.out _ _ ⟨HQ3.out.cell 0, HQ3.out.cell 1⟩ (fun hHeld => ?_)
 clear hK
 refine sch_one rfl (by rfl) (fun K hK => ?_)
 go_simp
 refine (HSx.out _ _ _ HA3.out).mono ?_
 rintro e w4 ⟨rfl, hB⟩
 have HQ4 := vv (HQ3.out.below hB)
 have HB4 := vn HB3 hB
 clear hB
 go_wp2_with fail
 refine hK.out _ _ ⟨HQ4.out.cell 0, HQ4.out.cell 1⟩ (fun hHeld => ?_)
 clear hK
 refine sch_done ?_
 simp only [List.drop_succ_cons, List.drop_zero]
 go_wp2
 go_ret2
 refine ⟨retS2 ?_, HB4.out⟩
 rw [HSt.out.1]
 simp only [ByteArray.data_append, Array.toList_append, dumpL]
def up4 (s : Nat) : Nat := (4 - (s - 1) % 4) % 4
def printL (neg : Bool) (N : Nat) (x : Int) : List UInt8 :=
 if N = 0 then txtL neg [48] 0 else txtL neg (hexL (N * 2 ^ up4 (bl N)) ((bl N + up4 (bl N) + 3) / 4)) (x + (bl N : Int) - 1)
theorem Ten.below {w w' : World} (h : Ten w) (hb : Below w.heap.size w w') : Ten w' := by
 refine ⟨?_, Nat.lt_of_lt_of_le h.2 hb.size⟩
 have h1 := h.1
 have hg : Tryz.prog.globalNamed "internal/strconv.uint64pow10" = some 5 := by kernel_rfl
 unfold Lib.TabIs World.var? at h1 ⊢
 simp only [hg, Option.bind_some] at h1 ⊢
 rw [hb.block _ h.2]
 exact h1
set_option maxRecDepth 100000 in
set_option maxHeartbeats 2000000 in
theorem Print0 (E F b : Nat) (neg g : Bool) (x : Int) (w : World) (hb : b < 18446744073709551616) (hp : Ten w)
  (hF : ∀ w', Below w.heap.size w w' -> Calls Tryz.prog 52 #[fm E F, .int .u64 (b : Int)] w' (FinP neg g 0 x w')) :
  Calls Tryz.prog 13 #[fm E F, .int .u64 b] w fun e w' => e = .returned (.tuple #[.string ⟨(printL neg 0 x).toArray⟩, .int .i64 0]) /\ Below w.heap.size w w' := by
 have HTx := vv fun w' (h : Below w.heap.size w w') => text neg [48] 0 w' (by simp) (by decide) (by decide) (by decide) (hp.below h)
 have hL : printL neg 0 x = txtL neg [48] 0 := by unfold printL; rw [if_pos rfl]
 rw [hL]
 obtain ⟨s, hs⟩ : ∃ s : ByteArray, s = ⟨(txtL neg [48] 0).toArray⟩ := ⟨_, rfl⟩
 rw [<- hs] at HTx ⊢
 obtain ⟨w0, hw0⟩ := yx (w.alloc (.cells #[.int .i64 (E : Int), .int .i64 (F : Int)] 23))
 have hB : Below w.heap.size w w0 := by rw [hw0]; exact (Below.refl _ _).alloc (Nat.le_refl _) _
 have HFi := vv (hF w0 hB)
 have HW := vv hw0
 have HB := vv hB
 clear hs hL hp hF hB hw0
 go_enter Tryz.func13, Tryz.ntmps13
 go_wp2_with fail
 rw [<- HW.out]
 refine HFi.out.mono ?_
 rintro e w1 ⟨A, m, rfl, hA, _, hB⟩
 have hm : m = 0 := hA.len.symm
 subst hm
 have hb2 : Below w1.heap.size w1 (w1.alloc (.cells #[.bool g, .slice A 0 0, .int .i64 x] 30)) := (Below.refl _ _).alloc (Nat.le_refl _) _
 have HB2 := vv (HB.out.trans ((hB.trans (hb2.mono hB.size)).mono HB.out.size))
 clear hB hb2 hA
 go_wp2_with fail
 refine (HTx.out _ HB2.out).mono ?_
 rintro e w3 ⟨rfl, hB⟩
 have HB3 := vn HB2 hB
 clear hB
 go_wp2
 go_ret2
 exact ⟨rfl, HB3.out⟩
set_option maxRecDepth 100000 in
set_option maxHeartbeats 2000000 in
theorem Print1 (E F b N : Nat) (neg g : Bool) (x : Int) (w : World) (hb : b < 18446744073709551616) (hp : Ten w) (h0 : 0 < N) (hN : N < 2 ^ 53) (hx : -4000 <= x) (hx2 : x <= 4000)
  (hF : ∀ w', Below w.heap.size w w' -> Calls Tryz.prog 52 #[fm E F, .int .u64 (b : Int)] w' (FinP neg g N x w')) :
  Calls Tryz.prog 13 #[fm E F, .int .u64 b] w fun e w' => e = .returned (.tuple #[.string ⟨(printL neg N x).toArray⟩, .int .i64 0]) /\ Below w.heap.size w w' := by
 have hs53 : bl N <= 53 := bl_le hN
 have hs0 : 0 < bl N := bl_pos h0
 have hL : printL neg N x = txtL neg (hexL (N * 2 ^ up4 (bl N)) ((bl N + up4 (bl N) + 3) / 4)) (x + (bl N : Int) - 1) := by unfold printL; rw [if_neg (by omega)]
 have hu : up4 (bl N) <= 3 := by unfold up4; omega
 have hblm : bl (N * 2 ^ up4 (bl N)) = bl N + up4 (bl N) := by
  have e : N * 2 ^ up4 (bl N) / 2 ^ up4 (bl N) = N := Nat.mul_div_cancel _ (Nat.two_pow_pos _)
  have := bl_shift (x := N * 2 ^ up4 (bl N)) (b := up4 (bl N)) (by rw [e]; omega)
  rw [e] at this
  omega
 have hlt : N * 2 ^ up4 (bl N) < 2 ^ 56 := by
  have h1 : N * 2 ^ up4 (bl N) < 2 ^ 53 * 2 ^ up4 (bl N) := Nat.mul_lt_mul_of_pos_right hN (Nat.two_pow_pos _)
  have h2 : 2 ^ 53 * 2 ^ up4 (bl N) <= 2 ^ 53 * 2 ^ 3 := Nat.mul_le_mul_left _ (Nat.pow_le_pow_right (by decide) hu)
  exact Nat.lt_of_lt_of_le h1 (Nat.le_trans h2 (by decide))
 have hkey : Hid (-(((bl N : Int) - 1) % 4) % 4 = ((up4 (bl N) : Nat) : Int)) := vv (by unfold up4; omega)
 rw [hL]
 obtain ⟨k, hk⟩ := yx (up4 (bl N))
 rw [<- hk] at hu hblm hlt hkey ⊢
 have HTx := vv fun w' (h : Below w.heap.size w w') => text neg (hexL (N * 2 ^ k) ((bl N + k + 3) / 4)) (x + (bl N : Int) - 1) w'
  (by intro e; have := hexL_len (N * 2 ^ k) ((bl N + k + 3) / 4); rw [e] at this; simp at this; omega) (by rw [hexL_len]; omega) (by omega) (by omega) (hp.below h)
 have HSx : Hid (∀ A m w, Rd w A m m (toL (N * 2 ^ k)) -> Calls Tryz.prog 56 #[natV A m m, .int .i64 1] w fun e w' => e = .returned (.string ⟨(hexL (N * 2 ^ k) ((bl N + k + 3) / 4)).toArray⟩) /\ Below w.heap.size w w') := vv fun A m w hr => by
  have hm : m <= 2 := hr.bound (by omega)
  have h := sixteens A m m (N * 2 ^ k) 1 w hr (by omega) (by omega) (by omega)
  rwa [hblm, show max 1 ((bl N + k + 3) / 4) = (bl N + k + 3) / 4 by omega] at h
 have HBi := vv fun A m w (hr : Rd w A m m (toL N)) => Pnt.Bits A m m N w hr (by have : m <= 2 := hr.bound (by omega); omega)
 have HUp := vv fun A m w (hr : Rd w A m m (toL N)) => Pnt.Up A m m N k w hr (by have : m <= 2 := hr.bound (by omega); omega) (by omega)
 have HFt := vv fun A m w (hr : Rd w A m m (toL N)) => first g A m m N x w hr (by have : m <= 2 := hr.bound (by omega); omega) (by omega) (by omega)
 obtain ⟨s, hs⟩ : ∃ s : ByteArray, s = ⟨(txtL neg (hexL (N * 2 ^ k) ((bl N + k + 3) / 4)) (x + (bl N : Int) - 1)).toArray⟩ := ⟨_, rfl⟩
 rw [<- hs] at HTx ⊢
 obtain ⟨y, hy⟩ := yx (bl N)
 rw [<- hy] at HTx HSx HBi HFt hkey hs53
 have hyi : (y : Int) <= 53 := by omega
 have hy0 : (1 : Int) <= y := by omega
 obtain ⟨t, ht⟩ : ∃ t : ByteArray, t = ⟨(hexL (N * 2 ^ k) ((y + k + 3) / 4)).toArray⟩ := ⟨_, rfl⟩
 rw [<- ht] at HTx HSx
 obtain ⟨w0, hw0⟩ := yx (w.alloc (.cells #[.int .i64 (E : Int), .int .i64 (F : Int)] 23))
 have hB : Below w.heap.size w w0 := by rw [hw0]; exact (Below.refl _ _).alloc (Nat.le_refl _) _
 have HFi := vv (hF w0 hB)
 have HW := vv hw0
 have HB := vv hB
 have HN0 := vv h0
 clear hs hL hp hF hB hw0 ht hy hs53 hs0 hu hblm hlt hk hN hx hx2 hb h0
 go_enter Tryz.func13, Tryz.ntmps13
 go_wp2_with fail
 rw [<- HW.out]
 refine HFi.out.mono ?_
 rintro e w1 ⟨A, m, rfl, hA, _, hB⟩
 have hm : (1 : Int) <= m := by
  rcases Nat.eq_zero_or_pos m with h | h
  ·subst h
   have := hA.lt
   rw [val_toL, Nat.pow_zero] at this
   have := HN0.out
   omega
  ·omega
 have hb2 : Below w1.heap.size w1 (w1.alloc (.cells #[.bool g, .slice A m m, .int .i64 x] 30)) := (Below.refl _ _).alloc (Nat.le_refl _) _
 obtain ⟨w2, hw2⟩ := yx (w1.alloc (.cells #[.bool g, .slice A m m, .int .i64 x] 30))
 have hD2 : Blk w2 w1.heap.size 30 [.bool g, .slice A m m, .int .i64 x] := by rw [hw2]; exact Blk.made w1 30 [.bool g, .slice A m m, .int .i64 x]
 rw [<- hw2] at hb2
 have HW2 := vv hw2
 have HD2 := vv hD2
 have HB2 := vv (HB.out.trans ((hB.trans (hb2.mono hB.size)).mono HB.out.size))
 have HA2 := vv (hA.below hb2 rfl)
 clear hB hb2 hA hw2 hD2
 have hmne : ((m : Int) == 0) = false := by rw [beq_eq_false_iff_ne]; omega
 go_wp2_with fail
 rw [<- HW2.out]
 refine (HBi.out _ _ _ HA2.out).mono ?_
 rintro e w3 ⟨rfl, hB⟩
 have HD3 := vv (HD2.out.below hB)
 have HB3 := vn HB2 hB
 have HA3 := vv (HA2.out.below hB rfl)
 have hc := (HD2.out.below hB).cell 1
 have cl := (HD2.out.below hB).lt
 simp only [List.getElem?_cons_zero, List.getElem?_cons_succ] at hc
 clear hB
 go_wp2_with fail
 rw [hkey.out]
 refine (HUp.out _ _ _ HA3.out).mono ?_
 rintro e w4 ⟨A4, m4, rfl, hA, _, hB⟩
 have hb5 : Below w4.heap.size w4 (w4.alloc (.cells #[.slice A4 m4 m4] 28)) := (Below.refl _ _).alloc (Nat.le_refl _) _
 obtain ⟨w5, hw5⟩ := yx (w4.alloc (.cells #[.slice A4 m4 m4] 28))
 have hN5 : Blk w5 w4.heap.size 28 [.slice A4 m4 m4] := by rw [hw5]; exact Blk.made w4 28 [.slice A4 m4 m4]
 rw [<- hw5] at hb5
 have HW5 := vv hw5
 have HN5 := vv hN5
 have HD5 := vv ((HD3.out.below hB).below hb5)
 have HB5 := vv (HB3.out.trans ((hB.trans (hb5.mono hB.size)).mono HB3.out.size))
 have HA5 := vv (hA.below hb5 rfl)
 have HO5 := vv ((HA3.out.below hB rfl).below hb5 rfl)
 clear hB hb5 hA hw5 hN5 hc cl
 go_wp2_with fail
 rw [<- HW5.out]
 obtain ⟨d0, d1, d2⟩ := Fms.blk3 HD5.out
 have n0 := HN5.out.cell 0
 simp only [List.getElem?_cons_zero] at n0
 refine wp_region_sch (fun w' => w'.cell? ⟨w4.heap.size, 0, none⟩ = some (.slice A4 m4 m4) /\ w'.cell? ⟨w1.heap.size, 0, none⟩ = some (.bool g) /\ w'.cell? ⟨w1.heap.size, 1, none⟩ = some (.slice A m m) /\ w'.cell? ⟨w1.heap.size, 2, none⟩ = some (.int .i64 x)) 6
  (.still 0 (.still 1 (.still 3 (.one 2 (.one 4 (.one 5 .done)))))) (by kernel_rfl) (by kernel_rfl) (fun _ _ d _ _ h => by cases d <;> exact h) ⟨n0, d0, d1, d2⟩ (fun hS0 => ?_)
 iterate 3
  refine sch_still (v := ?_) rfl (by rfl) ?_ ?_
  rotate_left
  ·intro w hSw; go_simp; with_reducible rfl
  simp only [Act.put, List.setIfInBounds_toArray, List.set_cons_zero, List.set_cons_succ]
 refine sch_one rfl (by rfl) (fun K hK => ?_)
 go_simp
 refine (HSx.out _ _ _ HA5.out.drew).mono ?_
 rintro e w6 ⟨rfl, hB⟩
 have hB : Below w5.heap.size w5 w6 := ⟨hB.os, hB.tape, hB.output, hB.size, hB.block⟩
 have HN6 := vv (HN5.out.below hB)
 have HD6 := vv (HD5.out.below hB)
 have HB6 := vn HB5 hB
 have HO6 := vv (HO5.out.below hB rfl)
 clear hB
 go_wp2_with fail
 obtain ⟨d0, d1, d2⟩ := Fms.blk3 HD6.out
 refine hK.out _ _ ⟨HN6.out.cell 0, d0, d1, d2⟩ (fun hHeld => ?_)
 clear hK
 refine sch_one rfl (by rfl) (fun K hK => ?_)
 go_simp
 refine (HFt.out _ _ _ HO6.out).mono ?_
 rintro e w7 ⟨rfl, hB⟩
 have HN7 := vv (HN6.out.below hB)
 have HD7 := vv (HD6.out.below hB)
 have HB7 := vn HB6 hB
 clear hB
 go_wp2_with fail
 obtain ⟨d0, d1, d2⟩ := Fms.blk3 HD7.out
 refine hK.out _ _ ⟨HN7.out.cell 0, d0, d1, d2⟩ (fun hHeld => ?_)
 clear hK
 refine sch_one rfl (by rfl) (fun K hK => ?_)
 go_simp
 refine (HTx.out _ HB7.out).mono ?_
 rintro e w8 ⟨rfl, hB⟩
 have HN8 := vv (HN7.out.below hB)
 have HD8 := vv (HD7.out.below hB)
 have HB8 := vn HB7 hB
 clear hB
 go_wp2_with fail
 obtain ⟨d0, d1, d2⟩ := Fms.blk3 HD8.out
 refine hK.out _ _ ⟨HN8.out.cell 0, d0, d1, d2⟩ (fun hHeld => ?_)
 clear hK
 refine sch_done ?_
 simp only [List.drop_succ_cons, List.drop_zero]
 go_wp2
 go_ret2
 exact ⟨rfl, HB8.out⟩
set_option maxRecDepth 100000 in
set_option maxHeartbeats 4000000 in
theorem Value_no (E F b : Nat) (w : World) (h1 : 2 <= E) (h2 : E <= 11) (h3 : 1 <= F) (h4 : F <= 52) (hb : b < 2 ^ (1 + E + F)) (hf : expOf E F b = R3.tw E - 1) (hs : Std w) :
  Calls Tryz.prog 22 #[fm E F, .int .u64 (b : Int)] w fun e w' => e = .returned (.tuple #[dyadV false none 0 0 0, .int .i64 8]) /\ Below w.heap.size w w' := by
 have HSp := vv fun w => Split E F b w h1 h2 h3 h4 hb
 have HCl := vv fun w => Class E F b w h1 h2 h3 h4 hb
 have hx2 : expOf E F b < 2 ^ 11 := Nat.lt_of_lt_of_le (Nat.mod_lt _ (Nat.two_pow_pos _)) (Nat.pow_le_pow_right (by decide) h2)
 have hf2 : fracOf F b < 2 ^ F := Nat.mod_lt _ (Nat.two_pow_pos _)
 obtain ⟨x, hx⟩ := yx (expOf E F b)
 obtain ⟨f, hfe⟩ := yx (fracOf F b)
 obtain ⟨neg, hneg⟩ := yx (negOf E F b)
 rw [<- hx] at HSp HCl hx2 hf
 rw [<- hfe] at HSp HCl hf2
 rw [<- hneg] at HSp
 have hF52 : 2 ^ F <= 2 ^ 52 := Nat.pow_le_pow_right (by decide) h4
 have hP10 : 2 ^ (E - 1) <= 2 ^ 10 := Nat.pow_le_pow_right (by decide) (by omega)
 obtain ⟨P, hP⟩ := yx (2 ^ (E - 1))
 rw [<- hP] at hP10
 have hxi : (x : Int) <= 2047 := by omega
 have hEi : (E : Int) <= 11 := by omega
 have hE1 : (2 : Int) <= (E : Int) := by omega
 have hFi : (F : Int) <= 52 := by omega
 have hPi : (P : Int) <= 1024 := by omega
 obtain ⟨w0, hw0⟩ := yx ((w.alloc (.cells #[.int .i64 (E : Int), .int .i64 (F : Int)] 23)).alloc (.cells #[.bool false, .slice none 0 0, .int .i64 0] 30))
 have hB : Below w.heap.size w w0 := by rw [hw0]; exact ((Below.refl _ _).alloc (Nat.le_refl _) _).alloc (by simp) _
 have hR : Blk w0 (w.heap.size + 1) 30 [.bool false, .slice none 0 0, .int .i64 0] := by
  rw [hw0]
  have := Blk.made (w.alloc (.cells #[.int .i64 (E : Int), .int .i64 (F : Int)] 23)) 30 [.bool false, .slice none 0 0, .int .i64 0]
  rwa [World.size_alloc] at this
 have hQ : Blk w0 w.heap.size 23 [.int .i64 (E : Int), .int .i64 (F : Int)] := by
  rw [hw0]
  exact (Blk.made w 23 [.int .i64 (E : Int), .int .i64 (F : Int)]).alloc _
 have HW := vv hw0
 have HB := vv hB
 have HR := vv hR
 have HQ := vv hQ
 have HS := vv hs
 have hw1 : IntKind.i64.wrap ((E : Int) - 1) = (E : Int) - 1 := IntWalk.i64_in _ (by omega)
 have hw2 : IntKind.i64.wrap (2 - (P : Int)) = 2 - (P : Int) := IntWalk.i64_in _ (by omega)
 have hw3 : IntKind.i64.wrap (2 - (P : Int) - (F : Int)) = 2 - (P : Int) - (F : Int) := IntWalk.i64_in _ (by omega)
 have HWr := vv (And.intro hw1 (And.intro hw2 hw3))
 have HX := vv hx
 have HPe := vv hP
 have hE2 : 2 ^ 2 <= 2 ^ E := Nat.pow_le_pow_right (by decide) h1
 have hx3 : 3 <= x := by rw [hf]; unfold R3.tw; omega
 have HHs := vv (And.intro hf (And.intro hf2 (And.intro hx3 hE2)))
 have HH := vv (And.intro h1 (And.intro h2 (And.intro h3 h4)))
 clear hx hfe hneg hb hw0 hB hR hQ hs hw1 hw2 hw3 hP h1 h2 h3 h4 hf hf2 hF52 hx2 hP10 hx3 hE2
 go_enter Tryz.func22, Tryz.ntmps22
 go_wp2_with fail
 rw [<- HW.out]
 refine (HSp.out _).mono ?_
 rintro e w1 ⟨rfl, hB⟩
 have hb2 : Below w1.heap.size w1 (w1.alloc (.cells #[.bool neg, .int .i64 (x : Int), .int .u64 (f : Int)] 100)) := (Below.refl _ _).alloc (Nat.le_refl _) _
 obtain ⟨w2, hw2⟩ := yx (w1.alloc (.cells #[.bool neg, .int .i64 (x : Int), .int .u64 (f : Int)] 100))
 have hP2 : Blk w2 w1.heap.size 100 [.bool neg, .int .i64 (x : Int), .int .u64 (f : Int)] := by rw [hw2]; exact Blk.made w1 100 [.bool neg, .int .i64 (x : Int), .int .u64 (f : Int)]
 rw [<- hw2] at hb2
 have HW2 := vv hw2
 have HP2 := vv hP2
 have HR2 := vv ((HR.out.below hB).below hb2)
 have HQ2 := vv ((HQ.out.below hB).below hb2)
 have HB2 := vv (HB.out.trans ((hB.trans (hb2.mono hB.size)).mono HB.out.size))
 have c0 := (HQ.out.below hB).cell 0
 have c1 := (HQ.out.below hB).cell 1
 have cl := (HQ.out.below hB).lt
 simp only [List.getElem?_cons_zero, List.getElem?_cons_succ] at c0 c1
 clear hB hb2 hw2 hP2
 go_wp2_with fail
 rw [<- HW2.out]
 refine (HCl.out _).mono ?_
 rintro e w3 ⟨rfl, hB⟩
 have HP3 := vv (HP2.out.below hB)
 have HR3 := vv (HR2.out.below hB)
 have HQ3 := vv (HQ2.out.below hB)
 have HB3 := vn HB2 hB
 obtain ⟨p0, p1, p2⟩ := blk3 HP3.out
 have c0 := HQ3.out.cell 0
 have c1 := HQ3.out.cell 1
 have cl := HQ3.out.lt
 have pl := HP3.out.lt
 simp only [List.getElem?_cons_zero, List.getElem?_cons_succ] at c0 c1
 clear hB
 go_wp2_with fail
 refine wp_region_sch (fun w' => w'.cell? ⟨w.heap.size, 0, none⟩ = some (.int .i64 (E : Int)) /\ w'.cell? ⟨w.heap.size, 1, none⟩ = some (.int .i64 (F : Int)) /\ w'.cell? ⟨w1.heap.size, 2, none⟩ = some (.int .u64 (f : Int))) 12
  (.still 0 (.still 1 (.still 2 (.still 3 (.still 4 (.still 5 (.still 6 (.still 7 (.still 8 (.still 9 (.still 10 (.still 11 .done)))))))))))) (by kernel_rfl) (by kernel_rfl) (fun _ _ d _ _ h => by cases d <;> exact h) ⟨c0, c1, p2⟩ (fun hS0 => ?_)
 obtain ⟨hw1, hw2, hw3⟩ := HWr.out
 iterate 12
  refine sch_still (v := ?_) rfl (by rfl) ?_ ?_
  rotate_left
  ·intro w hSw; go_simp; with_reducible rfl
  simp only [Act.put, List.setIfInBounds_toArray, List.set_cons_zero, List.set_cons_succ]
 refine sch_end rfl ?_
 have hp : IntKind.i64.wrap ((2 : Int) ^ (E - 1)) = (P : Int) := by
  rw [show ((2 : Int) ^ (E - 1)) = ((2 ^ (E - 1) : Nat) : Int) by simp, <- HPe.out]
  exact IntWalk.i64_in _ (by omega)
 rw [hp, hw2, hw3]
 clear hw1 hw2 hw3 hp HWr hS0 c0 c1 cl pl p0 p1 p2
 obtain ⟨B, hBv⟩ := yx (2 - (P : Int) - (F : Int))
 have hB1 : -2000 <= B := by omega
 have hB2 : B <= 2 := by omega
 rw [<- hBv]
 have HBv := vv hBv
 have HP4 := vv (HP3.out.below (below_drew (Below.refl _ _)))
 have HR4 := vv (HR3.out.below (below_drew (Below.refl _ _)))
 have HQ4 := vv (HQ3.out.below (below_drew (Below.refl _ _)))
 have HB4 : Hid (Below w.heap.size w w3.drew) := vv (below_drew HB3.out)
 obtain ⟨w4, hw4⟩ := yx (w3.drew)
 rw [<- hw4] at HP4 HR4 HQ4 HB4 ⊢
 clear hw4 hBv HP3 HR3 HQ3 HB3 HP2 HR2 HQ2 HB2 HR HQ HB
 obtain ⟨p0, p1, p2⟩ := blk3 HP4.out
 have c0 := HQ4.out.cell 0
 have c1 := HQ4.out.cell 1
 have cl := HQ4.out.lt
 have pl := HP4.out.lt
 simp only [List.getElem?_cons_zero, List.getElem?_cons_succ] at c0 c1
 obtain ⟨c, hc⟩ := yx (clsOf E x f)
 rw [<- hc]
 have hcc : c = 4 \/ c = 5 := by
  have := HHs.out
  rw [hc]; unfold clsOf
  rw [if_neg (by omega), if_pos this.1]
  split
  ·exact Or.inl rfl
  ·exact Or.inr rfl
 clear hc
 rcases hcc with rfl | rfl
 all_goals
  go_wp2_with (with_reducible refine wpList_store_blk rfl 30 (.tmp 4) (.tmp 65) rfl (w.heap.size + 1) [.bool false, .slice none 0 0, .int .i64 0] rfl rfl 30 _ HR4.out (by kernel_rfl) rfl rfl ?_)
  intro w8 hB hg8
  have HB8 := vv (only_below HB4.out hg8 HB4.out.size (Nat.le_succ _))
  obtain ⟨k0, k1, k2⟩ := Fms.blk3 hB
  have K := vv (And.intro k0 (And.intro k1 k2))
  clear hB hg8 k0 k1 k2
  go_wp2
  obtain ⟨k0, k1, k2⟩ := K.out
  exact bodyPost_ret (v := .tuple #[dyadV false none 0 0 0, .int .i64 8]) (by simp [results, Tryz.results22, go_sem, k0, k1, k2]) rfl ⟨rfl, HB8.out⟩
set_option maxRecDepth 100000 in
set_option maxHeartbeats 2000000 in
theorem finite_no (E F b : Nat) (w : World) (h1 : 2 <= E) (h2 : E <= 11) (h3 : 1 <= F) (h4 : F <= 52) (hb : b < 2 ^ (1 + E + F)) (hf : expOf E F b = R3.tw E - 1) (hs : Std w) :
  Calls Tryz.prog 52 #[fm E F, .int .u64 (b : Int)] w fun e w' => e = .returned (.tuple #[dyadV false none 0 0 0, .bool (negOf E F b), .int .i64 8]) /\ Below w.heap.size w w' := by
 have HSp := vv fun w => Split E F b w h1 h2 h3 h4 hb
 have HVa := vv fun w (hs : Std w) => Value_no E F b w h1 h2 h3 h4 hb hf hs
 obtain ⟨y, hy⟩ := yx (expOf E F b)
 obtain ⟨f, hfe⟩ := yx (fracOf F b)
 obtain ⟨neg, hneg⟩ := yx (negOf E F b)
 rw [<- hy, <- hfe, <- hneg] at HSp
 rw [<- hneg]
 obtain ⟨w0, hw0⟩ := yx ((w.alloc (.cells #[.int .i64 (E : Int), .int .i64 (F : Int)] 23)).alloc (.cells #[.bool false, .slice none 0 0, .int .i64 0] 30))
 have hB : Below w.heap.size w w0 := by rw [hw0]; exact ((Below.refl _ _).alloc (Nat.le_refl _) _).alloc (by simp) _
 have hR : Blk w0 (w.heap.size + 1) 30 [.bool false, .slice none 0 0, .int .i64 0] := by
  rw [hw0]
  have := Blk.made (w.alloc (.cells #[.int .i64 (E : Int), .int .i64 (F : Int)] 23)) 30 [.bool false, .slice none 0 0, .int .i64 0]
  rwa [World.size_alloc] at this
 have hQ : Blk w0 w.heap.size 23 [.int .i64 (E : Int), .int .i64 (F : Int)] := by
  rw [hw0]
  exact (Blk.made w 23 [.int .i64 (E : Int), .int .i64 (F : Int)]).alloc _
 have HW := vv hw0
 have HB := vv hB
 have HR := vv hR
 have HQ := vv hQ
 have HS := vv hs
 clear hy hfe hneg hw0 hB hR hQ hs h1 h2 h3 h4 hb hf
 go_enter Tryz.func52, Tryz.ntmps52
 go_wp2_with fail
 rw [<- HW.out]
 refine (HSp.out _).mono ?_
 rintro e w1 ⟨rfl, hB⟩
 have hb2 : Below w1.heap.size w1 (w1.alloc (.cells #[.bool neg, .int .i64 (y : Int), .int .u64 (f : Int)] 100)) := (Below.refl _ _).alloc (Nat.le_refl _) _
 obtain ⟨w2, hw2⟩ := yx (w1.alloc (.cells #[.bool neg, .int .i64 (y : Int), .int .u64 (f : Int)] 100))
 have hP2 : Blk w2 w1.heap.size 100 [.bool neg, .int .i64 (y : Int), .int .u64 (f : Int)] := by rw [hw2]; exact Blk.made w1 100 [.bool neg, .int .i64 (y : Int), .int .u64 (f : Int)]
 rw [<- hw2] at hb2
 have HW2 := vv hw2
 have HP2 := vv hP2
 have HLt := vv (HR.out.below hB).lt
 have HR2 := vv ((HR.out.below hB).below hb2)
 have HQ2 := vv ((HQ.out.below hB).below hb2)
 have HB2 := vv (HB.out.trans ((hB.trans (hb2.mono hB.size)).mono HB.out.size))
 have c0 := (HQ.out.below hB).cell 0
 have c1 := (HQ.out.below hB).cell 1
 have cl := (HQ.out.below hB).lt
 simp only [List.getElem?_cons_zero, List.getElem?_cons_succ] at c0 c1
 clear hB hb2 hw2 hP2
 go_wp2_with fail
 rw [<- HW2.out]
 refine (HVa.out _ (HS.out.below HB2.out)).mono ?_
 rintro e w3 ⟨rfl, hB⟩
 have HP3 := vv (HP2.out.below hB)
 have HR3 := vv (HR2.out.below hB)
 have HB3 := vn HB2 hB
 clear hB c0 c1 cl
 go_wp2_with (with_reducible refine wpList_store_blk rfl 30 (.tmp 4) (.tmp 22) rfl (w.heap.size + 1) [.bool false, .slice none 0 0, .int .i64 0] rfl rfl 30 _ HR3.out (by kernel_rfl) rfl rfl ?_)
 intro w4 hB hg4
 have HB4 := vv (only_below HB3.out hg4 HB3.out.size (Nat.le_succ _))
 have HP4 := vv (HP3.out.grown hg4 (fun e => by have := HLt.out; injection e; omega))
 have HR4 := vv hB
 clear hB hg4
 obtain ⟨p0, p1, p2⟩ := blk3 HP4.out
 obtain ⟨k0, k1, k2⟩ := blk3 HR4.out
 have f0 := HR4.out.fz 0
 have f1 := HR4.out.fz 1
 have f2 := HR4.out.fz 2
 have kl := HR4.out.lt
 have hne := HLt.out
 clear HP4 HP3 HR3 HQ2 HQ HP2 HR2 HSp HVa
 go_wp2_with fail
 go_region
 obtain ⟨w5, hw5⟩ := yx ((((w4.setCell ⟨w.heap.size + 1, 0, none⟩ (.bool false)).setCell ⟨w.heap.size + 1, 1, none⟩ (.slice none 0 0)).setCell ⟨w.heap.size + 1, 2, none⟩ (.int .i64 0)).drew)
 have hB5 : Hid (Below w.heap.size w w5) := vv (by
  rw [hw5]
  exact below_drew (((HB4.out.setCell (p := ⟨w.heap.size + 1, 0, none⟩) (Nat.le_succ _) _).setCell (p := ⟨w.heap.size + 1, 1, none⟩) (Nat.le_succ _) _).setCell (p := ⟨w.heap.size + 1, 2, none⟩) (Nat.le_succ _) _))
 have hR5 : Hid (Blk w5 (w.heap.size + 1) 30 [.bool false, .slice none 0 0, .int .i64 0]) := vv (by
  rw [hw5]
  exact (((HR4.out.set 0 (.bool false)).set 1 (.slice none 0 0)).set 2 (.int .i64 0)).below (below_drew (Below.refl _ _)))
 rw [<- hw5]
 clear hw5
 go_wp2
 obtain ⟨k0, k1, k2⟩ := blk3 hR5.out
 exact bodyPost_ret (v := .tuple #[dyadV false none 0 0 0, .bool neg, .int .i64 8]) (by simp [results, Tryz.results52, go_sem, k0, k1, k2]) rfl ⟨rfl, hB5.out⟩
set_option maxRecDepth 100000 in
set_option maxHeartbeats 2000000 in
theorem Print_no (E F b : Nat) (w : World) (h1 : 2 <= E) (h2 : E <= 11) (h3 : 1 <= F) (h4 : F <= 52) (hb : b < 2 ^ (1 + E + F)) (hf : expOf E F b = R3.tw E - 1) (hs : Std w) :
  Calls Tryz.prog 13 #[fm E F, .int .u64 b] w fun e w' => e = .returned (.tuple #[.string ⟨#[]⟩, .int .i64 8]) /\ Below w.heap.size w w' := by
 obtain ⟨w0, hw0⟩ := yx (w.alloc (.cells #[.int .i64 (E : Int), .int .i64 (F : Int)] 23))
 have hB : Below w.heap.size w w0 := by rw [hw0]; exact (Below.refl _ _).alloc (Nat.le_refl _) _
 have HFi := vv (finite_no E F b w0 h1 h2 h3 h4 hb hf (hs.below hB))
 obtain ⟨neg, hneg⟩ := yx (negOf E F b)
 rw [<- hneg] at HFi
 have HW := vv hw0
 have HB := vv hB
 clear hB hw0 hf hs hb h1 h2 h3 h4 hneg
 go_enter Tryz.func13, Tryz.ntmps13
 go_wp2_with fail
 rw [<- HW.out]
 refine HFi.out.mono ?_
 rintro e w1 ⟨rfl, hB⟩
 have HB2 := vn HB hB
 have HB3 : Hid (Below w.heap.size w (w1.alloc (.cells #[.bool false, .slice none 0 0, .int .i64 0] 30))) := vv (HB2.out.alloc HB2.out.size _)
 clear hB
 go_wp2
 go_ret2
 exact ⟨rfl, by first | exact HB3.out | exact HB2.out⟩
end Go.Proofs.YtddaldghlinokaaGreatDoor.Hx
