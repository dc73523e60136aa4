/- Lemmas. -/
import Derived.Test.YtddaldghlinokaaGreatDoorPartBL
import Derived.Test.YtddaldghlinokaaGreatDoorPartBH
set_option linter.all false
namespace Go.Proofs.YtddaldghlinokaaGreatDoor.Hx
open Go Go.RowKit R5 Scn Fms Exa
theorem hexL_nought : ∀ k, hexL 0 k = List.replicate k 48
 | 0 => rfl
 | k + 1 => by
  show hx (0 / 16 ^ k % 16) :: hexL 0 k = _
  rw [Nat.zero_div, hexL_nought k, List.replicate_succ]
  rfl
set_option maxRecDepth 100000 in
set_option maxHeartbeats 8000000 in
theorem Places0 (E F b : Nat) (neg g : Bool) (x : Int) (places mode : Nat) (w : World) (hb : b < 18446744073709551616) (hp : Ten w) (hpl : places <= 2000) (hmd : mode <= 4)
  (hfit : fitsErr E F b = 0) (hF : ∀ w', Below w.heap.size w w' -> Calls Tryz.prog 52 #[fm E F, .int .u64 (b : Int)] w' (FinP neg g 0 x w')) :
  Calls Tryz.prog 15 #[fm E F, .int .u64 b, .int .i64 (places : Int), .int .u8 (mode : Int)] w fun e w' => e = .returned (.tuple #[.string ⟨(plcL neg g 0 x mode places).toArray⟩, .int .i64 0]) /\ Below w.heap.size w w' := by
 have HFt' := vv fun w => Fms.Fits E F b w hb
 rw [hfit] at HFt'
 have hL : plcL neg g 0 x mode places = txtL neg (List.replicate (places + 1) 48) 0 := by
  unfold plcL
  rw [if_pos rfl, hexL_nought]
 rw [hL]
 have HTx := vv fun w' (h : Below w.heap.size w w') => text neg (List.replicate (places + 1) 48) 0 w' (by simp) (by rw [List.length_replicate]; omega) (by decide) (by decide) (hp.below h)
 have HRp : Hid (∀ w', Calls Tryz.prog 67 #[.string Rpt.nought, .int .i64 (1 + (places : Int))] w' fun e w'' => e = .returned (.string ⟨(List.replicate (places + 1) 48).toArray⟩) /\ Below w'.heap.size w' w'') := vv fun w' => by
  have h := Rpt.Repeat (places + 1) w' (by omega) (by omega)
  rwa [show ((places + 1 : Nat) : Int) = 1 + (places : Int) by omega] at h
 obtain ⟨t, ht⟩ : ∃ t : ByteArray, t = ⟨(List.replicate (places + 1) 48).toArray⟩ := ⟨_, rfl⟩
 obtain ⟨r, hr⟩ : ∃ r : ByteArray, r = ⟨(txtL neg (List.replicate (places + 1) 48) 0).toArray⟩ := ⟨_, rfl⟩
 rw [<- ht, <- hr] at HTx
 rw [<- ht] at HRp
 rw [<- hr]
 have hpli : (places : Int) <= 2000 := by omega
 have hmi : (mode : Int) <= 4 := by omega
 have dm : decide ((4 : Int) < (mode : Int)) = false := decide_eq_false (by omega)
 obtain ⟨w0, hw0⟩ := yx (w.alloc (.cells #[.int .i64 (E : Int), .int .i64 (F : Int)] 23))
 have hC : Ctx w [(w.heap.size, 23, [.int .i64 (E : Int), .int .i64 (F : Int)])] w0 := by rw [hw0]; exact (Ctx.nil w).new _ _ rfl
 have HW := vv hw0
 have HC := vv hC
 have HFi := vv hF
 have c0 := hC.get 0 rfl |>.cell 0
 have c1 := hC.get 0 rfl |>.cell 1
 have cl := hC.get 0 rfl |>.lt
 simp only [List.getElem?_cons_zero, List.getElem?_cons_succ] at c0 c1
 clear hw0 hC hF hp hpl hmd hfit hb ht hr hL
 go_enter Tryz.func15, Tryz.ntmps15
 go_wp2_with fail
 rw [<- HW.out]
 go_wp2_with fail
 refine (HFt'.out _).mono ?_
 rintro e w1 ⟨rfl, hB⟩
 have HC1 := vv (HC.out.step hB)
 clear hB c0 c1 cl HC
 have c0 := HC1.out.get 0 rfl |>.cell 0
 have c1 := HC1.out.get 0 rfl |>.cell 1
 have cl := HC1.out.get 0 rfl |>.lt
 simp only [List.getElem?_cons_zero, List.getElem?_cons_succ] at c0 c1
 go_wp2_with fail
 refine (HFi.out _ HC1.out.low).mono ?_
 rintro e w2 ⟨A, m, rfl, hA, _, hB⟩
 have hm : m = 0 := hA.len.symm
 subst hm
 have hb2 : Below w2.heap.size w2 (w2.alloc (.cells #[.bool g, .slice A 0 0, .int .i64 x] 30)) := (Below.refl _ _).alloc (Nat.le_refl _) _
 have HC2 := vv (HC1.out.step (hB.trans (hb2.mono hB.size)))
 clear hA hB hb2 c0 c1 cl HC1
 go_wp2_with fail
 refine (HRp.out _).mono ?_
 rintro e w3 ⟨rfl, hB⟩
 have HC3 := vv (HC2.out.step hB)
 clear hB
 go_wp2_with fail
 refine (HTx.out _ HC3.out.low).mono ?_
 rintro e w4 ⟨rfl, hB⟩
 have HC4 := vv (HC3.out.step hB)
 clear hB
 go_wp2
 go_ret2
 exact ⟨rfl, HC4.out.low⟩
end Go.Proofs.YtddaldghlinokaaGreatDoor.Hx
