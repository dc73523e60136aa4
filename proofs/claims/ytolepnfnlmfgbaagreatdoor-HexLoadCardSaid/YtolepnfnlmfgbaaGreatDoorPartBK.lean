/- Lemmas. -/
import Derived.Test.YtolepnfnlmfgbaaGreatDoorPartBJ
import Derived.Test.YtolepnfnlmfgbaaGreatDoorPartBI
set_option linter.all false
namespace Go.Proofs.YtolepnfnlmfgbaaGreatDoor.R3
open Go Go.RowKit R5 Scn Fms
set_option maxRecDepth 100000 in
set_option maxHeartbeats 1000000 in
theorem Fits (E F : Int) (b : Nat) (w : World) (hb : b < 18446744073709551616) :
  Calls Tryz.prog 48 #[fm E F, .int .u64 (b : Int)] w fun e w' => e = .returned (.int .i64 (fitsErr E F b)) /\ Below w.heap.size w w' := by
 have HC := vv fun w => Check E F w
 have hQ : Blk (w.alloc (.cells #[.int .i64 E, .int .i64 F] 23)) w.heap.size 23 [.int .i64 E, .int .i64 F] := Blk.made w 23 [.int .i64 E, .int .i64 F]
 obtain ⟨w0, hw0⟩ := yx (w.alloc (.cells #[.int .i64 E, .int .i64 F] 23))
 have hC : Ctx w [(w.heap.size, 23, [.int .i64 E, .int .i64 F])] w0 := by rw [hw0]; exact (Ctx.nil w).new _ _ rfl
 have c0 := hC.get 0 rfl |>.cell 0
 have c1 := hC.get 0 rfl |>.cell 1
 have cl := hC.get 0 rfl |>.lt
 simp only [List.getElem?_cons_zero, List.getElem?_cons_succ] at c0 c1
 have HC0 := vv hC
 have HW := vv hw0
 clear hw0 hQ hC
 cases hok : R3.formOk E F with
 | false =>
  have HE : Hid (fitsErr E F b = 5) := vv (by unfold fitsErr; rw [hok]; rfl)
  rw [chk_no hok] at HC
  clear hok hb
  go_enter Tryz.func48, Tryz.ntmps48
  go_wp2_with fail
  rw [<- HW.out]
  go_wp2_with fail
  refine (HC.out _).mono ?_
  rintro e w1 ⟨rfl, hB⟩
  have HB := vv (HC0.out.step hB).low
  clear hB
  go_wp2
  go_ret
  exact ⟨retI HE.out.symm, HB.out⟩
 | true =>
  obtain ⟨ne, nf, rfl, rfl, h1, h2, h3, h4⟩ := formOk_nat hok
  rw [chk_ok hok] at HC
  have HP := vv fun w (h : ne + nf < 63) => Pow (1 + ne + nf) w (by omega)
  have h2i : (ne : Int) <= 11 := by omega
  have h4i : (nf : Int) <= 52 := by omega
  have hE : fitsErr (ne : Int) (nf : Int) b = if 2 ^ (1 + ne + nf) <= b then 6 else 0 := by
   unfold fitsErr
   rw [hok, if_pos rfl]
   by_cases h : 2 ^ (1 + ne + nf) <= b
   ·have : 1 + ne + nf < bl b := by
     rcases Nat.lt_or_ge (1 + ne + nf) (bl b) with k | k
     ·exact k
     ·have := lt_bl b
      have := Nat.pow_le_pow_right (show 0 < 2 by decide) k
      omega
    rw [if_pos h, if_pos (by omega)]
   ·have := bl_le (Nat.lt_of_not_le h)
    rw [if_neg h, if_neg (by omega)]
  have HE := vv hE
  have hw1 : IntKind.i64.wrap ((ne : Int) + (nf : Int)) = (ne : Int) + (nf : Int) := IntWalk.i64_in _ (by omega)
  have hw2 : IntKind.i64.wrap (1 + (ne : Int)) = 1 + (ne : Int) := IntWalk.i64_in _ (by omega)
  have hw3 : IntKind.i64.wrap (1 + (ne : Int) + (nf : Int)) = 1 + (ne : Int) + (nf : Int) := IntWalk.i64_in _ (by omega)
  have HWr := vv (And.intro hw1 (And.intro hw2 hw3))
  have HBb := vv hb
  have H12 := vv (And.intro h1 h3)
  clear hok hb hw1 hw2 hw3 hE h1 h2 h3 h4
  go_enter Tryz.func48, Tryz.ntmps48
  go_wp2_with fail
  rw [<- HW.out]
  go_wp2_with fail
  refine (HC.out _).mono ?_
  rintro e w1 ⟨rfl, hB⟩
  have HC1 := vv (HC0.out.step hB)
  clear hB c0 c1 cl
  have c0 := HC1.out.get 0 rfl |>.cell 0
  have c1 := HC1.out.get 0 rfl |>.cell 1
  have cl := HC1.out.get 0 rfl |>.lt
  simp only [List.getElem?_cons_zero, List.getElem?_cons_succ] at c0 c1
  by_cases hlt : ne + nf < 63
  ·have hti : (ne : Int) + (nf : Int) < 63 := by omega
   have HPw := vv fun w => HP.out w hlt
   obtain ⟨P, hP⟩ := yx (R3.tw (1 + ne + nf))
   rw [<- hP] at HPw
   have hPe : 2 ^ (1 + ne + nf) = P := hP.symm
   have HE2 : Hid (fitsErr (ne : Int) (nf : Int) b = if P <= b then 6 else 0) := vv (by rw [HE.out, hPe])
   have hcast : ((1 + ne + nf : Nat) : Int) = 1 + (ne : Int) + (nf : Int) := by omega
   rw [hcast] at HPw
   clear hP hPe hcast
   go_wp2_with fail
   refine (HPw.out _).mono ?_
   rintro e w' ⟨rfl, rfl⟩
   rcases Nat.lt_or_ge b P with hbP | hbP
   ·have t1 : ¬ (P : Int) <= (b : Int) := by omega
    have t2 : (b : Int) < (P : Int) := by omega
    have HE3 := vv (show fitsErr (ne : Int) (nf : Int) b = 0 by rw [HE2.out, if_neg (by omega)])
    go_wp2
    go_ret
    exact ⟨retI HE3.out.symm, HC1.out.low⟩
   ·have t1 : (P : Int) <= (b : Int) := by omega
    have HE3 := vv (show fitsErr (ne : Int) (nf : Int) b = 6 by rw [HE2.out, if_pos hbP])
    go_wp2
    go_ret
    exact ⟨retI HE3.out.symm, HC1.out.low⟩
  ·have hti : ¬ (ne : Int) + (nf : Int) < 63 := by omega
   have htj : (63 : Int) <= (ne : Int) + (nf : Int) := by omega
   have HE3 : Hid (fitsErr (ne : Int) (nf : Int) b = 0) := vv (by
    have e : ne + nf = 63 := by omega
    rw [HE.out, if_neg]
    have := HBb.out
    rw [show 1 + ne + nf = 64 by omega, show (2 : Nat) ^ 64 = 18446744073709551616 from rfl]
    omega)
   go_wp2
   go_ret
   exact ⟨retI HE3.out.symm, HC1.out.low⟩
end Go.Proofs.YtolepnfnlmfgbaaGreatDoor.R3
namespace Go.Proofs.YtolepnfnlmfgbaaGreatDoor.R12
open Go Go.RowKit R5 Scn Fms Hx
set_option maxRecDepth 100000 in
theorem Load_form (E F : Int) (s : ByteArray) (w : World) (h : R3.formOk E F = false) :
  Calls Tryz.prog 17 #[fm E F, .string s] w fun e w' => e = ldV 0 0 5 /\ Below w.heap.size w w' := by
 have HFm := vv fun w => R3.Check E F w
 rw [R3.chk_no h] at HFm
 obtain ⟨w0, hw0⟩ := yx (w.alloc (.cells #[.int .i64 E, .int .i64 F] 23))
 have hC : Ctx w [(w.heap.size, 23, [.int .i64 E, .int .i64 F])] w0 := by rw [hw0]; exact (Ctx.nil w).new _ _ rfl
 have c0 := hC.get 0 rfl |>.cell 0
 have c1 := hC.get 0 rfl |>.cell 1
 have cl := hC.get 0 rfl |>.lt
 simp only [List.getElem?_cons_zero, List.getElem?_cons_succ] at c0 c1
 have HC := vv hC
 have HW := vv hw0
 clear hw0 hC h
 go_enter Tryz.func17, Tryz.ntmps17
 go_wp2_with fail
 rw [<- HW.out]
 go_wp2_with fail
 refine (HFm.out _).mono ?_
 rintro e w1 ⟨rfl, hB⟩
 have HB1 := vv (HC.out.step hB).low
 clear hB
 go_wp2
 go_ret3
 exact ⟨rfl, HB1.out⟩
set_option maxRecDepth 100000 in
theorem Load_long (E F : Int) (s : ByteArray) (w : World) (h : R3.formOk E F = true) (hs : 65536 < s.size) (hs2 : s.size <= 4611686018427387904) :
  Calls Tryz.prog 17 #[fm E F, .string s] w fun e w' => e = ldV 0 0 3 /\ Below w.heap.size w w' := by
 have HFm := vv fun w => R3.Check E F w
 rw [R3.chk_ok h] at HFm
 have hsi : (65536 : Int) < (s.size : Int) := by omega
 have hsi2 : (s.size : Int) <= 4611686018427387904 := by omega
 obtain ⟨w0, hw0⟩ := yx (w.alloc (.cells #[.int .i64 E, .int .i64 F] 23))
 have hC : Ctx w [(w.heap.size, 23, [.int .i64 E, .int .i64 F])] w0 := by rw [hw0]; exact (Ctx.nil w).new _ _ rfl
 have c0 := hC.get 0 rfl |>.cell 0
 have c1 := hC.get 0 rfl |>.cell 1
 have cl := hC.get 0 rfl |>.lt
 simp only [List.getElem?_cons_zero, List.getElem?_cons_succ] at c0 c1
 have HC := vv hC
 have HW := vv hw0
 clear hw0 hC h hs hs2
 go_enter Tryz.func17, Tryz.ntmps17
 go_wp2_with fail
 rw [<- HW.out]
 go_wp2_with fail
 refine (HFm.out _).mono ?_
 rintro e w1 ⟨rfl, hB⟩
 have HB1 := vv (HC.out.step hB).low
 clear hB
 go_wp2
 go_ret3
 exact ⟨rfl, HB1.out⟩
theorem low_48 : ∀ c : Fin 256, (0 <= Lib.indexByte [48] (low c.val).toUInt8) ↔ c.val = 48 := by decide +kernel
theorem low_120 : ∀ c : Fin 256, (0 <= Lib.indexByte [120] (low c.val).toUInt8) ↔ (c.val = 120 \/ c.val = 88) := by decide +kernel
theorem fig_in {set s : ByteArray} {k c : Nat} (h : k < s.size) (hc : (s[k]'h).toNat = c) : fig set s k = Lib.indexByte set.data.toList (low c).toUInt8 := by
 unfold fig
 rw [if_pos h, <- hc]
 congr 3
 simp [List.getD_eq_getElem?_getD, h]
 rfl
theorem atL_zero {s : ByteArray} {c : Nat} (h : 0 < s.size) (hc : (s[0]'h).toNat = c) : 0 <= atL s 0 ↔ c = 48 := by
 unfold atL
 rw [if_pos rfl, fig_in h hc]
 have hl : c < 256 := by rw [<- hc]; exact (s[0]'h).toNat_lt
 exact low_48 ⟨c, hl⟩
theorem atL_one {s : ByteArray} {c : Nat} (h : 1 < s.size) (hc : (s[1]'h).toNat = c) : 0 <= atL s 1 ↔ (c = 120 \/ c = 88) := by
 unfold atL
 rw [if_neg (by decide), if_pos rfl, fig_in h hc]
 have hl : c < 256 := by rw [<- hc]; exact (s[1]'h).toNat_lt
 exact low_120 ⟨c, hl⟩
theorem atL_more {s : ByteArray} {k c : Nat} (h2 : 2 <= k) (h : k < s.size) (hc : (s[k]'h).toNat = c) : atL s k = wt c := by
 unfold atL
 rw [if_neg (by omega), if_neg (by omega), fig_in h hc]
 rfl
theorem atL_end {s : ByteArray} {k : Nat} (h : s.size <= k) : atL s k < 0 := by
 unfold atL fig
 split
 ·rw [if_neg (by omega)]; decide
 ·split
  ·rw [if_neg (by omega)]; decide
  ·rw [if_neg (by omega)]; decide
theorem worthL_wt {s : ByteArray} {k c : Nat} (h2 : 2 <= k) (h : k < s.size) (hc : (s[k]'h).toNat = c) : worthL s (k + 1 - 2) = worthL s (k - 2) * 16 + (wt c).toNat := by
 obtain ⟨j, rfl⟩ : ∃ j, k = j + 2 := ⟨k - 2, by omega⟩
 rw [show j + 2 + 1 - 2 = j + 1 by omega, show j + 2 - 2 = j by omega]
 show worthL s j * 16 + (fig figS s (2 + j)).toNat = _
 rw [fig_in (set := figS) (s := s) (k := 2 + j) (c := c) (by omega) (by rw [<- hc]; congr 2; omega)]
 rfl
def RlI (E F : Nat) (s : ByteArray) (d : Nat) (w : World) (x i : Value) (wr : World) : Prop :=
 ∃ k : Nat, k <= 2 + d /\ i = .int .i64 (k : Int) /\ x = .int .u64 ((worthL s (k - 2) : Nat) : Int) /\ (∀ j, j < k -> 0 <= atL s j) /\ Ctx w [(w.heap.size, 23, [.int .i64 (E : Int), .int .i64 (F : Int)])] wr
set_option maxRecDepth 100000 in
set_option maxHeartbeats 4000000 in
theorem Load (E F : Nat) (s : ByteArray) (w : World) (h1 : 2 <= E) (h2 : E <= 11) (h3 : 1 <= F) (h4 : F <= 52) (hs : s.size <= 65536) :
  Calls Tryz.prog 17 #[fm E F, .string s] w fun e w' => LdE E F s ((E + F + 4) / 4) e /\ Below w.heap.size w w' := by
 have hck := R3.chk_ok (Fms.formOk_in (E := E) (F := F) h1 h2 h3 h4)
 have HFm := vv fun w => R3.Check (E : Int) F w
 rw [hck] at HFm
 have HWd := vv fun w => wide E F w (by omega) (by omega)
 have HWo := vv fun c w hc => worth c w hc
 obtain ⟨d, hd⟩ := yx ((E + F + 4) / 4)
 rw [<- hd] at HWd ⊢
 have hdi : (d : Int) <= 16 := by omega
 have hsi : (s.size : Int) <= 65536 := by omega
 obtain ⟨w0, hw0⟩ := yx (w.alloc (.cells #[.int .i64 (E : Int), .int .i64 (F : Int)] 23))
 have hC : Ctx w [(w.heap.size, 23, [.int .i64 (E : Int), .int .i64 (F : Int)])] w0 := by rw [hw0]; exact (Ctx.nil w).new _ _ rfl
 have HC0 := vv hC
 have HW := vv hw0
 have c0 := hC.get 0 rfl |>.cell 0
 have c1 := hC.get 0 rfl |>.cell 1
 have cl := hC.get 0 rfl |>.lt
 simp only [List.getElem?_cons_zero, List.getElem?_cons_succ] at c0 c1
 clear hw0 hC hd hck h1 h2 h3 h4 hs
 go_enter Tryz.func17, Tryz.ntmps17
 go_wp2_with fail
 rw [<- HW.out]
 go_wp2_with fail
 refine (HFm.out _).mono ?_
 rintro e w1 ⟨rfl, hB⟩
 have HC1 := vv (HC0.out.step hB)
 clear hB c0 c1 cl HC0
 go_wp2
 go_loopw [7, 8] (fun x i wr => RlI E F s d w x i wr) (fun _ i _ => 2 + d - (intOf i).toNat)
 case atStart => exact ⟨0, by omega, rfl, rfl, fun j hj => absurd hj (by omega), HC1.out⟩
 case round =>
  obtain ⟨k, hk, rfl, rfl, hat, hC⟩ := hrel
  have HC := vv hC
  have HAt := vv hat
  have c0 := hC.get 0 rfl |>.cell 0
  have c1 := hC.get 0 rfl |>.cell 1
  have cl := hC.get 0 rfl |>.lt
  simp only [List.getElem?_cons_zero, List.getElem?_cons_succ] at c0 c1
  clear hC hat HC1
  obtain ⟨Bk, hBk⟩ := yx (worthL s (k - 2))
  have hwl := worthL_lt s (k - 2)
  rw [<- hBk] at hwl ⊢
  have HBk := vv hBk
  clear hBk
  by_cases hlt : k < 2 + d
  ·have t1 : (k : Int) < 2 + (d : Int) := by omega
   have hk18 : (k : Int) <= 17 := by omega
   have hp : 16 ^ (k - 2) <= 16 ^ 15 := Nat.pow_le_pow_right (by decide) (by omega)
   have hBb : (Bk : Int) * 16 <= 18446744073709551600 := by omega
   have HLt := vv hlt
   clear hp hwl hlt hk
   go_wp2_with fail
   refine (HWd.out _).mono ?_
   rintro e w2 ⟨rfl, hB⟩
   have HC2 := vv (HC.out.step hB)
   clear hB c0 c1 cl HC
   by_cases he : k = s.size
   ·have t2 : ((k : Int) == (s.size : Int)) = true := by rw [beq_iff_eq]; omega
    have HA : Hid (LdE E F s d (ldV 0 k 12)) := vv (Or.inl ⟨k, HLt.out, HAt.out, atL_end (by omega), rfl⟩)
    clear he
    go_wp2
    go_ret3
    exact ⟨HA.out, HC2.out.low⟩
   ·have t2 : ((k : Int) == (s.size : Int)) = false := by rw [beq_eq_false_iff_ne]; omega
    have hks : k < s.size := by
     rcases Nat.lt_or_ge k s.size with h | h
     ·exact h
     ·exfalso
      have := HAt.out (k - 1) (by omega)
      have := atL_end (s := s) (k := k - 1) (by omega)
      omega
    have hksi : (k : Int) < (s.size : Int) := by omega
    obtain ⟨c, hc⟩ : ∃ c, (s[k]'hks).toNat = c := ⟨_, rfl⟩
    have hcb : c < 256 := by rw [<- hc]; exact (s[k]'hks).toNat_lt
    have hcbi : (c : Int) < 256 := by omega
    clear he
    rcases (by omega : k = 0 \/ k = 1 \/ 2 <= k) with rfl | rfl | hk2
    ·have HZ := vv (atL_zero hks hc)
     by_cases h48 : c = 48
     ·have t3 : ((c : Int) != 48) = false := by rw [bne_eq_false_iff_eq]; omega
      have HN : Hid (0 <= atL s 0) := vv (HZ.out.2 h48)
      clear h48
      go_wp2
      go_roundw
      case rel => exact ⟨1, by omega, by go_num, congrArg (fun z : Nat => Value.int .u64 (z : Int)) HBk.out, fun j hj => (by have e : j = 0 := (by omega); subst e; exact HN.out), HC2.out⟩
      case measure => simp [intOf]
     ·have t3 : ((c : Int) != 48) = true := by rw [bne_iff_ne]; omega
      have HA : Hid (LdE E F s d (ldV 0 0 12)) := vv (Or.inl ⟨0, HLt.out, HAt.out, by
       have := HZ.out
       omega, rfl⟩)
      clear h48
      go_wp2
      go_ret3
      exact ⟨HA.out, HC2.out.low⟩
    ·have HZ := vv (atL_one hks hc)
     by_cases h120 : c = 120 \/ c = 88
     ·have HN : Hid (0 <= atL s 1) := vv (HZ.out.2 h120)
      rcases h120 with h120 | h88
      ·have t3 : ((c : Int) != 120) = false := by rw [bne_eq_false_iff_eq]; omega
       clear h120
       go_wp2
       go_roundw
       case rel => exact ⟨2, by omega, by go_num, congrArg (fun z : Nat => Value.int .u64 (z : Int)) HBk.out, fun j hj => (by
        rcases (by omega : j = 0 \/ j = 1) with e | e
        ·subst e; exact HAt.out 0 (by omega)
        ·subst e; exact HN.out), HC2.out⟩
       case measure => simp [intOf]
      ·have t3 : ((c : Int) != 120) = true := by rw [bne_iff_ne]; omega
       have t4 : ((c : Int) != 88) = false := by rw [bne_eq_false_iff_eq]; omega
       clear h88
       go_wp2
       go_roundw
       case rel => exact ⟨2, by omega, by go_num, congrArg (fun z : Nat => Value.int .u64 (z : Int)) HBk.out, fun j hj => (by
        rcases (by omega : j = 0 \/ j = 1) with e | e
        ·subst e; exact HAt.out 0 (by omega)
        ·subst e; exact HN.out), HC2.out⟩
       case measure => simp [intOf]
     ·have t3 : ((c : Int) != 120) = true := by rw [bne_iff_ne]; omega
      have t4 : ((c : Int) != 88) = true := by rw [bne_iff_ne]; omega
      have HA : Hid (LdE E F s d (ldV 0 1 12)) := vv (Or.inl ⟨1, HLt.out, HAt.out, by
       have := HZ.out
       omega, rfl⟩)
      clear h120
      go_wp2
      go_ret3
      exact ⟨HA.out, HC2.out.low⟩
    ·have HZ := vv (atL_more hk2 hks hc)
     have HWt := vv (worthL_wt hk2 hks hc)
     have HWc := vv fun w => HWo.out c w hcb
     have hk2i : (2 : Int) <= (k : Int) := by omega
     have t5 : ((k : Int) == 0) = false := by rw [beq_eq_false_iff_ne]; omega
     have t6 : ((k : Int) == 1) = false := by rw [beq_eq_false_iff_ne]; omega
     have hwb := wt_lt c
     obtain ⟨z, hz⟩ := yx (wt c)
     rw [<- hz] at HWc hwb
     have HZe := vv hz
     have HK2 := vv hk2
     clear hz
     by_cases hz0 : z < 0
     ·have HA : Hid (LdE E F s d (ldV 0 k 12)) := vv (Or.inl ⟨k, HLt.out, HAt.out, by rw [HZ.out, <- HZe.out]; exact hz0, rfl⟩)
      go_wp2_with fail
      refine (HWc.out _).mono ?_
      rintro e w' ⟨rfl, rfl⟩
      go_wp2
      go_ret3
      exact ⟨HA.out, HC2.out.low⟩
     ·have HN : Hid (0 <= atL s k) := vv (by rw [HZ.out, <- HZe.out]; omega)
      obtain ⟨n, rfl⟩ : ∃ n : Nat, z = (n : Int) := ⟨z.toNat, by omega⟩
      have HV : Hid (((worthL s (k + 1 - 2) : Nat) : Int) = (Bk : Int) * 16 + (n : Int)) := vv (by
       rw [HWt.out, <- HBk.out, <- HZe.out]
       omega)
      clear hk2
      go_wp2_with fail
      refine (HWc.out _).mono ?_
      rintro e w' ⟨rfl, rfl⟩
      go_wp2_with fail
      refine (HWc.out _).mono ?_
      rintro e w' ⟨rfl, rfl⟩
      go_wp2
      go_roundw
      case rel => exact ⟨k + 1, HLt.out, by go_num, congrArg (Value.int .u64) HV.out.symm, fun j hj => (by
       rcases Nat.lt_or_ge j k with h | h
       ·exact HAt.out j h
       ·have e : j = k := by omega
        subst e; exact HN.out), HC2.out⟩
      case measure => simp [intOf]; have := HLt.out; omega
  ·obtain rfl : k = 2 + d := by omega
   have t1 : ¬ (((2 + d : Nat) : Int)) < 2 + (d : Int) := by omega
   rw [show 2 + d - 2 = d by omega] at hwl HBk
   have hp : 16 ^ d <= 16 ^ 16 := Nat.pow_le_pow_right (by decide) (by omega)
   have HFi := vv fun w => R3.Fits E F Bk w (by omega)
   obtain ⟨q, hq⟩ := yx (fitsErr E F Bk)
   rw [<- hq] at HFi
   have HQe := vv hq
   clear hp hwl hlt hk hq
   go_wp2_with fail
   refine (HWd.out _).mono ?_
   rintro e w2 ⟨rfl, hB⟩
   have HC2 := vv (HC.out.step hB)
   clear hB c0 c1 cl HC
   have c0 := HC2.out.get 0 rfl |>.cell 0
   have c1 := HC2.out.get 0 rfl |>.cell 1
   have cl := HC2.out.get 0 rfl |>.lt
   simp only [List.getElem?_cons_zero, List.getElem?_cons_succ] at c0 c1
   go_wp2_with fail
   refine (HWd.out _).mono ?_
   rintro e w3 ⟨rfl, hB⟩
   have HC3 := vv (HC2.out.step hB)
   clear hB c0 c1 cl HC2
   have c0 := HC3.out.get 0 rfl |>.cell 0
   have c1 := HC3.out.get 0 rfl |>.cell 1
   have cl := HC3.out.get 0 rfl |>.lt
   simp only [List.getElem?_cons_zero, List.getElem?_cons_succ] at c0 c1
   rcases Nat.lt_or_ge (2 + d) s.size with hl | hl
   ·have t2 : 2 + (d : Int) < (s.size : Int) := by omega
    have HA : Hid (LdE E F s d (.returned (.tuple #[.int .u64 0, .int .i64 (2 + (d : Int)), .int .i64 12]))) := vv (Or.inr ⟨HAt.out, Or.inl ⟨hl, by unfold ldV; rw [show ((2 + d : Nat) : Int) = 2 + (d : Int) by omega]; rfl⟩⟩)
    go_wp2_with fail
    refine (HWd.out _).mono ?_
    rintro e w4 ⟨rfl, hB⟩
    have HC4 := vv (HC3.out.step hB)
    clear hB
    go_wp2
    go_ret3
    exact ⟨HA.out, HC4.out.low⟩
   ·have t2 : ¬ 2 + (d : Int) < (s.size : Int) := by omega
    have t3 : (s.size : Int) <= 2 + (d : Int) := by omega
    by_cases hq0 : q = 0
    ·have HA : Hid (LdE E F s d (ldV Bk 0 0)) := vv (Or.inr ⟨HAt.out, Or.inr (Or.inr ⟨hl, by rw [<- HBk.out, <- HQe.out]; exact hq0, by rw [HBk.out]⟩)⟩)
     have t4 : (q != 0) = false := by rw [hq0]; rfl
     go_wp2_with fail
     refine (HFi.out _).mono ?_
     rintro e w4 ⟨rfl, hB⟩
     have HC4 := vv (HC3.out.step hB)
     clear hB
     go_wp2
     go_ret3
     exact ⟨HA.out, HC4.out.low⟩
    ·have HA : Hid (LdE E F s d (ldV 0 2 6)) := vv (Or.inr ⟨HAt.out, Or.inr (Or.inl ⟨hl, by rw [<- HBk.out, <- HQe.out]; exact hq0, rfl⟩)⟩)
     have t4 : (q != 0) = true := by rw [bne_iff_ne]; exact hq0
     go_wp2_with fail
     refine (HFi.out _).mono ?_
     rintro e w4 ⟨rfl, hB⟩
     have HC4 := vv (HC3.out.step hB)
     clear hB
     go_wp2
     go_ret3
     exact ⟨HA.out, HC4.out.low⟩
end Go.Proofs.YtolepnfnlmfgbaaGreatDoor.R12
namespace Go.Proofs.YtolepnfnlmfgbaaGreatDoor.Hx
open Go Go.RowKit R5 Scn Fms Exa
theorem LdE.uniq {E F : Nat} {s : ByteArray} {d : Nat} {e e' : Ending} (h : LdE E F s d e) (k : LdE E F s d e') : e = e' := by
 rcases h with ⟨i, hi, ha, hn, rfl⟩ | ⟨ha, h⟩
 ·rcases k with ⟨j, hj, hb, hm, rfl⟩ | ⟨hb, -⟩
  ·have : i = j := by
    rcases Nat.lt_trichotomy i j with h | h | h
    ·have := hb i h; omega
    ·exact h
    ·have := ha j h; omega
   rw [this]
  ·have := hb i hi; omega
 ·rcases k with ⟨j, hj, hb, hm, rfl⟩ | ⟨hb, k⟩
  ·have := ha j hj; omega
  ·rcases h with ⟨h1, rfl⟩ | ⟨h1, h2, rfl⟩ | ⟨h1, h2, rfl⟩ <;> rcases k with ⟨k1, rfl⟩ | ⟨k1, k2, rfl⟩ | ⟨k1, k2, rfl⟩ <;> first | rfl | omega
abbrev awP : ByteArray := ⟨#[48, 120, 49, 46, 56, 112, 45, 50, 51]⟩
abbrev awQ : ByteArray := ⟨#[48, 120, 49, 112, 49]⟩
abbrev awR : ByteArray := ⟨#[48, 120, 49, 112, 45, 50, 53]⟩
abbrev awD : ByteArray := ⟨#[48, 120, 55, 101, 48, 49]⟩
abbrev awL : ByteArray := ⟨#[48, 120, 55, 103, 48, 49]⟩
theorem aw_print (w : World) (hb : Bg w) (ht : Ten w) :
  Calls Tryz.prog 19 #[fm 5 10, .int .u64 3] w fun e w' => e = .returned (.tuple #[.string awP, .int .i64 0]) /\ Below w.heap.size w w' := by
 have h := Print1 5 10 3 3 false false (-24) w (by decide) ht (by decide) (by decide) (by decide) (by decide) (fun w' h => by
  have k := finite 5 10 3 w' (by decide) (by decide) (by decide) (by decide) (by decide) (by decide) (hb.below h).std 3 (-24) false (by decide +kernel) (by decide +kernel) (by decide +kernel)
  rwa [show negOf 5 10 3 = false by decide +kernel] at k)
 rw [show (⟨(printL false 3 (-24)).toArray⟩ : ByteArray) = awP by decide +kernel] at h
 exact h
theorem aw_places (w : World) (hb : Bg w) (ht : Ten w) :
  Calls Tryz.prog 21 #[fm 11 52, .int .u64 4611404543450677248, .int .i64 0, .int .u8 0] w fun e w' => e = .returned (.tuple #[.string awQ, .int .i64 0]) /\ Below w.heap.size w w' := by
 have h := Places1 11 52 4611404543450677248 31 false false (-4) 0 0 w (by decide) ht hb.std (by decide) (by decide) (by decide) (by decide) (by decide) (by decide) (by decide +kernel) (fun w' h => by
  have k := finite 11 52 4611404543450677248 w' (by decide) (by decide) (by decide) (by decide) (by decide) (by decide +kernel) (hb.below h).std 31 (-4) false (by decide +kernel) (by decide +kernel) (by decide +kernel)
  rwa [show negOf 11 52 4611404543450677248 = false by decide +kernel] at k)
 rw [show (⟨(plcL false false 31 (-4) 0 0).toArray⟩ : ByteArray) = awQ by decide +kernel] at h
 exact h
theorem aw_dump (w : World) (hb : Bg w) :
  Calls Tryz.prog 18 #[fm 5 10, .int .u64 32257] w fun e w' => e = .returned (.tuple #[.string awD, .int .i64 0]) /\ Below w.heap.size w w' := by
 have h := Dump 5 10 32257 w (by decide) (by decide) (by decide) (by decide) (by decide)
 rw [show (⟨(dumpL 5 10 32257).toArray⟩ : ByteArray) = awD by decide +kernel] at h
 exact h
theorem aw_load (w : World) :
  Calls Tryz.prog 16 #[fm 5 10, .string awL] w fun e w' => e = ldV 0 3 12 /\ Below w.heap.size w w' := by
 have h := Load 5 10 awL w (by decide) (by decide) (by decide) (by decide) (by decide)
 refine h.mono fun e w' h => ⟨h.1.uniq (Or.inl ⟨3, by decide, ?_, by decide +kernel, rfl⟩), h.2⟩
 intro j hj
 rcases (by omega : j = 0 \/ j = 1 \/ j = 2) with rfl | rfl | rfl <;> decide +kernel
theorem aw_read (w : World) (hb : Bg w) :
  Calls Tryz.prog 20 #[fm 5 10, .string awR, .int .u8 3] w (RdP 1 5 w) := by
 have hr : read awR = (⟨2, false, false, [], 0, false, 1, -25, 0⟩, 0, 0) := by
  have h := read_text false 1 0 (-25) (by decide) (by decide) (by decide) (by decide)
  rw [show bo (txtL false (hexL 1 (0 + 1)) (-25)) = awR by decide +kernel] at h
  rw [h]
  unfold hexNum
  rw [if_neg (by decide)]
  have e1 : 1 / 2 ^ tz 1 = 1 := by decide +kernel
  have e2 : clip (-25 - 4 * (0 : Nat) + (tz 1 : Int)) = -25 := by decide +kernel
  rw [e1]
  congr 2
 have h := Read_ok 4 10 awR 3 ⟨2, false, false, [], 0, false, 1, -25, 0⟩ w (by decide) (by decide) (by decide) (by decide) (by decide) hb hr rfl (by decide +kernel) (by decide +kernel)
 rw [show signedS (4 + 1) 10 false false 3 (1 * p2 (-25)) (p2 (-(-25))) = (1, 5) by decide +kernel] at h
 exact h
theorem half (w : World) : Calls Tryz.prog 41 #[] w fun e w' => e = .returned (fm 5 10) /\ Below w.heap.size w w' := by
 have hb : Below w.heap.size w (w.alloc (.cells #[.int .i64 5, .int .i64 10] 23)) := (Below.refl _ _).alloc (Nat.le_refl _) _
 have HB := vv hb
 clear hb
 go_enter Tryz.func41, Tryz.ntmps41
 go_wp2
 exact bodyPost_ret (v := fm 5 10) (by simp [results, Tryz.results41, go_sem]) rfl ⟨rfl, HB.out⟩
set_option maxRecDepth 100000 in
set_option maxHeartbeats 2000000 in
theorem awake (w : World) (hb : Bg w) (ht : Ten w) :
  Calls Tryz.prog 15 #[] w fun e w' => e = .returned (.bool true) /\ Below w.heap.size w w' := by
 have HPr := vv fun w' (h : Below w.heap.size w w') => aw_print w' (hb.below h) (ht.below h)
 have HPl := vv fun w' (h : Below w.heap.size w w') => aw_places w' (hb.below h) (ht.below h)
 have HRe := vv fun w' (h : Below w.heap.size w w') => aw_read w' (hb.below h)
 have HDu := vv fun w' (h : Below w.heap.size w w') => aw_dump w' (hb.below h)
 clear hb ht
 go_enter Tryz.func15, Tryz.ntmps15
 go_wp2_with fail
 refine (half w).mono ?_
 rintro e w1 ⟨rfl, hB⟩
 have HB1 := vv hB
 clear hB
 go_wp2_with fail
 refine (HPr.out _ HB1.out).mono ?_
 rintro e w2 ⟨rfl, hB⟩
 have HB2 := vn HB1 hB
 clear hB
 go_wp2_with fail
 refine (HPl.out _ HB2.out).mono ?_
 rintro e w3 ⟨rfl, hB⟩
 have HB3 := vn HB2 hB
 clear hB
 go_wp2_with fail
 refine (half _).mono ?_
 rintro e w4 ⟨rfl, hB⟩
 have HB4 := vn HB3 hB
 clear hB
 go_wp2_with fail
 refine (HRe.out _ HB4.out).mono ?_
 rintro e w5 ⟨rfl, hB⟩
 have HB5 := vn HB4 hB
 clear hB
 go_wp2_with fail
 refine (half _).mono ?_
 rintro e w6 ⟨rfl, hB⟩
 have HB6 := vn HB5 hB
 clear hB
 go_wp2_with fail
 refine (HDu.out _ HB6.out).mono ?_
 rintro e w7 ⟨rfl, hB⟩
 have HB7 := vn HB6 hB
 clear hB
 go_wp2_with fail
 refine (half _).mono ?_
 rintro e w8 ⟨rfl, hB⟩
 have HB8 := vn HB7 hB
 clear hB
 go_wp2_with fail
 refine (aw_load _).mono ?_
 rintro e w9 ⟨rfl, hB⟩
 have HB9 := vn HB8 hB
 clear hB
 go_wp2
 go_ret
 exact ⟨rfl, HB9.out⟩
theorem least_bad (s : ByteArray) : ∀ n, (∀ j, j < n -> 0 <= atL s j) \/ ∃ i, i < n /\ (∀ j, j < i -> 0 <= atL s j) /\ atL s i < 0
 | 0 => .inl fun j h => absurd h (by omega)
 | n + 1 => by
  rcases least_bad s n with h | ⟨i, h1, h2, h3⟩
  ·by_cases hn : 0 <= atL s n
   ·exact .inl fun j hj => by
     rcases Nat.lt_or_ge j n with k | k
     ·exact h j k
     ·obtain rfl : j = n := by omega
      exact hn
   ·exact .inr ⟨n, by omega, h, by omega⟩
  ·exact .inr ⟨i, by omega, h2, h3⟩
theorem LdE_some (E F : Nat) (s : ByteArray) (d : Nat) : ∃ (r i : Nat) (c : Int), LdE E F s d (ldV r i c) := by
 rcases least_bad s (2 + d) with h | ⟨i, h1, h2, h3⟩
 ·rcases Nat.lt_or_ge (2 + d) s.size with k | k
  ·exact ⟨_, _, _, .inr ⟨h, .inl ⟨k, rfl⟩⟩⟩
  ·by_cases hq : fitsErr E F (worthL s d) = 0
   ·exact ⟨_, _, _, .inr ⟨h, .inr (.inr ⟨k, hq, rfl⟩)⟩⟩
   ·exact ⟨_, _, _, .inr ⟨h, .inr (.inl ⟨k, hq, rfl⟩)⟩⟩
 ·exact ⟨_, _, _, .inl ⟨i, h1, h2, h3, rfl⟩⟩
theorem loads (E F : Int) (s : ByteArray) (hs : s.size <= 4611686018427387904) : ∃ (r i : Nat) (c : Int),
  (∀ w, Calls Tryz.prog 16 #[fm E F, .string s] w fun e w' => e = ldV r i c /\ Below w.heap.size w w') /\ (∀ w, Calls Tryz.prog 17 #[fm E F, .string s] w fun e w' => e = ldV r i c /\ Below w.heap.size w w') := by
 cases hok : R3.formOk E F with
 | false => exact ⟨0, 0, 5, fun w => Load_form E F s w hok, fun w => R12.Load_form E F s w hok⟩
 | true =>
  rcases Nat.lt_or_ge 65536 s.size with h | h
  ·exact ⟨0, 0, 3, fun w => Load_long E F s w hok h hs, fun w => R12.Load_long E F s w hok h hs⟩
  ·obtain ⟨e, f, rfl, rfl, h1, h2, h3, h4⟩ := R3.formOk_nat hok
   obtain ⟨r, i, c, hL⟩ := LdE_some e f s ((e + f + 4) / 4)
   exact ⟨r, i, c, fun w => (Load e f s w h1 h2 h3 h4 h).mono fun _ _ k => ⟨k.1.uniq hL, k.2⟩, fun w => (R12.Load e f s w h1 h2 h3 h4 h).mono fun _ _ k => ⟨k.1.uniq hL, k.2⟩⟩
set_option maxRecDepth 100000 in
set_option maxHeartbeats 2000000 in
theorem HexLoad (E F : Int) (s : ByteArray) (w : World) (hb : Bg w) (ht : Ten w) (hs : s.size <= 4611686018427387904) :
  Calls Tryz.prog 4 #[fm E F, .string s] w fun e w' => e = .returned (.bool true) /\ Below w.heap.size w w' := by
 obtain ⟨r, i, c, hp, hd⟩ := loads E F s hs
 obtain ⟨w0, hw0⟩ := yx (w.alloc (.cells #[.int .i64 E, .int .i64 F] 23))
 have hC : Ctx w [(w.heap.size, 23, [.int .i64 E, .int .i64 F])] w0 := by rw [hw0]; exact (Ctx.nil w).new _ _ rfl
 have HAw := vv (awake w0 (hb.below hC.low) (ht.below hC.low))
 have HC := vv hC
 have HW := vv hw0
 have HP := vv hp
 have HD := vv hd
 clear hb ht hC hw0 hp hd hs
 go_enter Tryz.func4, Tryz.ntmps4
 go_wp2_with fail
 rw [<- HW.out]
 refine HAw.out.mono ?_
 rintro e w1 ⟨rfl, hB⟩
 have HC1 := vv (HC.out.step hB)
 have c0 := HC1.out.get 0 rfl |>.cell 0
 have c1 := HC1.out.get 0 rfl |>.cell 1
 have cl := HC1.out.get 0 rfl |>.lt
 simp only [List.getElem?_cons_zero, List.getElem?_cons_succ] at c0 c1
 clear hB
 go_wp2_with fail
 refine (HP.out _).mono ?_
 rintro e w2 ⟨rfl, hB⟩
 have HC2 := vv (HC1.out.step hB)
 clear hB c0 c1 cl
 have c0 := HC2.out.get 0 rfl |>.cell 0
 have c1 := HC2.out.get 0 rfl |>.cell 1
 have cl := HC2.out.get 0 rfl |>.lt
 simp only [List.getElem?_cons_zero, List.getElem?_cons_succ] at c0 c1
 go_wp2_with fail
 refine (HD.out _).mono ?_
 rintro e w3 ⟨rfl, hB⟩
 have HC3 := vv (HC2.out.step hB)
 clear hB c0 c1 cl
 go_wp2
 go_ret
 exact ⟨rfl, HC3.out.low⟩
end Go.Proofs.YtolepnfnlmfgbaaGreatDoor.Hx
