/- Lemmas. -/
import Derived.Test.YtddaldghlinokaaGreatDoorPartBV
set_option linter.all false
namespace Go.Proofs.YtddaldghlinokaaGreatDoor.Hx
open Go Go.RowKit R5 Scn Fms Exa
theorem double_ (w : World) : Calls Tryz.prog 21 #[] w fun e w' => e = .returned (fm 11 52) /\ Below w.heap.size w w' := by
 have hb : Below w.heap.size w (w.alloc (.cells #[.int .i64 11, .int .i64 52] 23)) := (Below.refl _ _).alloc (Nat.le_refl _) _
 have HB := vv hb
 clear hb
 go_enter Tryz.func21, Tryz.ntmps21
 go_wp2
 exact bodyPost_ret (v := fm 11 52) (by simp [results, Tryz.results21, go_sem]) rfl ⟨rfl, HB.out⟩
set_option maxRecDepth 100000 in
set_option maxHeartbeats 4000000 in
theorem btw_inf (b : Nat) (places : Int) (w : World) (hg : Bg w) (ht : Ten w) (hb : b < 2 ^ (1 + 11 + 52)) (hf : expOf 11 52 b = R3.tw 11 - 1) :
  Calls Tryz.prog 6 #[.int .u64 b, .int .i64 places] w fun e w' => e = .returned (.bool true) /\ Below w.heap.size w w' := by
 have HAw := vv (awake w hg ht)
 have HVa : Hid (∀ w', Below w.heap.size w w' -> Calls Tryz.prog 22 #[fm 11 52, .int .u64 (b : Int)] w' fun e w'' => e = .returned (.tuple #[dyadV false none 0 0 0, .int .i64 8]) /\ Below w'.heap.size w' w'') :=
  vv fun w' h => Value_no 11 52 b w' (by decide) (by decide) (by decide) (by decide) hb hf (hg.below h).std
 clear hg ht hb hf
 have HX : Hid (places < 0 \/ (0 <= places /\ 14 < places) \/ (0 <= places /\ places <= 14)) := vv (by omega)
 rcases HX.out with h | ⟨h, h'⟩ | ⟨h, h'⟩
 case' inr.inl => have hnl : ¬ places < 0 := by omega
 case' inr.inr => have hnl : ¬ places < 0 := by omega
 case' inr.inr => have hnm : ¬ 14 < places := by omega
 all_goals
  go_enter Tryz.func6, Tryz.ntmps6
  go_wp2_with fail
  refine HAw.out.mono ?_
  rintro e w1 ⟨rfl, hB⟩
  have HC1 := vv ((Ctx.nil w).step hB)
  clear hB
  go_wp2_with fail
  refine (double_ _).mono ?_
  rintro e w2 ⟨rfl, hB⟩
  have HC2 := vv (HC1.out.step hB)
  clear hB
  go_wp2_with fail
  have hb3 : Below w2.heap.size w2 (w2.alloc (.cells #[.int .i64 11, .int .i64 52] 23)) := (Below.refl _ _).alloc (Nat.le_refl _) _
  have HC3 := vv (HC2.out.step hb3)
  clear hb3
  refine (HVa.out _ HC3.out.low).mono ?_
  rintro e w3 ⟨rfl, hB⟩
  have hb4 : Below w3.heap.size w3 (w3.alloc (.cells #[.bool false, .slice none 0 0, .int .i64 0] 30)) := (Below.refl _ _).alloc (Nat.le_refl _) _
  have HC4 := vv ((HC3.out.step hB).step hb4)
  clear hB hb4
  go_wp2
  go_ret
  exact ⟨rfl, HC4.out.low⟩
def ints (C : Nat -> Int) (k : Nat) : List Value := [if 0 < k then .int .i64 (C 0) else .int .i64 0, if 1 < k then .int .i64 (C 1) else .int .i64 0, if 2 < k then .int .i64 (C 2) else .int .i64 0, if 3 < k then .int .i64 (C 3) else .int .i64 0, if 4 < k then .int .i64 (C 4) else .int .i64 0]
def strs (S : Nat -> ByteArray) (k : Nat) : List Value := [if 0 < k then .string (S 0) else .string .empty, if 1 < k then .string (S 1) else .string .empty, if 2 < k then .string (S 2) else .string .empty, if 3 < k then .string (S 3) else .string .empty, if 4 < k then .string (S 4) else .string .empty]
theorem five {P : Nat -> Prop} (h0 : P 0) (h1 : P 1) (h2 : P 2) (h3 : P 3) (h4 : P 4) {k : Nat} (h : k < 5) : P k := by
 match k, h with
 | 0, _ => exact h0
 | 1, _ => exact h1
 | 2, _ => exact h2
 | 3, _ => exact h3
 | 4, _ => exact h4
theorem ints_at (C : Nat -> Int) {k : Nat} (h : k < 5) : (ints C k)[k]? = some (.int .i64 0) := five (P := fun k => (ints C k)[k]? = some (.int .i64 0)) rfl rfl rfl rfl rfl h
theorem strs_at (S : Nat -> ByteArray) {k : Nat} (h : k < 5) : (strs S k)[k]? = some (.string .empty) := five (P := fun k => (strs S k)[k]? = some (.string .empty)) rfl rfl rfl rfl rfl h
theorem ints_set (C : Nat -> Int) {k : Nat} (h : k < 5) : (ints C k).set k (.int .i64 (C k)) = ints C (k + 1) := five (P := fun k => (ints C k).set k (.int .i64 (C k)) = ints C (k + 1)) rfl rfl rfl rfl rfl h
theorem strs_set (S : Nat -> ByteArray) {k : Nat} (h : k < 5) : (strs S k).set k (.string (S k)) = strs S (k + 1) := five (P := fun k => (strs S k).set k (.string (S k)) = strs S (k + 1)) rfl rfl rfl rfl rfl h
theorem strs_all (S : Nat -> ByteArray) {k : Nat} (h : k < 5) : (strs S 5)[k]? = some (.string (S k)) := five (P := fun k => (strs S 5)[k]? = some (.string (S k))) rfl rfl rfl rfl rfl h
theorem ints_all (C : Nat -> Int) {k : Nat} (h : k < 5) : (ints C 5)[k]? = some (.int .i64 (C k)) := five (P := fun k => (ints C 5)[k]? = some (.int .i64 (C k))) rfl rfl rfl rfl rfl h
theorem str_same {s t : ByteArray} (h : s = t) : (s.toList == t.toList) = true := by subst h; exact beq_self_eq_true _
theorem str_two {a s t : ByteArray} (h : a = s \/ a = t) : ((a.toList == s.toList) = true /\ (a.toList != s.toList) = false) \/ ((a.toList == s.toList) = false /\ (a.toList != s.toList) = true /\ (a.toList == t.toList) = true /\ (a.toList != t.toList) = false) := by
 cases e : (a.toList == s.toList) with
 | true => exact .inl ⟨rfl, by rw [bne, e]; rfl⟩
 | false =>
  rcases h with h | h
  ·rw [str_same h] at e; cases e
  ·exact .inr ⟨rfl, by rw [bne, e]; rfl, str_same h, by rw [bne, str_same h]; rfl⟩
theorem str_sign {b : Nat} {neg : Bool} {S : Nat -> ByteArray} (hn : neg = (b / 2 ^ 63 == 1)) (h : S 2 = S (if neg then 3 else 4)) :
  (((b : Int) / 9223372036854775808 == 1) = true /\ ((S 2).toList == (S 3).toList) = true) \/ (((b : Int) / 9223372036854775808 == 1) = false /\ ((S 2).toList == (S 4).toList) = true) := by
 have e : ((b : Int) / 9223372036854775808 == 1) = neg := by
  rw [hn, show (2 : Nat) ^ 63 = 9223372036854775808 from rfl]
  rw [Bool.eq_iff_iff, beq_iff_eq, beq_iff_eq]
  omega
 rw [e]
 cases neg
 ·exact .inr ⟨rfl, str_same h⟩
 ·exact .inl ⟨rfl, str_same h⟩
theorem rd_stay {w w' : World} {A : Option Addr} {n c g : Nat} {xs : List Nat} (h : Rd w A n c xs) (hw : w.grownBy w' (some g)) (hlt : 0 < n -> ∀ a, A = some a -> a.block ≠ g) : Rd w' A n c xs := by
 rcases Nat.eq_zero_or_pos n with h0 | h0
 ·subst h0
  exact h.zero
 ·exact h.only hw (hlt h0)
theorem rd_block {w : World} {A : Option Addr} {n c : Nat} {xs : List Nat} (h : Rd w A n c xs) : 0 < n -> ∀ a, A = some a -> a.block < w.heap.size := by
 intro h0 a e
 obtain ⟨b, off, e2, hlt, -⟩ := h.cell h0
 rw [e2] at e
 cases e
 exact hlt
set_option maxRecDepth 100000 in
set_option maxHeartbeats 16000000 in
theorem btw_fin (b : Nat) (neg vg : Bool) (vN : Nat) (vx : Int) (pl : Nat) (S : Nat -> ByteArray) (B Fl : Nat -> Nat) (C : Nat -> Int) (places : Int) (w : World) (hg : Bg w) (ht : Ten w) (hP : BtwP b neg vg vN vx pl S B Fl C w)
  (hneg : neg = (b / 2 ^ 63 == 1)) (hb : b < 2 ^ (1 + 11 + 52)) (hpp : (places < 0 /\ (2 : Int) = pl) \/ (0 <= places /\ 14 < places /\ (2 : Int) = pl) \/ (0 <= places /\ places <= 14 /\ places = pl)) :
  Calls Tryz.prog 6 #[.int .u64 b, .int .i64 places] w fun e w' => e = .returned (.bool true) /\ Below w.heap.size w w' := by
 have HAw := vv (awake w hg ht)
 have HP := vv hP
 have HN := vv (And.intro hneg hb)
 have HX := vv hpp
 clear hg ht hP hneg hb hpp
 rcases HX.out with ⟨h, hv⟩ | ⟨h, h', hv⟩ | ⟨h, h', hv⟩
 all_goals
  have HV := vv hv
  clear hv HX
  go_enter Tryz.func6, Tryz.ntmps6
  go_wp2_with fail
  refine HAw.out.mono ?_
  rintro e w1 ⟨rfl, hB⟩
  have HC1 := vv ((Ctx.nil w).step hB)
  clear hB
  go_wp2_with fail
  refine (double_ _).mono ?_
  rintro e w2 ⟨rfl, hB⟩
  have HC2 := vv (HC1.out.step hB)
  clear hB
  go_wp2_with fail
  first
   | rw [HV.out]
   | rw [<- HV.out]
  have HC3 := vv (HC2.out.new 23 [.int .i64 11, .int .i64 52] rfl)
  refine (HP.out.va _ HC3.out.low).mono ?_
  rintro e w3 ⟨A, m, rfl, hA, -, hB⟩
  have HC4 := vv (HC3.out.step hB)
  have HA4 := vv hA
  clear hB hA
  go_wp2_with fail
  have HC7 := vv (((HC4.out.new 30 [.bool vg, .slice A m m, .int .i64 vx] rfl).new 55 (ints C 0) (g := w3.heap.size + 1) (by simp)).new 56 (strs S 0) (g := w3.heap.size + 1 + 1) (by simp))
  have HA7 := vv ((((HA4.out.below ((Below.refl _ _).alloc (Nat.le_refl _) (.cells #[.bool vg, .slice A m m, .int .i64 vx] 30)) rfl).below ((Below.refl _ _).alloc (Nat.le_refl _) (.cells (ints C 0).toArray 55)) rfl).below ((Below.refl _ _).alloc (Nat.le_refl _) (.cells (strs S 0).toArray 56)) rfl))
  obtain ⟨G, hG⟩ := yx (w3.heap.size)
  obtain ⟨g6, hg6⟩ := yx (w2.heap.size)
  have HGl : Hid (w.heap.size <= G) := vv (by rw [hG]; exact HC4.out.low.size)
  have HAb : Hid (0 < m -> ∀ a, A = some a -> a.block < G) := vv (by rw [hG]; exact rd_block HA4.out)
  have HGn : Hid (g6 < G) := vv (by rw [hG, hg6]; exact (HC4.out.get 0 rfl).lt)
  rw [<- hG, <- hg6] at HC7
  rw [<- hG, <- hg6]
  clear hG hg6 HC1 HC2 HC3 HC4 HA4
  go_loopw [11] (fun i wr => ∃ k : Nat, k <= 5 /\ i = .int .i64 (k : Int) /\ (∀ j, j < k -> Fl j = 0) /\ Ctx w [(G + 1 + 1, 56, strs S k), (G + 1, 55, ints C k), (G, 30, [.bool vg, .slice A m m, .int .i64 vx]), (g6, 23, [.int .i64 11, .int .i64 52])] wr /\ Rd wr A m m (toL vN)) (fun i _ => (5 - intOf i).toNat)
  case atStart => exact ⟨0, by decide, rfl, fun j hj => absurd hj (by omega), HC7.out, HA7.out⟩
  case round =>
   obtain ⟨k, hk, rfl, hfl, hC, hA⟩ := hrel
   have HL := vv hfl
   have HCr := vv hC
   have HAr := vv hA
   clear hfl hC hA
   rcases Nat.lt_or_ge k 5 with hlt | hge
   ·have hki : (k : Int) < 5 := by omega
    have hki0 : (0 : Int) <= (k : Int) := by omega
    have hk4 : k <= 4 := by omega
    have HK4 := vv hk4
    clear hk hk4 hlt
    have c0 := HCr.out.get 3 rfl |>.cell 0
    have c1 := HCr.out.get 3 rfl |>.cell 1
    have cl := HCr.out.get 3 rfl |>.lt
    simp only [List.getElem?_cons_zero, List.getElem?_cons_succ] at c0 c1
    go_wp2_with fail
    refine (HP.out.pl k _ HK4.out HCr.out.low).mono ?_
    rintro e w8 ⟨rfl, hB⟩
    have HC8 := vv (HCr.out.step hB)
    have HA8 := vv (HAr.out.below hB rfl)
    clear hB c0 c1 cl HCr HAr
    have c0 := HC8.out.get 3 rfl |>.cell 0
    have c1 := HC8.out.get 3 rfl |>.cell 1
    have cl := HC8.out.get 3 rfl |>.lt
    simp only [List.getElem?_cons_zero, List.getElem?_cons_succ] at c0 c1
    go_wp2_with fail
    refine (HP.out.rd k _ HK4.out HC8.out.low).mono ?_
    rintro e w9 ⟨rfl, hB⟩
    have HC9 := vv (HC8.out.step hB)
    have HA9 := vv (HA8.out.below hB rfl)
    clear hB c0 c1 cl HC8 HA8
    have c0 := HC9.out.get 3 rfl |>.cell 0
    have c1 := HC9.out.get 3 rfl |>.cell 1
    have cl := HC9.out.get 3 rfl |>.lt
    simp only [List.getElem?_cons_zero, List.getElem?_cons_succ] at c0 c1
    rcases HP.out.fl k HK4.out with e0 | e0 | e0 | e0
    all_goals
     have HE := vv e0
     clear e0
     rw [HE.out]
     try
      rw [show ((3 : Nat) : Int) = 3 from rfl]
      go_wp2
      go_ret
      exact ⟨rfl, HC9.out.low⟩
    all_goals
     first
      | rw [show ((0 : Nat) : Int) = 0 from rfl]
      | rw [show ((1 : Nat) : Int) = 1 from rfl]
      | rw [show ((5 : Nat) : Int) = 5 from rfl]
     obtain ⟨g, N, x, hv, hc⟩ := HP.out.fz k HK4.out (by rw [HE.out]; decide)
     have HVv := vv hv
     have HCm := vv hc
     clear hv hc
     go_wp2_with fail
     refine (HVv.out _ HC9.out.low).mono ?_
     rintro e w10 ⟨A', m', rfl, hA', -, hB⟩
     have hb : Below w10.heap.size w10 (w10.alloc (.cells #[.bool g, .slice A' m' m', .int .i64 x] 30)) := (Below.refl _ _).alloc (Nat.le_refl _) _
     have HC11 := vv ((HC9.out.step hB).step hb)
     have HA11 := vv ((HA9.out.below hB rfl).below hb rfl)
     have HB11 := vv (hA'.below hb rfl)
     clear hB hb hA' c0 c1 cl HC9 HA9
     have d0 := HC11.out.get 2 rfl |>.cell 0
     have d1 := HC11.out.get 2 rfl |>.cell 1
     have d2 := HC11.out.get 2 rfl |>.cell 2
     have dl := HC11.out.get 2 rfl |>.lt
     simp only [List.getElem?_cons_zero, List.getElem?_cons_succ] at d0 d1 d2
     go_wp2_with fail
     refine (HCm.out A' m' m' A m m _ HC11.out.low HB11.out HA11.out).mono ?_
     rintro e w12 ⟨rfl, hB⟩
     have HC12 := vv (HC11.out.step hB)
     have HA12 := vv (HA11.out.below hB rfl)
     clear hB d0 d1 d2 dl HC11 HA11 HB11 HVv HCm
     try
      go_wp2
      go_ret
      exact ⟨rfl, HC12.out.low⟩
    have hlt : k < 5 := by have := HK4.out; omega
    have a0 := ((HC12.out.get 1 rfl).cell k).trans (ints_at C hlt)
    have al := (HC12.out.get 1 rfl).lt
    have af := (HC12.out.get 1 rfl).fz k
    have q1 := (HC12.out.get 1 rfl).set k (.int .i64 (C k))
    rw [ints_set C hlt] at q1
    have o1 : w12.grownBy (w12.setCell ⟨G + 1, k, none⟩ (.int .i64 (C k))) (some (G + 1)) := Go.Proofs.YtddaldghlinokaaGreatDoor.only_setCell (World.grownBy.refl _ _) (.inl rfl) _
    have P1 := HC12.out.put 1 rfl (fun j y hj hy => by
     match j, hj with
     | 0, _ => cases hy; show (_ : Nat) ≠ _; omega
     | 2, _ => cases hy; show (_ : Nat) ≠ _; omega
     | 3, _ => cases hy; show (_ : Nat) ≠ _; have := HGn.out; omega
     | j + 4, _ => cases hy) (by have := HGl.out; omega) q1 o1
    have b0 := ((P1.get 0 rfl).cell k).trans (strs_at S hlt)
    have bl := (P1.get 0 rfl).lt
    have bf := (P1.get 0 rfl).fz k
    have q2 := (P1.get 0 rfl).set k (.string (S k))
    rw [strs_set S hlt] at q2
    have o2 : (w12.setCell ⟨G + 1, k, none⟩ (.int .i64 (C k))).grownBy ((w12.setCell ⟨G + 1, k, none⟩ (.int .i64 (C k))).setCell ⟨G + 1 + 1, k, none⟩ (.string (S k))) (some (G + 1 + 1)) := Go.Proofs.YtddaldghlinokaaGreatDoor.only_setCell (World.grownBy.refl _ _) (.inl rfl) _
    have P2 := vv (P1.put 0 rfl (fun j y hj hy => by
     match j, hj with
     | 1, _ => cases hy; show (_ : Nat) ≠ _; omega
     | 2, _ => cases hy; show (_ : Nat) ≠ _; omega
     | 3, _ => cases hy; show (_ : Nat) ≠ _; have := HGn.out; omega
     | j + 4, _ => cases hy) (by have := HGl.out; omega) q2 o2)
    have HA13 := vv (rd_stay (rd_stay HA12.out o1 (fun h0 a e => by have := HAb.out h0 a e; omega)) o2 (fun h0 a e => by have := HAb.out h0 a e; omega))
    clear q1 o1 P1 q2 o2 HC12 HA12
    go_wp2
    go_roundw
    case measure => simp [intOf]; omega
    case rel =>
     refine ⟨k + 1, by omega, by first | rfl | go_num, fun j hj => ?_, P2.out, HA13.out⟩
     rcases Nat.lt_or_ge j k with e | e
     ·exact HL.out j e
     ·obtain rfl : j = k := by omega
      exact HE.out
   ·obtain rfl : k = 5 := by omega
    have hfz : ∀ j, j < 5 -> Fl j = 0 := HL.out
    have h4 := HP.out.cd (hfz 4 (by decide))
    have h3 := HP.out.cu (hfz 3 (by decide))
    have b4 := HP.out.cb 4
    have b3 := HP.out.cb 3
    have n4 : ¬ 0 < C 4 := by omega
    have n3 : ¬ C 3 < 0 := by omega
    have a4 := ((HCr.out.get 1 rfl).cell 4).trans (ints_all C (k := 4) (by decide))
    have a3 := ((HCr.out.get 1 rfl).cell 3).trans (ints_all C (k := 3) (by decide))
    have al := (HCr.out.get 1 rfl).lt
    have HSt : Hid (∀ j, j < 5 -> ∀ w', Ctx w [(G + 1 + 1, 56, strs S 5), (G + 1, 55, ints C 5), (G, 30, [.bool vg, .slice A m m, .int .i64 vx]), (g6, 23, [.int .i64 11, .int .i64 52])] w' -> w'.cell? ⟨G + 1 + 1, j, none⟩ = some (.string (S j))) :=
     vv fun j hj w' h => ((h.get 0 rfl).cell j).trans (strs_all S hj)
    clear hfz h4 h3 b4 b3 hge hk
    go_wp2_with fail
    clear a4 a3 al n4 n3
    go_loopw [20] (fun i wr => ∃ k : Nat, k <= 5 /\ i = .int .i64 (k : Int) /\ Ctx w [(G + 1 + 1, 56, strs S 5), (G + 1, 55, ints C 5), (G, 30, [.bool vg, .slice A m m, .int .i64 vx]), (g6, 23, [.int .i64 11, .int .i64 52])] wr) (fun i _ => (5 - intOf i).toNat)
    case atStart => exact ⟨0, by decide, rfl, HCr.out⟩
    case round =>
     obtain ⟨k, hk, rfl, hC⟩ := hrel
     have HCs := vv hC
     rcases Nat.lt_or_ge k 5 with hlt | hge
     ·have hki : (k : Int) < 5 := by omega
      have hki0 : (0 : Int) <= (k : Int) := by omega
      have ek := HSt.out k hlt _ hC
      have e4 := HSt.out 4 (by decide) _ hC
      have e3 := HSt.out 3 (by decide) _ hC
      have el := (hC.get 0 rfl).lt
      clear hC hk
      have HTw : Hid ((((S k).toList == (S 4).toList) = true /\ ((S k).toList != (S 4).toList) = false) \/ (((S k).toList == (S 4).toList) = false /\ ((S k).toList != (S 4).toList) = true /\ ((S k).toList == (S 3).toList) = true /\ ((S k).toList != (S 3).toList) = false)) := vv (str_two (HP.out.tw k))
      rcases HTw.out with ⟨t1, t2⟩ | ⟨t1, t2, t3, t4⟩
      all_goals
       clear HTw
       go_wp2_with fail
       go_quiet (fail)
       go_wp2
       go_roundw
       case measure => simp [intOf]; omega
       case rel => exact ⟨k + 1, by omega, by first | rfl | go_num, HCs.out.step ⟨rfl, by first | rfl | simp, by first | rfl | simp, Nat.le_refl _, fun _ _ => rfl⟩⟩
     ·obtain rfl : k = 5 := by omega
      have e2 := HSt.out 2 (by decide) _ hC
      have e4 := HSt.out 4 (by decide) _ hC
      have e3 := HSt.out 3 (by decide) _ hC
      have el := (hC.get 0 rfl).lt
      have HTz : Hid ((((b : Int) / 9223372036854775808 == 1) = true /\ ((S 2).toList == (S 3).toList) = true) \/ (((b : Int) / 9223372036854775808 == 1) = false /\ ((S 2).toList == (S 4).toList) = true)) := vv (str_sign HN.out.1 HP.out.tz)
      clear hC hk hge
      rcases HTz.out with ⟨t1, t2⟩ | ⟨t1, t2⟩
      all_goals
       clear HTz
       go_wp2
       go_ret
       exact ⟨rfl, HCs.out.low⟩
theorem HexBetween (b : Nat) (places : Int) (w : World) (hg : Bg w) (ht : Ten w) (hb : b < 18446744073709551616) :
  Calls Tryz.prog 6 #[.int .u64 b, .int .i64 places] w fun e w' => e = .returned (.bool true) /\ Below w.heap.size w w' := by
 have hb2 : b < 2 ^ (1 + 11 + 52) := Nat.lt_of_lt_of_le hb (by decide)
 by_cases hf : expOf 11 52 b = R3.tw 11 - 1
 ·exact btw_inf b places w hg ht hb2 hf
 ·have hneg : negOf 11 52 b = (b / 2 ^ 63 == 1) := by
   have hd : b / 2 ^ 63 < 2 := by
    apply Nat.div_lt_of_lt_mul
    exact Nat.lt_of_lt_of_le hb2 (by decide)
   show (b / 2 ^ 63 % 2 == 1) = _
   rw [Nat.mod_eq_of_lt hd]
  obtain ⟨pl, hp, hpp⟩ : ∃ pl : Nat, pl <= 14 /\ ((places < 0 /\ (2 : Int) = pl) \/ (0 <= places /\ 14 < places /\ (2 : Int) = pl) \/ (0 <= places /\ places <= 14 /\ places = pl)) := by
   rcases Int.lt_or_le places 0 with h | h
   ·exact ⟨2, by decide, .inl ⟨h, rfl⟩⟩
   ·rcases Int.lt_or_le 14 places with h' | h'
    ·exact ⟨2, by decide, .inr (.inl ⟨h, h', rfl⟩)⟩
    ·exact ⟨places.toNat, by omega, .inr (.inr ⟨h, h', by omega⟩)⟩
  have key : ∃ vg vN vx S B Fl C, BtwP b (negOf 11 52 b) vg vN vx pl S B Fl C w := by
   rcases Nat.eq_zero_or_pos (fN 11 52 b) with h0 | h0
   ·exact btw_zero b pl w hg ht hb2 hf hp h0
   ·exact btw_pos b pl w hg ht hb2 hf hp h0
  obtain ⟨vg, vN, vx, S, B, Fl, C, hP⟩ := key
  exact btw_fin b _ vg vN vx pl S B Fl C places w hg ht hP hneg hb2 hpp
end Go.Proofs.YtddaldghlinokaaGreatDoor.Hx
