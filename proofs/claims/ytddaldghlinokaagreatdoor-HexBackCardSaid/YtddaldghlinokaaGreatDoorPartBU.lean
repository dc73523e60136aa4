/- Lemmas. -/
import Derived.Test.YtddaldghlinokaaGreatDoorPartBT
set_option linter.all false
namespace Go.Proofs.YtddaldghlinokaaGreatDoor.Hx
open Go Go.RowKit R5 Scn Fms Exa
theorem beq46 (c : UInt8) : (((c.toNat : Nat) : Int) == 46) = (c == 46) := by
 by_cases h : c = 46
 ·subst h; rfl
 ·rw [beq_eq_false_iff_ne.2 h, beq_eq_false_iff_ne]
  intro e
  exact h (UInt8.toNat_inj.1 (by show _ = 46; omega))
theorem cst_le : ∀ (l : List UInt8) (a : Nat × Bool), (l.foldl cst a).1 <= a.1 + l.length
 | [], a => Nat.le_refl _
 | c :: l, a => by
  have h := cst_le l (cst a c)
  have h2 : (cst a c).1 <= a.1 + 1 := by unfold cst; split <;> simp
  rw [List.foldl_cons, List.length_cons]
  omega
theorem cnt_le (l : List UInt8) : (cnt l).1 <= l.length := by have := cst_le l (0, false); simpa [cnt] using this
set_option maxRecDepth 100000 in
set_option maxHeartbeats 8000000 in
theorem back_fin (E F : Int) (b q : Nat) (H T : List UInt8) (D S : ByteArray) (L : Nat -> ByteArray) (mode : Nat) (more : Int) (w : World) (hg : Bg w) (ht : Ten w) (hq : q <= 100) (hP : BackP E F b q H T D S L w) :
  Calls Tryz.prog 5 #[fm E F, .int .u64 b, .int .u8 mode, .int .i64 more] w fun e w' => e = .returned (.bool true) /\ Below w.heap.size w w' := by
 obtain ⟨w0, hw0⟩ := yx (w.alloc (.cells #[.int .i64 E, .int .i64 F] 23))
 have hC : Ctx w [(w.heap.size, 23, [.int .i64 E, .int .i64 F])] w0 := by rw [hw0]; exact (Ctx.nil w).new _ _ rfl
 have HAw := vv (awake w0 (hg.below hC.low) (ht.below hC.low))
 have HP := vv hP
 have HC := vv hC
 have HW := vv hw0
 have hSz : S.size = H.length + 1 + T.length := by
  have := congrArg List.length hP.sd
  rw [Array.length_toList, List.length_append, List.length_cons] at this
  show S.data.size = _
  omega
 have HSz := vv hSz
 have hss : (S.size : Int) <= 1000 := by have := hP.sm; omega
 have hHl : (H.length : Int) <= 100 := by have := hP.hl; omega
 have HQ := vv hq
 have HMd : Hid ((4 : Int) < (mode : Int) \/ ((mode : Int) <= 4 /\ mode <= 4)) := vv (by omega)
 have HMo : Hid (more < 0 \/ (0 <= more /\ 100 < more) \/ ∃ m : Nat, more = m /\ m <= 100) := vv (by
  rcases Int.lt_or_le more 0 with h | h
  ·exact .inl h
  ·rcases Int.lt_or_le 100 more with h' | h'
   ·exact .inr (.inl ⟨h, h'⟩)
   ·exact .inr (.inr ⟨more.toNat, by omega, by omega⟩))
 clear hg ht hC hw0 hP hSz hq
 rcases HMd.out with hm | ⟨hm, hm2⟩
 all_goals
  go_enter Tryz.func5, Tryz.ntmps5
  go_wp2_with fail
  rw [<- HW.out]
  refine HAw.out.mono ?_
  rintro e w1 ⟨rfl, hB⟩
  have HC1 := vv (HC.out.step hB)
  have c0 := HC1.out.get 0 rfl |>.cell 0
  have c1 := HC1.out.get 0 rfl |>.cell 1
  have cl := HC1.out.get 0 rfl |>.lt
  simp only [List.getElem?_cons_zero, List.getElem?_cons_succ] at c0 c1
  clear hB
  go_wp2_with fail
  refine (HP.out.du _).mono ?_
  rintro e w2 ⟨rfl, hB⟩
  have HC2 := vv (HC1.out.step hB)
  clear hB c0 c1 cl
  have c0 := HC2.out.get 0 rfl |>.cell 0
  have c1 := HC2.out.get 0 rfl |>.cell 1
  have cl := HC2.out.get 0 rfl |>.lt
  simp only [List.getElem?_cons_zero, List.getElem?_cons_succ] at c0 c1
  go_wp2_with fail
  refine (HP.out.lo _).mono ?_
  rintro e w3 ⟨rfl, hB⟩
  have HC3 := vv (HC2.out.step hB)
  clear hB c0 c1 cl
  have c0 := HC3.out.get 0 rfl |>.cell 0
  have c1 := HC3.out.get 0 rfl |>.cell 1
  have cl := HC3.out.get 0 rfl |>.lt
  simp only [List.getElem?_cons_zero, List.getElem?_cons_succ] at c0 c1
  go_wp2_with fail
  refine (HP.out.pr _ HC3.out.low).mono ?_
  rintro e w4 ⟨rfl, hB⟩
  have HC4 := vv (HC3.out.step hB)
  clear hB c0 c1 cl
  have c0 := HC4.out.get 0 rfl |>.cell 0
  have c1 := HC4.out.get 0 rfl |>.cell 1
  have cl := HC4.out.get 0 rfl |>.lt
  simp only [List.getElem?_cons_zero, List.getElem?_cons_succ] at c0 c1
  go_wp2_with fail
 rotate_left
 obtain ⟨md, hmd, hmdv⟩ : ∃ md : Nat, md <= 4 /\ md = mode := ⟨mode, hm2, rfl⟩
 rw [<- hmdv]
 rotate_left
 obtain ⟨md, hmd, hmdv⟩ : ∃ md : Nat, md <= 4 /\ md = 0 := ⟨0, by decide, rfl⟩
 rw [show (Value.int .u8 (0 : Int)) = .int .u8 (md : Int) by rw [hmdv]; rfl]
 all_goals
  clear hmdv
  refine (HP.out.rd md _ hmd HC4.out.low).mono ?_
  rintro e w5 ⟨rfl, hB⟩
  have HC5 := vv (HC4.out.step hB)
  have hmd4 : (md : Int) <= 4 := by omega
  have HMd4 := vv hmd
  clear hB c0 c1 cl hmd
  go_wp2_with fail
  go_loopw [18, 19, 20] (fun d p i wr => ∃ k : Nat, k <= H.length /\ d = .int .i64 (((cnt (H.take k)).1 : Nat) : Int) /\ p = .bool (cnt (H.take k)).2 /\ i = .int .i64 (k : Int) /\ wr = w5) (fun _ _ i _ => (H.length - intOf i).toNat)
  case atStart => exact ⟨0, Nat.zero_le _, rfl, rfl, rfl, rfl⟩
  case round =>
   obtain ⟨k, hk, rfl, rfl, rfl, rfl⟩ := hrel
   have hks : k < S.size := by have := HSz.out; omega
   have hki : (k : Int) < (S.size : Int) := by omega
   have hget : S.data.toList[k]? = some (S[k]'hks) := by
    rw [Array.getElem?_toList]
    exact Array.getElem?_eq_getElem hks
   rw [HP.out.sd] at hget
   rcases Nat.lt_or_ge k H.length with hlt | hge
   ·rw [List.getElem?_append_left hlt] at hget
    have hmem : (S[k]'hks) ∈ H := List.mem_of_getElem? hget
    have hne := HP.out.hn _ hmem
    have hnx : cnt (H.take (k + 1)) = cst (cnt (H.take k)) (S[k]'hks) := by
     rw [List.take_add_one, hget]
     unfold cnt
     rw [List.foldl_append]
     rfl
    obtain ⟨B, hB⟩ := yx (((S[k]'hks) == 46))
    have hBx : ((((S[k]'hks).toNat : Int)) == 46) = B := by
     rw [hB, beq46]
    have hn1 : ((((S[k]'hks).toNat : Int)) == 112) = false := by
     rw [beq_eq_false_iff_ne]
     intro h
     apply hne
     apply UInt8.toNat_inj.1
     show _ = 112
     omega
    obtain ⟨⟨d, p⟩, hdp⟩ : ∃ a, a = cnt (H.take k) := ⟨_, rfl⟩
    rw [<- hdp] at hnx ⊢
    unfold cst at hnx
    rw [<- hB] at hnx
    have HNx := vv hnx
    have hd100 : (d : Int) <= 100 := by
     have h1 := cnt_le (H.take k)
     rw [<- hdp, List.length_take] at h1
     have : d <= H.length := by omega
     omega
    clear hnx hdp hB hget hmem hne
    cases p
    all_goals
     go_wp2_with fail
     go_round
     case rel => exact ⟨k + 1, hlt, by rw [HNx.out]; first | rfl | go_num, by rw [HNx.out]; rfl, by first | rfl | go_num, by first | trivial | rfl⟩
     case measure => simp [intOf]; omega
   ·obtain rfl : k = H.length := by omega
    rw [List.getElem?_append_right (Nat.le_refl _), Nat.sub_self, List.getElem?_cons_zero] at hget
    have hB : S[H.length]'hks = 112 := (Option.some.inj hget).symm
    have hn1 : ((((S[H.length]'hks).toNat : Int)) == 112) = true := by rw [hB]; rfl
    rw [List.take_length, HP.out.hc]
    have hqi : (q : Int) <= 100 := by have := HQ.out; omega
    clear hget hB hge hk
    obtain ⟨m, hm1, hmv⟩ : ∃ m : Nat, m <= 100 /\ (m : Int) = (if more < 0 then 3 else if 100 < more then 3 else more) := by
     rcases HMo.out with h | ⟨h, h'⟩ | ⟨m, rfl, h⟩
     ·exact ⟨3, by decide, by rw [if_pos h]; rfl⟩
     ·exact ⟨3, by decide, by rw [if_neg (by omega), if_pos h']; rfl⟩
     ·exact ⟨m, h, by rw [if_neg (by omega), if_neg (by omega)]⟩
    have c0 := HC5.out.get 0 rfl |>.cell 0
    have c1 := HC5.out.get 0 rfl |>.cell 1
    have cl := HC5.out.get 0 rfl |>.lt
    simp only [List.getElem?_cons_zero, List.getElem?_cons_succ] at c0 c1
    have HPl := vv (HP.out.pl m md _ hm1 HMd4.out HC5.out.low)
    have HRl := vv fun w' (h : Below w.heap.size w w') => HP.out.rl m md w' hm1 HMd4.out h
    obtain ⟨Lm, hLm⟩ := yx (L m)
    have hz := HP.out.sz m hm1
    rw [<- hLm] at HPl HRl hz
    have hmi : (m : Int) <= 100 := by omega
    have hm0 : (0 : Int) <= (m : Int) := by omega
    clear hLm hm1
    have HMv : Hid ((more < 0 /\ (m : Int) = 3) \/ (0 <= more /\ 100 < more /\ (m : Int) = 3) \/ (0 <= more /\ more <= 100 /\ more = (m : Int))) := vv (by
     split at hmv
     ·exact .inl ⟨by omega, hmv⟩
     ·split at hmv
      ·exact .inr (.inl ⟨by omega, by omega, hmv⟩)
      ·exact .inr (.inr ⟨by omega, by omega, hmv.symm⟩))
    clear hmv HMo
    rcases HMv.out with ⟨h, hv⟩ | ⟨h, h', hv⟩ | ⟨h, h', hv⟩
    all_goals
     have HMw := vv hv
     clear hv HMv
     go_wp2_with fail
     first
      | rw [HMw.out]
      | rw [<- HMw.out]
    all_goals
     refine HPl.out.mono ?_
     rintro e w6 ⟨rfl, hB⟩
     have HC6 := vv (HC5.out.step hB)
     clear hB c0 c1 cl
     have c0 := HC6.out.get 0 rfl |>.cell 0
     have c1 := HC6.out.get 0 rfl |>.cell 1
     have cl := HC6.out.get 0 rfl |>.lt
     simp only [List.getElem?_cons_zero, List.getElem?_cons_succ] at c0 c1
     have n1 : ¬ (Lm.size : Int) < (S.size : Int) := by omega
     have hLs : (Lm.size : Int) <= 1101 := by omega
     have HQ0 : Hid (((Lm.size : Int) = (S.size : Int) + (m : Int) /\ (q : Int) + (m : Int) <= 0) \/ ((Lm.size : Int) = (S.size : Int) + (m : Int) /\ 0 < (q : Int) + (m : Int)) \/ (0 < (q : Int) + (m : Int) /\ (Lm.size : Int) = (S.size : Int) + (m : Int) + 1)) := vv (by
      rcases hz with hz | ⟨hz, hz2⟩
      ·rcases Int.lt_or_le 0 ((q : Int) + (m : Int)) with k | k
       ·exact .inr (.inl ⟨by omega, k⟩)
       ·exact .inl ⟨by omega, k⟩
      ·exact .inr (.inr ⟨by omega, by omega⟩))
     have s1 : ¬ (S.size : Int) + (m : Int) < (S.size : Int) := by omega
     have s2 : ¬ (S.size : Int) + (m : Int) + 1 < (S.size : Int) := by omega
     have s3 : ((S.size : Int) + (m : Int) + 1 == (S.size : Int) + (m : Int)) = false := by rw [beq_eq_false_iff_ne]; omega
     have s4 : ((S.size : Int) + (m : Int) + 1 != (S.size : Int) + (m : Int)) = true := by rw [bne, s3]; rfl
     clear hz n1 hLs
     rcases HQ0.out with ⟨t1, t0⟩ | ⟨t1, t0⟩ | ⟨t0, t1⟩
     all_goals
       clear HQ0
       go_wp2_with fail
       refine (HRl.out _ HC6.out.low).mono ?_
       rintro e w7 ⟨rfl, hB⟩
       have HC7 := vv (HC6.out.step hB)
       clear hB
       go_wp2
       go_ret
       exact ⟨rfl, HC7.out.low⟩
theorem HexBack (E F : Int) (b mode : Nat) (more : Int) (w : World) (hg : Bg w) (ht : Ten w) (hb : b < 18446744073709551616) :
  Calls Tryz.prog 5 #[fm E F, .int .u64 b, .int .u8 mode, .int .i64 more] w fun e w' => e = .returned (.bool true) /\ Below w.heap.size w w' := by
 by_cases hfit : fitsErr E F b = 0
 ·obtain ⟨e, f, rfl, rfl, h1, h2, h3, h4, h5⟩ := fits_zero hfit
  by_cases hf : expOf e f b = R3.tw e - 1
  ·exact back_inf e f b _ _ w hg ht h1 h2 h3 h4 h5 hfit hf
  ·obtain ⟨q, H, T, D, S, L, hP⟩ := back_parts e f b w hg ht h1 h2 h3 h4 h5 hfit hf
   exact back_fin _ _ b q H T D S L mode more w hg ht (by have := cnt_le H; have := hP.hc; have := hP.hl; omega) hP
 ·exact back_no E F b _ _ w hg ht hb hfit
end Go.Proofs.YtddaldghlinokaaGreatDoor.Hx
