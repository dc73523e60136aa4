/- Lemmas for ReadNumbers. -/
import Derived.Test.YtbfmpcfcmbjeeaaGreatDoorPartAX
import Derived.Laws.IdiomStrings
set_option linter.all false
namespace Go.Proofs.YtbfmpcfcmbjeeaaGreatDoor
open Go Go.RowKit
theorem u32s_set (U : List Nat) (i x : Nat) : u32s (U.set i x) = (u32s U).set i (.int .u32 (x : Int)) := by
 unfold u32s; rw [List.map_set]
theorem row_set {w : World} {base : Nat} {e : TypeId} {g n cap : Nat} {U : List Nat} (h : w.ownsRow base e 1 (.slice (some ⟨g, 0, none⟩) n cap) n (u32s U)) (i x : Nat) :
  (w.setCell ⟨g, i, none⟩ (.int .u32 (x : Int))).ownsRow base e 1 (.slice (some ⟨g, 0, none⟩) n cap) n (u32s (U.set i x)) := by
 obtain ⟨h1, h2⟩ := h
 rcases h2 with ⟨h, _⟩ | ⟨g', cap', cur, hv, hb, hg, hc, hm, hs, ht⟩
 ·cases h
 ·cases hv
  refine ⟨by simpa [u32s] using h1, .inr ⟨g, cap, cur.setIfInBounds i (.int .u32 (x : Int)), rfl, hb, ?_, hc, hm, by simpa using hs, ?_⟩⟩
  ·simp [World.setCell, Array.getElem?_modify, hg]
  ·rw [u32s_set, <- ht]
   rw [Array.toList_setIfInBounds, List.take_set]
theorem row_cell {w : World} {base : Nat} {e : TypeId} {g n cap : Nat} {U : List Nat} (h : w.ownsRow base e 1 (.slice (some ⟨g, 0, none⟩) n cap) n (u32s U)) {i : Nat} (hi : i < n) :
  w.cell? ⟨g, i, none⟩ = some (.int .u32 ((nth U i : Nat) : Int)) /\ w.frozen? ⟨g, i, none⟩ = false /\ base <= g /\ g < w.heap.size := by
 have hlen : U.length = n := by have := h.1; simpa [u32s] using this
 rcases h.2 with ⟨h, _⟩ | ⟨g', cap', cur, hv, hb, hg, hc, hm, hs, ht⟩
 ·cases h
 ·cases hv
  refine ⟨?_, by simp [World.frozen?, hg], hb, (Array.getElem?_eq_some_iff.1 hg).1⟩
  have e1 := u32s_get U (i := i) (by omega)
  rw [<- ht, Nat.mul_one, List.getElem?_take, if_pos hi] at e1
  simp only [World.cell?, hg]
  rw [<- e1]
  simp
theorem row_slice {w : World} {base : Nat} {e : TypeId} {v : Value} {n : Nat} {U : List Nat} (h : w.ownsRow base e 1 v n (u32s U)) (hn : 0 < n) : ∃ g cap, v = .slice (some ⟨g, 0, none⟩) n cap /\ base <= g := by
 rcases h.2 with ⟨_, h0⟩ | ⟨g, cap, cur, hv, hb, _⟩
 ·omega
 ·exact ⟨g, cap, hv, hb⟩
theorem row_any {w : World} {base : Nat} {e : TypeId} {v : Value} {n : Nat} {U : List Nat} (h : w.ownsRow base e 1 v n (u32s U)) : ∃ A cap, v = .slice A n cap := by
 rcases h.2 with ⟨h2, rfl⟩ | ⟨g, cap, cur, hv, _⟩
 ·exact ⟨none, 0, h2⟩
 ·exact ⟨_, _, hv⟩
theorem row_below {w w' : World} {base B : Nat} {e : TypeId} {v : Value} {n : Nat} {U : List Nat} (h : w.ownsRow base e 1 v n (u32s U)) (hb : Below B w w') (hB : B = w.heap.size) : w'.ownsRow base e 1 v n (u32s U) := by
 refine ⟨h.1, ?_⟩
 rcases h.2 with h2 | ⟨g, cap, cur, hv, hbg, hg, hc, hm, hs, ht⟩
 ·exact .inl h2
 ·exact .inr ⟨g, cap, cur, hv, hbg, (hb.block g (by rw [hB]; exact (Array.getElem?_eq_some_iff.1 hg).1)).trans hg, hc, hm, hs, ht⟩
theorem bytes_cell (w : World) (s : ByteArray) (cap : Nat) (t : TypeId) (m : Nat × Nat) (k : Nat) (hk : k < s.size) :
  (w.alloc (.cells (bytesRow s cap) t m)).cell? ⟨w.heap.size, k, none⟩ = some (.int .u8 ((s[k].toNat : Nat) : Int)) := by
 simp only [World.cell?]
 rw [heap_alloc_new]
 have h := bytesRow_at s cap k hk
 simp only [Nat.zero_add]
 exact h
def mS (U : List Nat) (P y0 k : Nat) : Nat := val (U.take k) * P + y0
theorem mS_zero (U : List Nat) (P y0 : Nat) : mS U P y0 0 = y0 := by simp [mS, val]
theorem mS_succ (U : List Nat) (P y0 k : Nat) : mS U P y0 (k + 1) = mS U P y0 k + 4294967296 ^ k * (nth U k * P) := by
 unfold mS; rw [val_take_nth, Nat.add_mul, Nat.mul_assoc]; omega
theorem mS_carry (U : List Nat) (P y0 k : Nat) : mS U P y0 k / 4294967296 ^ k + nth U k * P = mS U P y0 (k + 1) / 4294967296 ^ k := by
 rw [mS_succ, Nat.add_mul_div_left _ _ (Nat.pow_pos (by omega))]
theorem mS_mod (U : List Nat) (P y0 k : Nat) : mS U P y0 (k + 1) % 4294967296 ^ k = mS U P y0 k % 4294967296 ^ k := by
 rw [mS_succ, Nat.add_mul_mod_self_left]
theorem mS_next (U : List Nat) (P y0 k : Nat) : mS U P y0 (k + 1) % 4294967296 ^ (k + 1) = mS U P y0 k % 4294967296 ^ k + 4294967296 ^ k * (mS U P y0 (k + 1) / 4294967296 ^ k % 4294967296) := by
 rw [Nat.pow_succ, Nat.mod_mul, mS_mod]
theorem mS_div (U : List Nat) (P y0 k : Nat) : mS U P y0 (k + 1) / 4294967296 ^ k / 4294967296 = mS U P y0 (k + 1) / 4294967296 ^ (k + 1) := by
 rw [Nat.pow_succ, Nat.div_div_eq_div_mul]
theorem mS_small (U : List Nat) (hl : Lim U) {P y0 : Nat} (hy : y0 < P) : ∀ k, mS U P y0 k / 4294967296 ^ k < P
 | 0 => by rw [mS_zero]; simpa using hy
 | k + 1 => by
  have h1 := mS_small U hl hy k
  have h2 := mS_carry U P y0 k
  have h3 : nth U k < 4294967296 := Lim_getD hl k
  rw [<- mS_div, <- h2]
  apply Nat.div_lt_of_lt_mul
  have h4 : nth U k * P <= 4294967295 * P := Nat.mul_le_mul_right _ (by omega)
  omega
theorem mS_all (U : List Nat) (P y0 : Nat) : mS U P y0 U.length = val U * P + y0 := by unfold mS; rw [List.take_length]
structure MulAt (U L : List Nat) (P y0 k : Nat) : Prop where
 len : L.length = U.length
 lim : Lim L
 low : val (L.take k) = mS U P y0 k % 4294967296 ^ k
 high : ∀ j, k <= j -> nth L j = nth U j
theorem MulAt.start {U : List Nat} (hl : Lim U) (P y0 : Nat) : MulAt U U P y0 0 := ⟨rfl, hl, by simp [val, Nat.mod_one], fun _ _ => rfl⟩
theorem MulAt.step {U L : List Nat} {P y0 k : Nat} (h : MulAt U L P y0 k) (hk : k < U.length) : MulAt U (L.set k (mS U P y0 (k + 1) / 4294967296 ^ k % 4294967296)) P y0 (k + 1) := by
 refine ⟨by rw [List.length_set]; exact h.len, Lim_set h.lim k (Nat.mod_lt _ (by omega)), ?_, fun j hj => ?_⟩
 ·rw [val_take_set _ _ _ (by rw [h.len]; exact hk), h.low, mS_next]
 ·rw [nth_set_ne _ _ (by omega)]
  exact h.high j (by omega)
theorem MulAt.fin {U L : List Nat} {P y0 : Nat} (h : MulAt U L P y0 U.length) : val L = (val U * P + y0) % 4294967296 ^ U.length := by
 have := h.low
 rw [<- h.len, List.take_length, h.len, mS_all] at this
 exact this
theorem ba_len (t : ByteArray) : t.data.toList.length = t.size := Array.length_toList
theorem piece (t : ByteArray) (a b : Nat) : (t.extract a b).data.toList = (t.data.toList.take b).drop a := by
 rw [ByteArray.data_extract, Array.toList_extract, List.extract_eq_drop_take']
theorem NatCell.set {w : World} {g b o : Nat} {v : Value} (h : NatCell w g) (hb : b ≠ g) : NatCell (w.setCell ⟨b, o, none⟩ v) g :=
 ⟨(cell_ne (fun e => hb (congrArg Addr.block e))).trans h.c0, by rw [<- h.fz]; exact World.frozen?_of_block (Go.Deep.blk_setCell_other _ _ _ _ (fun e => hb e.symm)), by rw [Go.Deep.nblk_setCell]; exact h.lt⟩
theorem conv_bytes (w : World) (s : ByteArray) :
  ∃ cap w1, (convert 9 94 (.string s)).run Tryz.prog w = .ok (.slice (some ⟨w.heap.size, 0, none⟩) s.size cap) w1 /\ (∀ k (h : k < s.size), w1.cell? ⟨w.heap.size, k, none⟩ = some (.int .u8 ((s[k].toNat : Nat) : Int))) /\ Below w.heap.size w w1 /\ w1.heap.size = w.heap.size + 1 := by
 refine ⟨_, _, run_bytes_of_string w 9 94 5 s Tryz.underlying9 Tryz.underlying94 Tryz.underlying5, fun k h => bytes_cell w.drew s _ _ _ k h, ?_, by simp⟩
 exact (below_drew (Below.refl w.heap.size w)).alloc (Nat.le_refl _) _
end Go.Proofs.YtbfmpcfcmbjeeaaGreatDoor
namespace Go.Proofs.YtbfmpcfcmbjeeaaGreatDoor.Nat_
open Go Go.RowKit R5
set_option maxRecDepth 100000 in
set_option maxHeartbeats 4000000 in
theorem Parse (s : ByteArray) (w : World) (hd : Digs s) (h0 : 0 < s.size) (h1 : s.size <= 65536) :
  Calls Tryz.prog 23 #[.string s] w fun e w' => ∃ A n, e = .returned (.tuple #[natV A n n, .int .i64 0, .int .i64 0]) /\ Rd w' A n n (toL (dvk s s.size)) /\ Fr w.heap.size A /\ Below w.heap.size w w' := by
 have HD := vv hd
 obtain ⟨i0, hi, hz0, hz1, hz2⟩ := info_parts Go.Proofs.YtbfmpcfcmbjeeaaGreatDoor.B.inf
 have hsz : (s.size : Int) <= 65536 := by omega
 have H1 := vv h1
 have d1 : decide ((65536 : Int) < (s.size : Int)) = false := decide_eq_false (by omega)
 have hne := str_some h0
 clear hd h1
 go_enter Tryz.func23, Tryz.ntmps23
 go_wp2
 go_loop [19] (fun t => ∃ k : Nat, k <= s.size /\ t = .int .i64 k) (fun t => s.size - (intOf t).toNat)
 case atStart => exact ⟨0, Nat.zero_le _, rfl⟩
 case round =>
  obtain ⟨k, hk, rfl⟩ := hrel
  by_cases hks : k < s.size
  ·obtain ⟨d1, d2⟩ := HD.out k hks
   go_wp2
   go_round
   case rel => exact ⟨k + 1, by omega, by go_num⟩
   case measure => simp [intOf]; omega
  ·have hks' : k = s.size := by omega
   subst hks'
   clear hk hks
   go_wp2
   clear d1 hne
   go_loopw [0, 6] (fun v l wr => ∃ (i : Nat) (t : ByteArray) (U : List Nat), i <= s.size /\ v = .string t /\ t.data.toList = s.data.toList.drop i /\ wr.ownsRow (w.heap.size + 1) 34 1 l U.length (u32s U) /\ Lim U /\ val U = dvk s i /\ U.length <= i /\ NatCell wr w.heap.size /\ Below w.heap.size w wr) (fun v _ _ => match v with | .string t => t.size | _ => 0)
   case atStart => exact ⟨0, s, [], Nat.zero_le _, rfl, rfl, World.ownsRow_nil _ _ _ _, Lim_nil, rfl, Nat.le_refl _, NatCell.made _ _, (Below.refl _ _).alloc (Nat.le_refl _) _⟩
   case round =>
    obtain ⟨i, t, U, hil, rfl, ht, hrow, hlim, hU, hUl, hNC, hB⟩ := hrel
    have htl : t.size = s.size - i := by rw [<- ba_len, ht, List.length_drop, ba_len]
    obtain ⟨A, cap, rfl⟩ := row_any hrow
    have HRow := vv hrow
    have HLim := vv hlim
    have HU := vv hU
    have HNC := vv hNC
    have HB := vv hB
    have HTt := vv ht
    have hts : (t.size : Int) <= 65536 := by omega
    have hul : (U.length : Int) <= 65536 := by omega
    have nl := hNC.lt
    have HTL := vv htl
    clear hrow hlim hU hNC hB ht
    by_cases hgo : 0 < t.size
    ·obtain ⟨j, hj⟩ := yx (min 9 t.size)
     have hj9 : j <= 9 := by omega
     have hj0 : 0 < j := by omega
     have hjt : j <= t.size := by omega
     have hm1 : min (9 : Int) (t.size : Int) = (j : Int) := by omega
     have hm2 : min j t.size = j := by omega
     obtain ⟨C, hC⟩ : ∃ C, t.extract 0 j = C := ⟨_, rfl⟩
     obtain ⟨T, hT⟩ : ∃ T, t.extract j t.size = T := ⟨_, rfl⟩
     have hCl : C.data.toList = t.data.toList.take j := by rw [<- hC, piece, List.drop_zero]
     have hTl : T.data.toList = s.data.toList.drop (i + j) := by
      rw [<- hT, piece, List.take_of_length_le (by rw [ba_len]; exact Nat.le_refl _), HTt.out, List.drop_drop]
     have hCs : C.size = j := by rw [<- ba_len, hCl, List.length_take, ba_len]; omega
     have hTs : T.size = t.size - j := by rw [<- ba_len, hTl, List.length_drop, ba_len]; omega
     have hCb : ∀ k (h : k < C.size), ∃ c : Nat, C[k].toNat = c /\ 48 <= c /\ c <= 57 /\ dvm s i (k + 1) = 10 * dvm s i k + (c - 48) := by
      intro k h
      have hik : i + k < s.size := by omega
      have e1 : C[k] = s[i + k] := by
       have a1 : C.data.toList[k]? = s.data.toList[i + k]? := by
        rw [hCl, List.getElem?_take, if_pos (by omega), HTt.out, List.getElem?_drop]
       rw [List.getElem?_eq_getElem (by rw [ba_len]; exact h), List.getElem?_eq_getElem (by rw [ba_len]; exact hik)] at a1
       exact Option.some.inj a1
      obtain ⟨a, b⟩ := HD.out (i + k) hik
      exact ⟨_, rfl, by rw [e1]; exact a, by rw [e1]; exact b, by rw [e1]; exact dvm_succ s i k hik⟩
     have HCb := vv hCb
     have HTl := vv hTl
     have HTs := vv hTs
     obtain ⟨cap2, w1, kc, hcells, hBc, hsc⟩ := conv_bytes wr C
     rw [hCs] at kc
     have HCells := vv hcells
     have HCs := vv hCs
     have HRow1 := vv (row_below HRow.out hBc rfl)
     have HNC1 := vv (HNC.out.below hBc)
     have HB1 := vn HB hBc
     have hl1 : wr.heap.size < w1.heap.size := by omega
     have hij : i + j <= s.size := by omega
     have HIJ := vv hij
     clear hCl hTl hTs hCb hcells hBc hsc hj hij htl
     have hji : (j : Int) <= 9 := by omega
     go_wp2
     clear hm1 hm2 hC hT kc hCs
     go_loop [8, 9, 53] (fun a b t => ∃ k : Nat, k <= j /\ a = .int .u64 (dvm s i k : Nat) /\ b = .int .u64 (tn k : Nat) /\ t = .int .i64 k) (fun _ _ t => j - (intOf t).toNat)
     case atStart => exact ⟨0, Nat.zero_le _, rfl, rfl, rfl⟩
     case round =>
      obtain ⟨k, hk, rfl, rfl, rfl⟩ := hrel
      by_cases hkj : k < j
      ·obtain ⟨c, hc, c1, c2, hS⟩ := HCb.out k (by rw [HCs.out]; exact hkj)
       have hcell := HCells.out k (by rw [HCs.out]; exact hkj)
       rw [hc] at hcell
       have m1 := dvm_lt s HD.out i k (by have := HIJ.out; omega)
       have m2 := ten_nine (j := k) (by omega)
       have m3 : ((dvm s i k : Nat) : Int) <= 1000000000 := by omega
       have m4 : ((tn k : Nat) : Int) <= 1000000000 := by unfold tn; omega
       have HS := vv hS
       have HTn := vv (tn_succ k)
       clear m1 m2 hc hS
       go_wp2
       go_round
       case rel => exact ⟨k + 1, by omega, congrArg _ (by rw [HS.out]; omega), congrArg _ (by rw [HTn.out]; omega), by go_num⟩
       case measure => simp [intOf]; omega
      ·have hkj' : k = j := by omega
       subst hkj'
       clear hk hkj
       have hy0 : dvm s i k < tn k := by have := dvm_lt s HD.out i k HIJ.out; exact this
       have hPi : ((tn k : Nat) : Int) <= 1000000000 := by have := ten_nine hj9; unfold tn; omega
       obtain ⟨P, hP⟩ := yx (tn k)
       obtain ⟨y0, hy⟩ := yx (dvm s i k)
       rw [<- hP] at hPi hy0 ⊢
       rw [<- hy] at hy0 ⊢
       have HSm := vv (mS_small U HLim.out hy0)
       have HP := vv hP
       have HY := vv hy
       have HAdd := vv (dvk_add s i k HIJ.out)
       clear hP hy hy0
       go_wp2
       go_loopw [8, 68] (fun y t wq => ∃ (q : Nat) (L : List Nat), t = .int .i64 q /\ q <= U.length /\ y = .int .u64 (mS U P y0 q / 4294967296 ^ q : Nat) /\ MulAt U L P y0 q /\ wq.ownsRow (w.heap.size + 1) 34 1 (.slice A U.length cap) U.length (u32s L) /\ NatCell wq w.heap.size /\ Below w.heap.size w wq) (fun _ t _ => U.length - (intOf t).toNat)
       case atStart => exact ⟨0, U, rfl, Nat.zero_le _, by rw [mS_zero, Nat.pow_zero, Nat.div_one], MulAt.start HLim.out P y0, HRow1.out, HNC1.out, HB1.out⟩
       case round =>
        obtain ⟨q, L, rfl, hq, rfl, hM, hrow, hNC, hB⟩ := hrel
        have HM := vv hM
        have HRq := vv hrow
        have HNq := vv hNC
        have HBq := vv hB
        have hys := HSm.out q
        by_cases hqn : q < U.length
        ·obtain ⟨g, cap', e, hgb⟩ := row_slice hrow (by omega)
         cases e
         obtain ⟨r1, r2, r3, r4⟩ := row_cell hrow hqn
         rw [hM.high q (Nat.le_refl _)] at r1
         have hul2 : nth U q < 4294967296 := Lim_getD HLim.out q
         have hc := mS_carry U P y0 q
         obtain ⟨Z, hZ⟩ := yx (mS U P y0 (q + 1) / 4294967296 ^ q)
         obtain ⟨y, hyy⟩ := yx (mS U P y0 q / 4294967296 ^ q)
         obtain ⟨v, hv⟩ := yx (nth U q)
         obtain ⟨M, hMu⟩ := yx (v * P)
         rw [<- hZ, <- hyy, <- hv, <- hMu] at hc
         rw [<- hv] at r1 hul2
         rw [<- hyy] at hys ⊢
         have hprod : (v : Int) * (P : Int) = (M : Int) := by rw [hMu, Int.natCast_mul]
         have hsum : (y : Int) + (M : Int) = (Z : Int) := by omega
         have hMb : (M : Int) <= 4294967295000000000 := by
          have b1 : v * P <= 4294967295 * 1000000000 := Nat.mul_le_mul (by omega) (by omega)
          rw [<- hMu] at b1
          omega
         have hvb : (v : Int) <= 4294967295 := by omega
         have hyb : (y : Int) <= 1000000000 := by omega
         have hZb : (Z : Int) <= 4294967296000000000 := by omega
         have HStep := vv (hM.step hqn)
         have HZ := vv hZ
         have HRs : Hid ((wr.setCell ⟨g, q, none⟩ (.int .u32 ((Z : Int) % 4294967296))).ownsRow (w.heap.size + 1) 34 1 (.slice (some ⟨g, 0, none⟩) U.length cap) U.length (u32s (L.set q (Z % 4294967296)))) := vv (by
          have := row_set hrow q (Z % 4294967296)
          rw [Int.natCast_emod] at this
          exact this)
         have HNs := vv (hNC.set (b := g) (o := q) (v := .int .u32 ((Z : Int) % 4294967296)) (by omega))
         have HBs := vv (hB.setCell (p := ⟨g, q, none⟩) (show w.heap.size <= g by omega) (.int .u32 ((Z : Int) % 4294967296)))
         have hqi : (q : Int) < (U.length : Int) := by omega
         clear hM hrow hNC hB hys hul2 hc hZ hyy hv hMu
         go_wp2
         go_roundw
         case rel =>
          refine ⟨q + 1, L.set q (Z % 4294967296), by go_num, by omega, congrArg _ ?_, ?_, HRs.out, HNs.out, HBs.out⟩
          ·rw [<- mS_div, <- HZ.out]; omega
          ·rw [HZ.out]; exact HStep.out
         case measure => simp [intOf]; omega
        ·have hqe : q = U.length := by omega
         subst hqe
         obtain ⟨S, hS⟩ := yx (dvk s (i + k))
         have hfin := HM.out.fin
         have hall := mS_all U P y0
         have eS : val U * P + y0 = S := by rw [hS, HAdd.out, HU.out, HP.out, HY.out]; rfl
         rw [eS] at hfin hall
         rw [hall] at hys ⊢
         have hLl := HM.out.len
         have HLl := vv hLl
         have HTot := vv (Nat.div_add_mod S (4294967296 ^ U.length))
         obtain ⟨y, hyy⟩ := yx (S / 4294967296 ^ U.length)
         rw [<- hyy] at hys HTot ⊢
         rw [<- hfin] at HTot
         have HLm := vv HM.out.lim
         have HS := vv hS
         have hyb : (y : Int) <= 1000000000 := by omega
         clear hall hfin eS hyy hS hys hLl
         have HTs2 := vv (show T.size < t.size by rw [HTs.out]; omega)
         by_cases hy0 : 0 < y
         ·have HUl := vv (show U.length <= 65536 by omega)
          clear hM hrow hNC hB
          go_wp2_with (at_builtin; refine wpList_append_own _ rfl _ _ 26 rfl (w.heap.size + 1) 34 i0 (.int .u32 0) 1 4 Tryz.underlying26 hi hz0 hz1 hz2 rfl (by decide) _ U.length (u32s L) rfl (HRq.out.alloc _) ⟨wr.heap.size, 0, none⟩ 1 1 [.int .u32 (y : Int)] rfl rfl (cell_one_new _ _ _) (by simp [Value.oneCell']) (by unfold maxLen; omega) (by omega) (by have := HBq.out.size; simp; omega) ?_)
          intro v' w5 hown1 hgrow1 _
          have hrow1 : w5.ownsRow (w.heap.size + 1) 34 1 v' (U.length + 1) (u32s (L ++ [y])) := by
           have e : u32s (L ++ [y]) = u32s L ++ [.int .u32 (y : Int)] := by simp [u32s]
           rw [e]; exact hown1
          have hgb := HRq.out.lt
          have hb1 : Below w.heap.size w w5 := by
           have hb2 : Below w.heap.size w (wr.alloc (.cells #[.int .u32 (y : Int)] 34)) := HBq.out.alloc HBq.out.size _
           exact ⟨hgrow1.os.trans hb2.os, hgrow1.tape.trans hb2.tape, hgrow1.output.trans hb2.output, Nat.le_trans hb2.size hgrow1.size, fun i hi => (hgrow1.block i (Nat.lt_of_lt_of_le hi hb2.size) (fun e => by have := (hgb i e.symm).1; omega)).trans (hb2.block i hi)⟩
          have hn1 : NatCell w5 w.heap.size := by
           have h0 := HNq.out.lt
           have h1 : NatCell (wr.alloc (.cells #[.int .u32 (y : Int)] 34)) w.heap.size := HNq.out.below ((Below.refl wr.heap.size wr).alloc (Nat.le_refl _) _)
           have e := hgrow1.block w.heap.size h1.lt (fun e => by have := (hgb _ e.symm).1; omega)
           exact ⟨(World.cell?_of_block e).trans h1.c0, (World.frozen?_of_block e).trans h1.fz, Nat.lt_of_lt_of_le h1.lt hgrow1.size⟩
          have HR1 := vv hrow1
          have HB1 := vv hb1
          have HN1 := vv hn1
          clear hown1 hgrow1 hrow1 hb1 hn1 hgb
          go_wp2
          go_roundw
          case rel =>
           refine ⟨i + k, T, L ++ [y], HIJ.out, rfl, HTl.out, ?_, Lim_append.2 ⟨HLm.out, Lim_cons.2 ⟨by omega, Lim_nil⟩⟩, ?_, ?_, HN1.out, HB1.out⟩
           ·rw [List.length_append, HLl.out]; exact HR1.out
           ·rw [val_snoc, HLl.out, Nat.add_comm, <- HS.out]; exact HTot.out
           ·rw [List.length_append, HLl.out]; show U.length + 1 <= i + k; omega
          case measure => exact HTs2.out
         ·have hyz : y = 0 := by omega
          subst hyz
          clear hy0 hM hrow hNC hB
          go_wp2
          go_roundw
          case rel =>
           refine ⟨i + k, T, L, HIJ.out, rfl, HTl.out, by rw [HLl.out]; exact HRq.out, HLm.out, ?_, by rw [HLl.out]; omega, HNq.out, HBq.out⟩
           have := HTot.out
           rw [Nat.mul_zero, Nat.zero_add] at this
           rw [this]; exact HS.out
          case measure => exact HTs2.out
    ·have hie : i = s.size := by omega
     subst hie
     clear htl
     obtain ⟨A', c', e, hRd, hFr⟩ := rd_of_row HRow.out HLim.out (by omega)
     cases e
     have hs1 : wr.heap.size = wr.heap.size := rfl
     go_wp2_with fail
     refine (trimmed A U.length cap U _ hRd).mono ?_
     rintro e w2 ⟨A2, n2, rfl, hR2, hA2, hB2⟩
     rw [HU.out] at hR2
     have HFr2 : Hid (Fr (w.heap.size + 1) A2) := vv (fun a e => hFr a (hA2 a e))
     have HN2 := vv (HNC.out.below hB2)
     have HB2 := vn HB hB2
     have c0 := HN2.out.c0
     have fz := HN2.out.fz
     have lt := HN2.out.lt
     have HFin : Hid (Rd (w2.setCell ⟨w.heap.size, 0, none⟩ (.slice A2 n2 n2)) A2 n2 n2 (toL (dvk s s.size))) := vv (hR2.other _ _ _ (fun a e => by have := (HFr2.out a e).1; omega))
     have HBel := vv (HB2.out.setCell (p := ⟨w.heap.size, 0, none⟩) (Nat.le_refl _) (.slice A2 n2 n2))
     have hcell : (w2.setCell ⟨w.heap.size, 0, none⟩ (.slice A2 n2 n2)).cell? ⟨w.heap.size, 0, none⟩ = some (.slice A2 n2 n2) := cell_eq c0
     clear hB2 hR2 hA2 hRd hFr hs1
     go_wp2
     exact bodyPost_ret (v := .tuple #[natV A2 n2 n2, .int .i64 0, .int .i64 0]) (by simp [results, Tryz.results23, go_sem, hcell]) rfl ⟨A2, n2, rfl, HFin.out, HFr2.out.mono (by omega), HBel.out⟩
end Go.Proofs.YtbfmpcfcmbjeeaaGreatDoor.Nat_
