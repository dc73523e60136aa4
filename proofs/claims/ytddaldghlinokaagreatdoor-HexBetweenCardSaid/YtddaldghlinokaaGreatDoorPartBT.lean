/- Lemmas. -/
import Derived.Test.YtddaldghlinokaaGreatDoorPartBR
import Derived.Test.YtddaldghlinokaaGreatDoorPartBS
import Derived.Test.YtddaldghlinokaaGreatDoorPartBI
set_option linter.all false
namespace Go.Proofs.YtddaldghlinokaaGreatDoor.Hx
open Go Go.RowKit R5 Scn Fms Exa
abbrev fM (E F b : Nat) : Nat := mantOf F (expOf E F b) (fracOf F b)
abbrev fN (E F b : Nat) : Nat := oddN (fM E F b)
abbrev fX (E F b : Nat) : Int := oddX (fM E F b) (powOf E F (expOf E F b))
abbrev fG (E F b : Nat) : Bool := oddG (negOf E F b) (fM E F b)
theorem oddN_odd {M : Nat} (h : 0 < M) : oddN M % 2 = 1 := by
 unfold oddN
 rw [if_neg (by omega)]
 obtain ⟨m, hm⟩ := tz_spec h
 have e : M / 2 ^ tz M = 2 * m + 1 := Nat.div_eq_of_eq_mul_right (Nat.two_pow_pos _) hm
 omega
theorem oddN_pos {M : Nat} (h : 0 < M) : 0 < oddN M := by have := oddN_odd h; omega
theorem oddN_le (M : Nat) : oddN M <= M := by
 unfold oddN
 split
 ·omega
 ·exact Nat.div_le_self _ _
theorem fM_lt {E F b : Nat} (h4 : F <= 52) : fM E F b < 2 ^ 53 := by
 have hf2 : fracOf F b < 2 ^ F := Nat.mod_lt _ (Nat.two_pow_pos _)
 have hF52 : 2 ^ F <= 2 ^ 52 := Nat.pow_le_pow_right (by decide) h4
 unfold fM mantOf
 split <;> omega
theorem fX_le {E F b : Nat} (h1 : 2 <= E) (h2 : E <= 11) (h4 : F <= 52) : -4000 <= fX E F b /\ fX E F b <= 4000 := by
 have hx : expOf E F b < 2 ^ 11 := Nat.lt_of_lt_of_le (Nat.mod_lt _ (Nat.two_pow_pos _)) (Nat.pow_le_pow_right (by decide) h2)
 have hP : 2 ^ (E - 1) <= 2 ^ 10 := Nat.pow_le_pow_right (by decide) (by omega)
 have hM := fM_lt (E := E) (b := b) h4
 unfold fX oddX powOf
 obtain ⟨P, hPe⟩ := yx (2 ^ (E - 1))
 rw [<- hPe] at hP ⊢
 clear hPe
 split
 ·omega
 ·next h =>
  have ht := tz_lt_bl (n := fM E F b) (by omega)
  have hb := bl_le hM
  split <;> omega
theorem hexNum_odd {neg : Bool} {N k : Nat} {x : Int} (ho : N % 2 = 1) (hx : -4000 <= x) (hx2 : x <= 4000) : hexNum neg (N * 2 ^ k) (x - k) = ⟨2, neg, false, [], 0, neg, N, x, 0⟩ := by
 have hp : 0 < N * 2 ^ k := Nat.mul_pos (by omega) (Nat.two_pow_pos _)
 have ht : tz (N * 2 ^ k) = k := tz_eq (m := N / 2) (by rw [Nat.mul_comm]; congr 1; omega)
 unfold hexNum
 rw [if_neg (by omega), ht, Nat.mul_div_cancel _ (Nat.two_pow_pos _), show x - (k : Int) + (k : Int) = x by omega]
 rw [show clip x = x by unfold clip; omega]
theorem hexNum_none {neg : Bool} {x : Int} : hexNum neg 0 x = ⟨2, neg, false, [], 0, false, 0, 0, 0⟩ := rfl
theorem toL_len {N : Nat} (hN : N < 2 ^ 53) : (toL N).length <= 16384 := by
 rcases Nat.eq_zero_or_pos N with h | h
 ·subst h; decide
 ·have h1 := bl_words h
  have h2 := bl_le hN
  have h3 := h1.1
  unfold words at h3
  omega
theorem twoOk_odd {g : Bool} {N : Nat} {x : Int} (hN : N < 2 ^ 53) (ho : N % 2 = 1) (hx : -4000 <= x) (hx2 : x <= 4000) : twoOk g (toL N).length (toL N) x = true := by
 have h1 := bl_words (N := N) (by omega)
 have h2 := toL_len hN
 have h3 : (toL N).length ≠ 0 := by
  intro h
  have := toL_eq_nil.1 (List.length_eq_zero_iff.1 h)
  omega
 have h4 : nth (toL N) 0 % 2 = 1 := by
  rw [nth_toL, Nat.pow_zero, Nat.div_one]
  omega
 have h5 := h1.2
 unfold words at h5
 unfold twoOk natOk
 rw [if_neg h3, h4]
 simp only [Bool.and_eq_true, Bool.or_eq_true, decide_eq_true_eq]
 exact ⟨⟨⟨⟨h2, Or.inr (by omega)⟩, by omega⟩, by omega⟩, trivial⟩
theorem read_float (G F b K q : Nat) (x : Int) (mode : Nat) (w : World) (g1 : 1 <= G) (g2 : G <= 10) (h3 : 1 <= F) (h4 : F <= 52) (hb : b < 2 ^ (1 + (G + 1) + F)) (hf : expOf (G + 1) F b ≠ R3.tw (G + 1) - 1) (hm : mode <= 4) (hg : Bg w)
  (h0 : fM (G + 1) F b = 0 -> K = 0) (hk : 0 < fM (G + 1) F b -> ∃ k : Nat, K = fN (G + 1) F b * 2 ^ k /\ x - 4 * q = fX (G + 1) F b - k) (hK : K < 16 ^ (q + 1)) (hq : q <= 60000) (h1 : -1000000 <= x) (h2 : x <= 1000000) :
  Calls Tryz.prog 20 #[fm ((G : Int) + 1) F, .string ⟨(txtL (negOf (G + 1) F b) (hexL K (q + 1)) x).toArray⟩, .int .u8 (mode : Int)] w (RdP b 0 w) := by
 have hr := read_text (negOf (G + 1) F b) K q x hK hq h1 h2
 have hs := signed_exact (mode := mode) (by omega) hb hf
 rcases Nat.eq_zero_or_pos (fM (G + 1) F b) with hz | hz
 ·obtain rfl := h0 hz
  rw [hexNum_none] at hr
  have hR := Read_ok G F _ mode _ w g1 g2 h3 h4 hm hg hr rfl (by show (toL 0).length <= 16384; decide) (by show twoOk false (toL 0).length (toL 0) 0 = true; decide)
  have e1 : fG (G + 1) F b = false := by show oddG _ (fM (G + 1) F b) = _; rw [hz]; rfl
  have e2 : fN (G + 1) F b = 0 := by show oddN (fM (G + 1) F b) = _; rw [hz]; rfl
  have e3 : fX (G + 1) F b = 0 := by show oddX (fM (G + 1) F b) _ = _; rw [hz]; rfl
  change signedS (G + 1) F (fG (G + 1) F b) _ mode (fN (G + 1) F b * p2 (fX (G + 1) F b)) (p2 (-fX (G + 1) F b)) = _ at hs
  rw [e1, e2, e3] at hs
  simp only [] at hR
  rw [hs] at hR
  exact hR
 ·obtain ⟨k, rfl, e⟩ := hk hz
  have ho := oddN_odd hz
  have hX := fX_le (b := b) (F := F) (E := G + 1) (by omega) (by omega) h4
  have hN : fN (G + 1) F b < 2 ^ 53 := Nat.lt_of_le_of_lt (oddN_le _) (fM_lt h4)
  rw [e, hexNum_odd ho hX.1 hX.2] at hr
  have hR := Read_ok G F _ mode _ w g1 g2 h3 h4 hm hg hr rfl (toL_len hN) (twoOk_odd hN ho hX.1 hX.2)
  have e1 : fG (G + 1) F b = negOf (G + 1) F b := by show oddG _ (fM (G + 1) F b) = _; unfold oddG; rw [if_neg (by omega)]
  change signedS (G + 1) F (fG (G + 1) F b) _ mode (fN (G + 1) F b * p2 (fX (G + 1) F b)) (p2 (-fX (G + 1) F b)) = _ at hs
  rw [e1] at hs
  simp only [] at hR
  rw [hs] at hR
  exact hR
def behind (N : Nat) : Nat := (bl N + up4 (bl N) - 1) / 4
theorem behind_eq {N : Nat} (h : 0 < N) : 4 * behind N + 1 = bl N + up4 (bl N) := by
 have := bl_pos h
 unfold behind up4
 omega
theorem behind_le {N : Nat} (h : N < 2 ^ 53) : behind N <= 13 := by
 have := bl_le h
 unfold behind up4
 omega
def txN (N more : Nat) : Nat := if N = 0 then 0 else N * 2 ^ (up4 (bl N) + 4 * more)
def txX (N : Nat) (x : Int) : Int := if N = 0 then 0 else x + (bl N : Int) - 1
theorem printL_eq (neg : Bool) (N : Nat) (x : Int) : printL neg N x = txtL neg (hexL (txN N 0) (behind N + 1)) (txX N x) := by
 unfold printL txN txX
 split
 ·next h => subst h; rfl
 ·next h =>
  have := behind_eq (Nat.pos_of_ne_zero h)
  rw [show (bl N + up4 (bl N) + 3) / 4 = behind N + 1 by omega]
  rfl
theorem txN_lt {N : Nat} (more : Nat) : txN N more < 16 ^ (behind N + more + 1) := by
 unfold txN
 split
 ·exact Nat.pow_pos (by decide)
 ·next h =>
  have := behind_eq (Nat.pos_of_ne_zero h)
  have h1 := lt_bl N
  rw [show (16 : Nat) = 2 ^ 4 from rfl, <- Nat.pow_mul]
  calc N * 2 ^ (up4 (bl N) + 4 * more) < 2 ^ bl N * 2 ^ (up4 (bl N) + 4 * more) := Nat.mul_lt_mul_of_pos_right h1 (Nat.two_pow_pos _)
   _ = 2 ^ (bl N + (up4 (bl N) + 4 * more)) := (Nat.pow_add _ _ _).symm
   _ <= 2 ^ (4 * (behind N + more + 1)) := Nat.pow_le_pow_right (by decide) (by omega)
theorem plcL_eq (neg g : Bool) (N : Nat) (x : Int) (mode more : Nat) : plcL neg g N x mode (behind N + more) = txtL neg (hexL (txN N more) (behind N + more + 1)) (txX N x) := by
 unfold plcL txN txX
 split
 ·rfl
 ·next h =>
  have hb := behind_eq (Nat.pos_of_ne_zero h)
  have hk : plcK N (behind N + more) = ((up4 (bl N) + 4 * more : Nat) : Int) := by unfold plcK; omega
  have hn : plcN g N mode (behind N + more) = N * 2 ^ (up4 (bl N) + 4 * more) := by
   unfold plcN
   rw [hk, p2_nat, p2_nonpos (by omega)]
   unfold rnd
   rw [if_pos (Nat.mod_one _), Nat.div_one]
  rw [hn]
  have hl : ¬ 4 * (behind N + more) + 1 < bl (N * 2 ^ (up4 (bl N) + 4 * more)) := by
   have : bl (N * 2 ^ (up4 (bl N) + 4 * more)) <= bl N + (up4 (bl N) + 4 * more) := bl_le (by
    have h := Nat.mul_lt_mul_of_pos_right (lt_bl N) (Nat.two_pow_pos (up4 (bl N) + 4 * more))
    rwa [<- Nat.pow_add] at h)
   omega
  rw [if_neg hl]
theorem fig_at {set s : ByteArray} {i : Nat} {c : UInt8} (h : s.data.toList[i]? = some c) : fig set s i = Lib.indexByte set.data.toList (low c.toNat).toUInt8 := by
 have hl : i < s.size := by
  have := (List.getElem?_eq_some_iff.1 h).1
  rwa [Array.length_toList] at this
 unfold fig
 rw [if_pos hl, List.getD_eq_getElem?_getD, h]
 rfl
theorem fig_hx : ∀ d, d < 16 -> Lib.indexByte figS.data.toList (low (hx d).toNat).toUInt8 = d := by decide +kernel
theorem hexL_get (N : Nat) : ∀ (k i : Nat), i < k -> (hexL N k)[i]? = some (hx (N / 16 ^ (k - 1 - i) % 16))
 | 0, i, h => absurd h (by omega)
 | k + 1, 0, _ => by simp [hexL]
 | k + 1, i + 1, h => by
  show (hx _ :: hexL N k)[i + 1]? = _
  rw [List.getElem?_cons_succ, hexL_get N k i (by omega), show k + 1 - 1 - (i + 1) = k - 1 - i by omega]
theorem dump_get (E F b i : Nat) (h : i < (E + F + 4) / 4) : (dumpL E F b)[2 + i]? = some (hx (b / 16 ^ ((E + F + 4) / 4 - 1 - i) % 16)) := by
 unfold dumpL
 rw [List.getElem?_append_right (by simp), show 2 + i - ([48, 120] : List UInt8).length = i by show 2 + i - 2 = i; omega]
 exact hexL_get b _ i h
theorem dump_fig (E F b i : Nat) (h : i < (E + F + 4) / 4) : fig figS ⟨(dumpL E F b).toArray⟩ (2 + i) = ((b / 16 ^ ((E + F + 4) / 4 - 1 - i) % 16 : Nat) : Int) := by
 rw [fig_at (c := hx (b / 16 ^ ((E + F + 4) / 4 - 1 - i) % 16)) (dump_get E F b i h)]
 exact fig_hx _ (Nat.mod_lt _ (by decide))
theorem dump_worth (E F b : Nat) (hb : b < 2 ^ (1 + E + F)) : ∀ k, k <= (E + F + 4) / 4 -> worthL ⟨(dumpL E F b).toArray⟩ k = b / 16 ^ ((E + F + 4) / 4 - k)
 | 0, _ => by
  show 0 = _
  rw [Nat.div_eq_of_lt]
  rw [Nat.sub_zero, show (16 : Nat) = 2 ^ 4 from rfl, <- Nat.pow_mul]
  exact Nat.lt_of_lt_of_le hb (Nat.pow_le_pow_right (by decide) (by omega))
 | k + 1, h => by
  show worthL _ k * 16 + (fig figS _ (2 + k)).toNat = _
  rw [dump_worth E F b hb k (by omega), dump_fig E F b k (by omega), Int.toNat_natCast]
  rw [show (E + F + 4) / 4 - k = (E + F + 4) / 4 - (k + 1) + 1 by omega, Nat.pow_succ, <- Nat.div_div_eq_div_mul, show (E + F + 4) / 4 - 1 - k = (E + F + 4) / 4 - (k + 1) by omega]
  have := Nat.div_add_mod (b / 16 ^ ((E + F + 4) / 4 - (k + 1))) 16
  omega
theorem dump_size (E F b : Nat) : (⟨(dumpL E F b).toArray⟩ : ByteArray).size = 2 + (E + F + 4) / 4 := by
 show (dumpL E F b).toArray.size = _
 simp [dumpL, hexL_len]
 omega
theorem dump_LdE (E F b : Nat) (hb : b < 2 ^ (1 + E + F)) (hfit : fitsErr E F b = 0) : LdE E F ⟨(dumpL E F b).toArray⟩ ((E + F + 4) / 4) (ldV b 0 0) := by
 have hw := dump_worth E F b hb _ (Nat.le_refl _)
 rw [Nat.sub_self, Nat.pow_zero, Nat.div_one] at hw
 refine Or.inr ⟨fun j hj => ?_, Or.inr (Or.inr ⟨by rw [dump_size]; omega, by rw [hw]; exact hfit, by rw [hw]⟩)⟩
 unfold atL
 split
 ·next h => rw [fig_at (c := 48) rfl]; decide
 ·split
  ·next h => rw [fig_at (c := 120) rfl]; decide
  ·next h0 h1 =>
   obtain ⟨i, rfl⟩ : ∃ i, j = 2 + i := ⟨j - 2, by omega⟩
   rw [dump_fig E F b i (by omega)]
   omega
theorem load_dump (E F b : Nat) (w : World) (h1 : 2 <= E) (h2 : E <= 11) (h3 : 1 <= F) (h4 : F <= 52) (hb : b < 2 ^ (1 + E + F)) (hfit : fitsErr E F b = 0) :
  Calls Tryz.prog 19 #[fm E F, .string ⟨(dumpL E F b).toArray⟩] w fun e w' => e = ldV b 0 0 /\ Below w.heap.size w w' :=
 (Load E F _ w h1 h2 h3 h4 (by rw [dump_size]; omega)).mono fun _ _ h => ⟨h.1.uniq (dump_LdE E F b hb hfit), h.2⟩
def cst (a : Nat × Bool) (c : UInt8) : Nat × Bool := (if a.2 then a.1 + 1 else a.1, a.2 || c == 46)
def cnt (l : List UInt8) : Nat × Bool := l.foldl cst (0, false)
theorem cst_off : ∀ (l : List UInt8), (∀ c ∈ l, c ≠ 46) -> l.foldl cst (0, false) = (0, false)
 | [], _ => rfl
 | c :: l, h => by
  have hc : (c == 46) = false := by rw [beq_eq_false_iff_ne]; exact h c (List.mem_cons_self ..)
  have : cst (0, false) c = (0, false) := by simp [cst, hc]
  rw [List.foldl_cons, this]
  exact cst_off l fun d hd => h d (List.mem_cons_of_mem _ hd)
theorem cst_on : ∀ (l : List UInt8) (n : Nat), l.foldl cst (n, true) = (n + l.length, true)
 | [], _ => rfl
 | c :: l, n => by
  have : cst (n, true) c = (n + 1, true) := by simp [cst]
  rw [List.foldl_cons, this, cst_on l, List.length_cons]
  congr 1
  omega
def headL (neg : Bool) (N q : Nat) : List UInt8 := (if neg then [45] else []) ++ ([48, 120] ++ (hexL N (q + 1)).take 1 ++ (if 1 < (hexL N (q + 1)).length then 46 :: (hexL N (q + 1)).drop 1 else []))
theorem txt_head (neg : Bool) (N q : Nat) (x : Int) : txtL neg (hexL N (q + 1)) x = headL neg N q ++ 112 :: Lib.itoa x := by
 unfold txtL headL
 simp only [List.append_assoc]
theorem hx_ne : ∀ d, d < 16 -> hx d ≠ 46 /\ hx d ≠ 112 := by decide
theorem hexL_ne {N k : Nat} {c : UInt8} (h : c ∈ hexL N k) : c ≠ 46 /\ c ≠ 112 := by
 obtain ⟨d, hd, rfl⟩ := hexL_mem N k c h
 exact hx_ne d hd
theorem cnt_head (neg : Bool) (N q : Nat) : (cnt (headL neg N q)).1 = q := by
 have hn : (if neg then [45] else [] : List UInt8).foldl cst (0, false) = (0, false) := by cases neg <;> rfl
 have hl := hexL_len N (q + 1)
 unfold cnt headL
 rw [List.foldl_append, hn, List.foldl_append, List.foldl_append]
 rw [show [48, 120].foldl cst (0, false) = (0, false) from rfl, cst_off _ fun c hc => (hexL_ne (List.mem_of_mem_take hc)).1]
 rw [hl]
 split
 ·next h =>
  rw [List.foldl_cons, show cst (0, false) 46 = (0, true) from rfl, cst_on, List.length_drop, hl]
  simp
 ·next h =>
  show 0 = q
  omega
theorem head_ne (neg : Bool) (N q : Nat) : ∀ c ∈ headL neg N q, c ≠ 112 := by
 intro c hc
 unfold headL at hc
 have hl := hexL_len N (q + 1)
 rcases List.mem_append.1 hc with hc | hc
 ·cases neg
  ·cases hc
  ·simp at hc; subst hc; decide
 ·rcases List.mem_append.1 hc with hc | hc
  ·rcases List.mem_append.1 hc with hc | hc
   ·simp at hc
    rcases hc with rfl | rfl <;> decide
   ·exact (hexL_ne (List.mem_of_mem_take hc)).2
  ·split at hc
   ·rcases List.mem_cons.1 hc with rfl | hc
    ·decide
    ·exact (hexL_ne (List.mem_of_mem_drop hc)).2
   ·cases hc
theorem head_len (neg : Bool) (N q : Nat) : (headL neg N q).length = (if neg then 1 else 0) + (if q = 0 then 3 else q + 4) := by
 have hl := hexL_len N (q + 1)
 unfold headL
 rw [hl]
 cases neg <;> cases q <;> simp [hexL_len] <;> omega
theorem fits_zero {E F : Int} {b : Nat} (h : fitsErr E F b = 0) : ∃ e f : Nat, E = e /\ F = f /\ 2 <= e /\ e <= 11 /\ 1 <= f /\ f <= 52 /\ b < 2 ^ (1 + e + f) := by
 unfold fitsErr at h
 split at h
 ·next hok =>
  obtain ⟨e, f, rfl, rfl, h1, h2, h3, h4⟩ := R3.formOk_nat hok
  split at h
  ·exact absurd h (by decide)
  ·next hlt =>
   exact ⟨e, f, rfl, rfl, h1, h2, h3, h4, Nat.lt_of_lt_of_le (lt_bl b) (Nat.pow_le_pow_right (by decide) (by omega))⟩
 ·exact absurd h (by decide)
theorem u64_of {E F b : Nat} (h2 : E <= 11) (h4 : F <= 52) (hb : b < 2 ^ (1 + E + F)) : b < 18446744073709551616 :=
 Nat.lt_of_lt_of_le hb (Nat.le_trans (Nat.pow_le_pow_right (by decide) (show 1 + E + F <= 64 by omega)) (by decide))
set_option maxRecDepth 100000 in
set_option maxHeartbeats 4000000 in
theorem back_no (E F : Int) (b : Nat) (mode more : Value) (w : World) (hg : Bg w) (ht : Ten w) (hb : b < 18446744073709551616) (h : fitsErr E F b ≠ 0) :
  Calls Tryz.prog 5 #[fm E F, .int .u64 b, mode, more] w fun e w' => e = .returned (.bool true) /\ Below w.heap.size w w' := by
 obtain ⟨w0, hw0⟩ := yx (w.alloc (.cells #[.int .i64 E, .int .i64 F] 23))
 have hC : Ctx w [(w.heap.size, 23, [.int .i64 E, .int .i64 F])] w0 := by rw [hw0]; exact (Ctx.nil w).new _ _ rfl
 have HAw := vv (awake w0 (hg.below hC.low) (ht.below hC.low))
 have HDu := vv fun w => Dump_no E F b w hb h
 obtain ⟨q, hq⟩ := yx (fitsErr E F b)
 rw [<- hq] at HDu h
 have h' : (q == 0) = false := by rw [beq_eq_false_iff_ne]; exact h
 have h'' : (q != 0) = true := by rw [bne_iff_ne]; exact h
 have HC := vv hC
 have HW := vv hw0
 clear hg ht hC hw0 h hq hb
 go_enter Tryz.func5, Tryz.ntmps5
 go_wp2_with fail
 rw [<- HW.out]
 refine HAw.out.mono ?_
 rintro e w1 ⟨rfl, hB⟩
 have HC1 := vv (HC.out.step hB)
 have c0 := HC1.out.get 0 rfl |>.cell 0
 have c1 := HC1.out.get 0 rfl |>.cell 1
 have cl := HC1.out.get 0 rfl |>.lt
 simp only [List.getElem?_cons_zero, List.getElem?_cons_succ] at c0 c1
 clear hB
 go_wp2_with fail
 refine (HDu.out _).mono ?_
 rintro e w2 ⟨rfl, hB⟩
 have HC2 := vv (HC1.out.step hB)
 clear hB c0 c1 cl
 go_wp2
 go_ret
 exact ⟨rfl, HC2.out.low⟩
set_option maxRecDepth 100000 in
set_option maxHeartbeats 4000000 in
theorem back_inf (E F b : Nat) (mode more : Value) (w : World) (hg : Bg w) (ht : Ten w) (h1 : 2 <= E) (h2 : E <= 11) (h3 : 1 <= F) (h4 : F <= 52) (hb : b < 2 ^ (1 + E + F)) (hfit : fitsErr E F b = 0) (hf : expOf E F b = R3.tw E - 1) :
  Calls Tryz.prog 5 #[fm E F, .int .u64 b, mode, more] w fun e w' => e = .returned (.bool true) /\ Below w.heap.size w w' := by
 obtain ⟨w0, hw0⟩ := yx (w.alloc (.cells #[.int .i64 (E : Int), .int .i64 (F : Int)] 23))
 have hC : Ctx w [(w.heap.size, 23, [.int .i64 (E : Int), .int .i64 (F : Int)])] w0 := by rw [hw0]; exact (Ctx.nil w).new _ _ rfl
 have HAw := vv (awake w0 (hg.below hC.low) (ht.below hC.low))
 have HDu := vv fun w => Dump E F b w h1 h2 h3 h4 hb
 have HLo := vv fun w => load_dump E F b w h1 h2 h3 h4 hb hfit
 have HPr := vv fun w' (h : Below w.heap.size w w') => Print_no E F b w' h1 h2 h3 h4 hb hf (hg.below h).std
 obtain ⟨D, hD⟩ : ∃ D : ByteArray, D = ⟨(dumpL E F b).toArray⟩ := ⟨_, rfl⟩
 rw [<- hD] at HDu HLo
 have HC := vv hC
 have HW := vv hw0
 clear hg ht hC hw0 h1 h2 h3 h4 hb hfit hf hD
 go_enter Tryz.func5, Tryz.ntmps5
 go_wp2_with fail
 rw [<- HW.out]
 refine HAw.out.mono ?_
 rintro e w1 ⟨rfl, hB⟩
 have HC1 := vv (HC.out.step hB)
 have c0 := HC1.out.get 0 rfl |>.cell 0
 have c1 := HC1.out.get 0 rfl |>.cell 1
 have cl := HC1.out.get 0 rfl |>.lt
 simp only [List.getElem?_cons_zero, List.getElem?_cons_succ] at c0 c1
 clear hB
 go_wp2_with fail
 refine (HDu.out _).mono ?_
 rintro e w2 ⟨rfl, hB⟩
 have HC2 := vv (HC1.out.step hB)
 clear hB c0 c1 cl
 have c0 := HC2.out.get 0 rfl |>.cell 0
 have c1 := HC2.out.get 0 rfl |>.cell 1
 have cl := HC2.out.get 0 rfl |>.lt
 simp only [List.getElem?_cons_zero, List.getElem?_cons_succ] at c0 c1
 go_wp2_with fail
 refine (HLo.out _).mono ?_
 rintro e w3 ⟨rfl, hB⟩
 have HC3 := vv (HC2.out.step hB)
 clear hB c0 c1 cl
 have c0 := HC3.out.get 0 rfl |>.cell 0
 have c1 := HC3.out.get 0 rfl |>.cell 1
 have cl := HC3.out.get 0 rfl |>.lt
 simp only [List.getElem?_cons_zero, List.getElem?_cons_succ] at c0 c1
 go_wp2_with fail
 refine (HPr.out _ HC3.out.low).mono ?_
 rintro e w4 ⟨rfl, hB⟩
 have HC4 := vv (HC3.out.step hB)
 clear hB c0 c1 cl
 go_wp2
 go_ret
 exact ⟨rfl, HC4.out.low⟩
theorem txt_size (neg : Bool) (N q : Nat) (x : Int) : (⟨(txtL neg (hexL N (q + 1)) x).toArray⟩ : ByteArray).size = (if neg then 1 else 0) + (if q = 0 then 3 else q + 4) + 1 + (Lib.itoa x).length := by
 show (txtL neg (hexL N (q + 1)) x).toArray.size = _
 rw [List.size_toArray, txt_head, List.length_append, List.length_cons, head_len]
 omega
structure BackP (E F : Int) (b q : Nat) (H T : List UInt8) (D S : ByteArray) (L : Nat -> ByteArray) (w : World) : Prop where
 du : ∀ w', Calls Tryz.prog 17 #[fm E F, .int .u64 b] w' fun e w'' => e = .returned (.tuple #[.string D, .int .i64 0]) /\ Below w'.heap.size w' w''
 lo : ∀ w', Calls Tryz.prog 19 #[fm E F, .string D] w' fun e w'' => e = ldV b 0 0 /\ Below w'.heap.size w' w''
 pr : ∀ w', Below w.heap.size w w' -> Calls Tryz.prog 13 #[fm E F, .int .u64 b] w' fun e w'' => e = .returned (.tuple #[.string S, .int .i64 0]) /\ Below w'.heap.size w' w''
 rd : ∀ (mode : Nat) w', mode <= 4 -> Below w.heap.size w w' -> Calls Tryz.prog 20 #[fm E F, .string S, .int .u8 mode] w' (RdP b 0 w')
 pl : ∀ (m mode : Nat) w', m <= 100 -> mode <= 4 -> Below w.heap.size w w' -> Calls Tryz.prog 15 #[fm E F, .int .u64 b, .int .i64 ((q : Int) + m), .int .u8 mode] w' fun e w'' => e = .returned (.tuple #[.string (L m), .int .i64 0]) /\ Below w'.heap.size w' w''
 rl : ∀ (m mode : Nat) w', m <= 100 -> mode <= 4 -> Below w.heap.size w w' -> Calls Tryz.prog 20 #[fm E F, .string (L m), .int .u8 mode] w' (RdP b 0 w')
 sd : S.data.toList = H ++ 112 :: T
 hn : ∀ c ∈ H, c ≠ 112
 hc : (cnt H).1 = q
 hl : H.length <= 100
 sz : ∀ m, m <= 100 -> (L m).size = S.size + m \/ ((L m).size = S.size + m + 1 /\ 0 < m)
 sm : S.size <= 1000
theorem back_parts (E F b : Nat) (w : World) (hg : Bg w) (ht : Ten w) (h1 : 2 <= E) (h2 : E <= 11) (h3 : 1 <= F) (h4 : F <= 52) (hb : b < 2 ^ (1 + E + F)) (hfit : fitsErr E F b = 0) (hf : expOf E F b ≠ R3.tw E - 1) :
  ∃ q H T D S L, BackP E F b q H T D S L w := by
 have hb64 := u64_of h2 h4 hb
 have hX := fX_le (b := b) h1 h2 h4
 have hN : fN E F b < 2 ^ 53 := Nat.lt_of_le_of_lt (oddN_le _) (fM_lt h4)
 have hFi : ∀ w', Below w.heap.size w w' -> Calls Tryz.prog 52 #[fm E F, .int .u64 (b : Int)] w' (FinP (negOf E F b) (fG E F b) (fN E F b) (fX E F b) w') := fun w' h =>
  finite E F b w' h1 h2 h3 h4 hb hf (hg.below h).std _ _ _ rfl rfl rfl
 have hbh := behind_le hN
 have hxx : -5000 <= txX (fN E F b) (fX E F b) /\ txX (fN E F b) (fX E F b) <= 5000 := by
  have := bl_le hN
  unfold txX
  split <;> omega
 have hRd : ∀ (m mode : Nat) w', m <= 100 -> mode <= 4 -> Below w.heap.size w w' -> Calls Tryz.prog 20 #[fm E F, .string ⟨(txtL (negOf E F b) (hexL (txN (fN E F b) m) (behind (fN E F b) + m + 1)) (txX (fN E F b) (fX E F b))).toArray⟩, .int .u8 mode] w' (RdP b 0 w') := fun m mode w' hm hmd h => by
  obtain ⟨G, rfl⟩ : ∃ G, E = G + 1 := ⟨E - 1, by omega⟩
  have := read_float G F b (txN (fN (G + 1) F b) m) (behind (fN (G + 1) F b) + m) (txX (fN (G + 1) F b) (fX (G + 1) F b)) mode w' (by omega) (by omega) h3 h4 hb hf hmd (hg.below h)
   (fun h0 => by
    have : fN (G + 1) F b = 0 := by show oddN (fM (G + 1) F b) = 0; rw [h0]; rfl
    unfold txN; rw [if_pos this])
   (fun h0 => by
    have hp : 0 < fN (G + 1) F b := oddN_pos h0
    have hbe := behind_eq hp
    refine ⟨up4 (bl (fN (G + 1) F b)) + 4 * m, ?_, ?_⟩
    ·unfold txN; rw [if_neg (by omega)]
    ·unfold txX; rw [if_neg (by omega)]; omega)
   (txN_lt m) (by omega) (by omega) (by omega)
  rwa [show (((G + 1 : Nat) : Int)) = (G : Int) + 1 by omega]
 have hiL : (Lib.itoa (txX (fN E F b) (fX E F b))).length <= 100 := by
  have hn := nDigits_le 7 (txX (fN E F b) (fX E F b)).natAbs (by omega) (by omega)
  have h2 : (Lib.itoa (txX (fN E F b) (fX E F b))).length <= 1 + Lib.nDigits (txX (fN E F b) (fX E F b)).natAbs := by
   unfold Lib.itoa
   split
   ·simp [Lib.decDigits_length]; omega
   ·rw [show (txX (fN E F b) (fX E F b)).toNat = (txX (fN E F b) (fX E F b)).natAbs by omega, Lib.decDigits_length]; omega
  omega
 refine ⟨behind (fN E F b), headL (negOf E F b) (txN (fN E F b) 0) (behind (fN E F b)), Lib.itoa (txX (fN E F b) (fX E F b)), _, ⟨(printL (negOf E F b) (fN E F b) (fX E F b)).toArray⟩,
  fun m => ⟨(txtL (negOf E F b) (hexL (txN (fN E F b) m) (behind (fN E F b) + m + 1)) (txX (fN E F b) (fX E F b))).toArray⟩,
  fun w' => Dump E F b w' h1 h2 h3 h4 hb, fun w' => load_dump E F b w' h1 h2 h3 h4 hb hfit, fun w' h => ?_, fun mode w' hmd h => ?_, fun m mode w' hm hmd h => ?_, hRd, ?_, head_ne _ _ _, cnt_head _ _ _, ?_, fun m hm => ?_, ?_⟩
 ·rcases Nat.eq_zero_or_pos (fN E F b) with h0 | h0
  ·rw [h0] at hFi ⊢
   exact Print0 E F b _ _ _ w' hb64 (ht.below h) fun w2 h' => hFi w2 (h.trans (h'.mono h.size))
  ·exact Print1 E F b _ _ _ _ w' hb64 (ht.below h) h0 hN hX.1 hX.2 fun w2 h' => hFi w2 (h.trans (h'.mono h.size))
 ·rw [printL_eq]
  exact hRd 0 mode w' (by decide) hmd h
 ·rw [<- plcL_eq (negOf E F b) (fG E F b) (fN E F b) (fX E F b) mode m, show ((behind (fN E F b) : Int) + (m : Int)) = ((behind (fN E F b) + m : Nat) : Int) by omega]
  rcases Nat.eq_zero_or_pos (fN E F b) with h0 | h0
  ·rw [h0] at hFi ⊢
   exact Places0 E F b _ _ _ _ mode w' hb64 (ht.below h) (by rw [show behind 0 = 0 by decide]; omega) hmd hfit fun w2 h' => hFi w2 (h.trans (h'.mono h.size))
  ·exact Places1 E F b _ _ _ _ _ mode w' hb64 (ht.below h) (hg.below h).std h0 hN hX.1 hX.2 (by omega) hmd hfit fun w2 h' => hFi w2 (h.trans (h'.mono h.size))
 ·show (printL (negOf E F b) (fN E F b) (fX E F b)).toArray.toList = _
  rw [List.toList_toArray, printL_eq, txt_head]
 ·rw [head_len]
  cases negOf E F b <;> simp <;> split <;> omega
 ·rw [printL_eq, txt_size, txt_size]
  have key : ∀ a q l : Nat, (a + (if q + m = 0 then 3 else q + m + 4) + 1 + l = a + (if q = 0 then 3 else q + 4) + 1 + l + m) \/ (a + (if q + m = 0 then 3 else q + m + 4) + 1 + l = a + (if q = 0 then 3 else q + 4) + 1 + l + m + 1 /\ 0 < m) := by
   intro a q l
   split <;> split <;> omega
  exact key _ _ _
 ·rw [printL_eq, txt_size]
  have key : ∀ a q l : Nat, a <= 1 -> q <= 100 -> l <= 100 -> a + (if q = 0 then 3 else q + 4) + 1 + l <= 1000 := by
   intro a q l h1 h2 h3
   split <;> omega
  exact key _ _ _ (by split <;> decide) (by omega) hiL
end Go.Proofs.YtddaldghlinokaaGreatDoor.Hx
