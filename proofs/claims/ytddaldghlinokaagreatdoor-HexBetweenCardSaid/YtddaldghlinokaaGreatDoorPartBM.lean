/- Lemmas. -/
import Derived.Test.YtddaldghlinokaaGreatDoorPartBL
import Derived.Test.YtddaldghlinokaaGreatDoorPartBD
set_option linter.all false
namespace Go.Proofs.YtddaldghlinokaaGreatDoor.Exa
open Go Go.RowKit R5 Scn Hx
def sgnD (g : Bool) (N : Nat) : Int := if N = 0 then 0 else if g then -1 else 1
def cmpD (g : Bool) (N : Nat) (x : Int) (h : Bool) (M : Nat) (y : Int) : Int :=
 if sgnD g N ≠ sgnD h M \/ sgnD g N = 0 then max (-1) (min 1 (sgnD g N - sgnD h M)) else sgnD g N * cmpI (N * p2 (x - y)) (M * p2 (y - x))
theorem sgnD_bd (g : Bool) (N : Nat) : -1 <= sgnD g N /\ sgnD g N <= 1 := by unfold sgnD; split <;> (try split) <;> omega
theorem cmpI_bd (a b : Nat) : -1 <= cmpI a b /\ cmpI a b <= 1 := by unfold cmpI; split <;> (try split) <;> omega
theorem top_lt {N M : Nat} {x y : Int} (hM : 0 < M) (h : (bl N : Int) + x < bl M + y) : N * p2 (x - y) < M * p2 (y - x) := by
 have h1 := lt_bl N
 have h2 := le_bl hM
 have h3 := bl_pos hM
 have e : 2 ^ bl N * p2 (x - y) <= 2 ^ (bl M - 1) * p2 (y - x) := by
  unfold p2
  rw [<- Nat.pow_add, <- Nat.pow_add]
  exact Nat.pow_le_pow_right (by decide) (by omega)
 calc N * p2 (x - y) < 2 ^ bl N * p2 (x - y) := Nat.mul_lt_mul_of_pos_right h1 (p2_pos _)
  _ <= 2 ^ (bl M - 1) * p2 (y - x) := e
  _ <= M * p2 (y - x) := Nat.mul_le_mul_right _ h2
set_option maxHeartbeats 1000000 in
theorem sign_ (g : Bool) (A : Option Addr) (n c N : Nat) (x : Int) (w : World) (ha : Rd w A n c (toL N)) :
  Calls Tryz.prog 94 #[dyadV g A n c x] w fun e w' => e = .returned (.int .i64 (sgnD g N)) /\ Below w.heap.size w w' := by
 obtain ⟨w0, hw0⟩ := yx (w.alloc (.cells #[.bool g, .slice A n c, .int .i64 x] 30))
 have hC : Ctx w [(w.heap.size, 30, [.bool g, .slice A n c, .int .i64 x])] w0 := by rw [hw0]; exact (Ctx.nil w).new _ _ rfl
 have HW := vv hw0
 have HC := vv hC
 have c1 := hC.get 0 rfl |>.cell 1
 have cl := hC.get 0 rfl |>.lt
 simp only [List.getElem?_cons_zero, List.getElem?_cons_succ] at c1
 have hw := ha.words
 rcases Nat.eq_zero_or_pos n with h0 | h0
 ·subst h0
  have hN : N = 0 := words_eq_zero.1 hw
  subst hN
  have HNo := vv fun w => none_0 A c w
  clear hw0 hC hw ha
  go_enter Tryz.func94, Tryz.ntmps94
  go_wp2_with fail
  rw [<- HW.out]
  refine (HNo.out _).mono ?_
  rintro e w1 ⟨rfl, hB⟩
  have HC1 := vv (HC.out.step hB)
  clear hB c1 cl
  go_wp2
  go_ret
  exact ⟨rfl, HC1.out.low⟩
 ·have hN : N ≠ 0 := by
   rintro rfl
   rw [words_zero] at hw
   omega
  have HNo := vv fun w => none_pos A n c w h0
  have HE : Hid (sgnD g N = if g then -1 else 1) := vv (if_neg hN)
  clear hw0 hC hw ha hN h0
  cases g
  all_goals
   go_enter Tryz.func94, Tryz.ntmps94
   go_wp2_with fail
   rw [<- HW.out]
   refine (HNo.out _).mono ?_
   rintro e w1 ⟨rfl, hB⟩
   have HC1 := vv (HC.out.step hB)
   clear hB c1 cl
   have c0 := HC1.out.get 0 rfl |>.cell 0
   have cl := HC1.out.get 0 rfl |>.lt
   simp only [List.getElem?_cons_zero, List.getElem?_cons_succ] at c0
   go_wp2
   go_ret
   exact ⟨retI HE.out.symm, HC1.out.low⟩
abbrev two (w : World) (g : Bool) (A : Option Addr) (n c : Nat) (x : Int) (h : Bool) (B : Option Addr) (m d : Nat) (y : Int) : List BlkD :=
 [(w.heap.size + 1, 30, [.bool h, .slice B m d, .int .i64 y]), (w.heap.size, 30, [.bool g, .slice A n c, .int .i64 x])]
theorem two_made (w : World) (g : Bool) (A : Option Addr) (n c : Nat) (x : Int) (h : Bool) (B : Option Addr) (m d : Nat) (y : Int) :
  Ctx w (two w g A n c x h B m d y) ((w.alloc (.cells #[.bool g, .slice A n c, .int .i64 x] 30)).alloc (.cells #[.bool h, .slice B m d, .int .i64 y] 30)) :=
 ((Ctx.nil w).new _ [.bool g, .slice A n c, .int .i64 x] rfl).new _ [.bool h, .slice B m d, .int .i64 y] (by simp)
theorem six {w : World} {g : Bool} {A : Option Addr} {n c : Nat} {x : Int} {h : Bool} {B : Option Addr} {m d : Nat} {y : Int} {w' : World} (hc : Ctx w (two w g A n c x h B m d y) w') :
  w'.cell? ⟨w.heap.size, 0, none⟩ = some (.bool g) /\ w'.cell? ⟨w.heap.size, 1, none⟩ = some (.slice A n c) /\ w'.cell? ⟨w.heap.size, 2, none⟩ = some (.int .i64 x) /\
   w'.cell? ⟨w.heap.size + 1, 0, none⟩ = some (.bool h) /\ w'.cell? ⟨w.heap.size + 1, 1, none⟩ = some (.slice B m d) /\ w'.cell? ⟨w.heap.size + 1, 2, none⟩ = some (.int .i64 y) :=
 ⟨(hc.get 1 rfl).cell 0, (hc.get 1 rfl).cell 1, (hc.get 1 rfl).cell 2, (hc.get 0 rfl).cell 0, (hc.get 0 rfl).cell 1, (hc.get 0 rfl).cell 2⟩
set_option maxHeartbeats 1000000 in
theorem both_ (g : Bool) (A : Option Addr) (n c N : Nat) (x : Int) (h : Bool) (B : Option Addr) (m d M : Nat) (y : Int) (w : World) (ha : Rd w A n c (toL N)) (hb : Rd w B m d (toL M))
  (ea : exaErr g n (toL N) x = 0) (eb : exaErr h m (toL M) y = 0) :
  Calls Tryz.prog 93 #[dyadV g A n c x, dyadV h B m d y] w fun e w' => e = .returned (.int .i64 0) /\ Below w.heap.size w w' := by
 have HA := vv fun w' (hB : Below w.heap.size w w') => Check g A n c (toL N) x w' (ha.below hB rfl)
 have HB := vv fun w' (hB : Below w.heap.size w w') => Check h B m d (toL M) y w' (hb.below hB rfl)
 rw [ea] at HA
 rw [eb] at HB
 have hC := two_made w g A n c x h B m d y
 obtain ⟨w0, hw0⟩ := yx ((w.alloc (.cells #[.bool g, .slice A n c, .int .i64 x] 30)).alloc (.cells #[.bool h, .slice B m d, .int .i64 y] 30))
 rw [<- hw0] at hC
 have HW := vv hw0
 have HC := vv hC
 clear hw0 hC ha hb ea eb
 go_enter Tryz.func93, Tryz.ntmps93
 go_wp2_with fail
 rw [<- HW.out]
 refine (HA.out _ HC.out.low).mono ?_
 rintro e w1 ⟨rfl, hB⟩
 have HC1 := vv (HC.out.step hB)
 clear hB
 have c0 := HC1.out.get 0 rfl |>.cell 0
 have c1 := HC1.out.get 0 rfl |>.cell 1
 have c2 := HC1.out.get 0 rfl |>.cell 2
 have cl := HC1.out.get 0 rfl |>.lt
 simp only [List.getElem?_cons_zero, List.getElem?_cons_succ] at c0 c1 c2
 go_wp2_with fail
 refine (HB.out _ HC1.out.low).mono ?_
 rintro e w2 ⟨rfl, hB⟩
 have HC2 := vv (HC1.out.step hB)
 clear hB
 go_wp2
 go_ret
 exact ⟨rfl, HC2.out.low⟩
def LvP (N M : Nat) (z : Int) (w : World) (e : Ending) (w' : World) : Prop :=
 ∃ A n B m, e = .returned (.tuple #[natV A n n, natV B m m, .int .i64 z, .int .i64 0]) /\ Rd w' A n n (toL N) /\ Rd w' B m m (toL M) /\ n <= 16384 /\ m <= 16384 /\ Below w.heap.size w w'
theorem up_sized {N : Nat} {z : Int} (h : bl N <= 100) (hz : z <= 20000) : bl (N * p2 z) <= 32000 := by
 have h1 := bl_mul_le N (p2 z)
 have h2 := Hx.bl_p2 z
 omega
theorem up_at {A : Option Addr} {n c N : Nat} {w : World} (z : Int) (ha : Rd w A n c (toL N)) (hn : n <= 16384) (h : bl N <= 100) (h0 : 0 <= z) (hz : z <= 20000) :
  Calls Tryz.prog 55 #[natV A n c, .int .i64 z] w (Pnt.NatP (N * p2 z) w) := by
 obtain ⟨k, rfl⟩ : ∃ k : Nat, z = k := ⟨z.toNat, by omega⟩
 rw [p2_nat]
 exact Pnt.Up A n c N k w ha hn (by omega)
theorem ne3 (n : Nat) : (some (n + 1 + 1 + 1) : Option Nat) ≠ some (n + 1 + 1) := by intro e; injection e; omega
theorem ne2 (n : Nat) : (some (n + 1 + 1) : Option Nat) ≠ some (n + 1 + 1 + 1) := by intro e; injection e; omega
set_option maxRecDepth 100000 in
set_option maxHeartbeats 4000000 in
theorem level_ (g : Bool) (A : Option Addr) (n c N : Nat) (x : Int) (h : Bool) (B : Option Addr) (m d M : Nat) (y : Int) (w : World) (ha : Rd w A n c (toL N)) (hb : Rd w B m d (toL M)) (hn : n <= 16384) (hm : m <= 16384)
  (bN : bl N <= 100) (bM : bl M <= 100) (x1 : -10000 <= x) (x2 : x <= 10000) (y1 : -10000 <= y) (y2 : y <= 10000) :
  Calls Tryz.prog 95 #[dyadV g A n c x, dyadV h B m d y] w (LvP (N * p2 (x - y)) (M * p2 (y - x)) (min x y) w) := by
 have s1 := up_sized (N := N) (z := x - y) bN (by omega)
 have s2 := up_sized (N := M) (z := y - x) bM (by omega)
 have hC2 := two_made w g A n c x h B m d y
 obtain ⟨w0, hw0⟩ := yx ((((w.alloc (.cells #[.bool g, .slice A n c, .int .i64 x] 30)).alloc (.cells #[.bool h, .slice B m d, .int .i64 y] 30)).alloc (.cells #[.slice none 0 0] 28)).alloc (.cells #[.slice none 0 0] 28))
 have hC : Ctx w ((w.heap.size + 1 + 1 + 1, 28, [.slice none 0 0]) :: (w.heap.size + 1 + 1, 28, [.slice none 0 0]) :: two w g A n c x h B m d y) w0 := by
  rw [hw0]
  exact (hC2.new _ [.slice none 0 0] (by simp)).new _ [.slice none 0 0] (by simp)
 have HW := vv hw0
 have HC := vv hC
 have HSz := vv (And.intro s1 s2)
 have HU1 : Hid (∀ w', Below w.heap.size w w' -> Calls Tryz.prog 55 #[natV A n c, .int .i64 (x - min x y)] w' (Pnt.NatP (N * p2 (x - y)) w')) := vv fun w' hB => by
  have := up_at (x - min x y) (ha.below hB rfl) hn bN (by omega) (by omega)
  rwa [show p2 (x - min x y) = p2 (x - y) by unfold p2; congr 1; omega] at this
 have HU2 : Hid (∀ w', Below w.heap.size w w' -> Calls Tryz.prog 55 #[natV B m d, .int .i64 (y - min x y)] w' (Pnt.NatP (M * p2 (y - x)) w')) := vv fun w' hB => by
  have := up_at (y - min x y) (hb.below hB rfl) hm bM (by omega) (by omega)
  rwa [show p2 (y - min x y) = p2 (y - x) by unfold p2; congr 1; omega] at this
 obtain ⟨P, hP⟩ := yx (N * p2 (x - y))
 obtain ⟨Q, hQ⟩ := yx (M * p2 (y - x))
 rw [<- hP] at HU1 HSz ⊢
 rw [<- hQ] at HU2 HSz ⊢
 have c2 := hC.get 2 rfl |>.cell 2
 have c5 := hC.get 3 rfl |>.cell 2
 have cl := hC.get 2 rfl |>.lt
 have cl2 := hC.get 3 rfl |>.lt
 simp only [List.getElem?_cons_zero, List.getElem?_cons_succ] at c2 c5
 clear hw0 hC hC2 ha hb hn hm bN bM s1 s2 hP hQ
 go_enter Tryz.func95, Tryz.ntmps95
 go_wp2_with fail
 rw [<- HW.out]
 go_wp2_with fail
 refine (HU1.out _ HC.out.low).mono ?_
 rintro e w1 ⟨A1, n1, rfl, h1, -, hB⟩
 have HC1 := vv (HC.out.step hB)
 have HR1 := vv h1
 clear hB h1 c2 c5 cl cl2 HC
 have HBk : Hid (Blk w1 (w.heap.size + 1 + 1) 28 [.slice none 0 0]) := vv (HC1.out.get 1 rfl)
 go_wp2_with (with_reducible refine wpList_store_blk rfl 28 (.tmp 4) (.tmp 21) rfl (w.heap.size + 1 + 1) [.slice A1 n1 n1] rfl rfl 28 _ HBk.out (by kernel_rfl) rfl rfl ?_)
 intro w2 hB hg
 have HR2 := vv (HR1.out.else_ HBk.out rfl hg)
 have HC2 := vv (HC1.out.put 1 rfl (fun j x hj hx => by
  match j, hj with
  | 0, _ => cases hx; show (_ : Nat) ≠ _; omega
  | 2, _ => cases hx; show (_ : Nat) ≠ _; omega
  | 3, _ => cases hx; show (_ : Nat) ≠ _; omega
  | j + 4, _ => cases hx) (by omega) hB hg)
 clear hB hg HBk HC1 HR1
 have c1 := HC2.out.get 2 rfl |>.cell 1
 have c2 := HC2.out.get 2 rfl |>.cell 2
 have cl := HC2.out.get 2 rfl |>.lt
 simp only [List.getElem?_cons_zero, List.getElem?_cons_succ] at c1 c2
 go_wp2_with fail
 refine (HU2.out _ HC2.out.low).mono ?_
 rintro e w3 ⟨A2, n2, rfl, h2, -, hB⟩
 have HC3 := vv (HC2.out.step hB)
 have HR3 := vv (HR2.out.below hB rfl)
 have HQ3 := vv h2
 have HBk : Hid (Blk w3 (w.heap.size + 1 + 1 + 1) 28 [.slice none 0 0]) := vv (HC3.out.get 0 rfl)
 clear hB h2 c1 c2 cl HC2 HR2
 go_wp2_with (with_reducible refine wpList_store_blk rfl 28 (.tmp 5) (.tmp 33) rfl (w.heap.size + 1 + 1 + 1) [.slice A2 n2 n2] rfl rfl 28 _ HBk.out (by kernel_rfl) rfl rfl ?_)
 intro w4 hB hg
 have HR4 := vv (HR3.out.else_ HBk.out rfl hg)
 have HQ4 := vv (HQ3.out.else_ HBk.out rfl hg)
 have HC4 := vv (HC3.out.put 0 rfl (fun j x hj hx => by
  match j, hj with
  | 1, _ => cases hx; show (_ : Nat) ≠ _; omega
  | 2, _ => cases hx; show (_ : Nat) ≠ _; omega
  | 3, _ => cases hx; show (_ : Nat) ≠ _; omega
  | j + 4, _ => cases hx) (by omega) hB hg)
 clear hB hg HBk HC3 HR3 HQ3
 have d0 := HC4.out.get 1 rfl |>.cell 0
 have dl := HC4.out.get 1 rfl |>.lt
 have df := HC4.out.get 1 rfl |>.fz 0
 have e0 := HC4.out.get 0 rfl |>.cell 0
 have el := HC4.out.get 0 rfl |>.lt
 have ef := HC4.out.get 0 rfl |>.fz 0
 simp only [List.getElem?_cons_zero, List.getElem?_cons_succ] at d0 e0
 go_wp2_with fail
 go_region
 obtain ⟨w5, hw5⟩ := yx (((w4.setCell ⟨w.heap.size + 1 + 1, 0, none⟩ (.slice A1 n1 n1)).setCell ⟨w.heap.size + 1 + 1 + 1, 0, none⟩ (.slice A2 n2 n2)).drew)
 have hB5 : Below w.heap.size w w5 := by
  rw [hw5]
  exact below_drew ((HC4.out.low.setCell (p := ⟨w.heap.size + 1 + 1, 0, none⟩) (by show _ <= w.heap.size + 1 + 1; omega) _).setCell (p := ⟨w.heap.size + 1 + 1 + 1, 0, none⟩) (by show _ <= w.heap.size + 1 + 1 + 1; omega) _)
 have hX5 : Rd w5 A1 n1 n1 (toL P) := by
  rw [hw5]
  have h1 := HR4.out.else_ (w' := w4.setCell ⟨w.heap.size + 1 + 1, 0, none⟩ (.slice A1 n1 n1)) (HC4.out.get 1 rfl) rfl (Go.Proofs.YtddaldghlinokaaGreatDoor.only_setCell (World.grownBy.refl _ _) (.inl rfl) _)
  have h2 := h1.else_ (w' := (w4.setCell ⟨w.heap.size + 1 + 1, 0, none⟩ (.slice A1 n1 n1)).setCell ⟨w.heap.size + 1 + 1 + 1, 0, none⟩ (.slice A2 n2 n2)) (g := w.heap.size + 1 + 1 + 1) (t := 28) (cs := [.slice A2 n2 n2]) (by
   refine (HC4.out.get 0 rfl).grown (Go.Proofs.YtddaldghlinokaaGreatDoor.only_setCell (World.grownBy.refl _ _) (.inl rfl) _) ?_
   first | exact ne3 _ | exact ne2 _) rfl (Go.Proofs.YtddaldghlinokaaGreatDoor.only_setCell (World.grownBy.refl _ _) (.inl rfl) _)
  exact h2.drew
 have hY5 : Rd w5 A2 n2 n2 (toL Q) := by
  rw [hw5]
  have h1 := HQ4.out.else_ (w' := w4.setCell ⟨w.heap.size + 1 + 1, 0, none⟩ (.slice A1 n1 n1)) (HC4.out.get 1 rfl) rfl (Go.Proofs.YtddaldghlinokaaGreatDoor.only_setCell (World.grownBy.refl _ _) (.inl rfl) _)
  have h2 := h1.else_ (w' := (w4.setCell ⟨w.heap.size + 1 + 1, 0, none⟩ (.slice A1 n1 n1)).setCell ⟨w.heap.size + 1 + 1 + 1, 0, none⟩ (.slice A2 n2 n2)) (g := w.heap.size + 1 + 1 + 1) (t := 28) (cs := [.slice A2 n2 n2]) (by
   refine (HC4.out.get 0 rfl).grown (Go.Proofs.YtddaldghlinokaaGreatDoor.only_setCell (World.grownBy.refl _ _) (.inl rfl) _) ?_
   first | exact ne3 _ | exact ne2 _) rfl (Go.Proofs.YtddaldghlinokaaGreatDoor.only_setCell (World.grownBy.refl _ _) (.inl rfl) _)
  exact h2.drew
 have k1 : w5.cell? ⟨w.heap.size + 1 + 1, 0, none⟩ = some (.slice A1 n1 n1) := by
  rw [hw5]
  exact (((HC4.out.get 1 rfl).set 0 (.slice A1 n1 n1)).grown (Go.Proofs.YtddaldghlinokaaGreatDoor.only_setCell (World.grownBy.refl _ _) (.inl rfl) _) (by first | exact ne3 _ | exact ne2 _)).cell 0
 have k2 : w5.cell? ⟨w.heap.size + 1 + 1 + 1, 0, none⟩ = some (.slice A2 n2 n2) := by
  rw [hw5]
  exact (((HC4.out.get 0 rfl).grown (Go.Proofs.YtddaldghlinokaaGreatDoor.only_setCell (World.grownBy.refl _ _) (.inl rfl) _) (by first | exact ne3 _ | exact ne2 _)).set 0 (.slice A2 n2 n2)).cell 0
 have HK := vv (And.intro k1 k2)
 have HX5 := vv hX5
 have HY5 := vv hY5
 have HB5 := vv hB5
 rw [<- hw5]
 clear hw5 hX5 hY5 hB5 k1 k2 d0 dl df e0 el ef HC4 HR4 HQ4
 go_wp2
 obtain ⟨k1, k2⟩ := HK.out
 exact bodyPost_ret (v := .tuple #[natV A1 n1 n1, natV A2 n2 n2, .int .i64 (min x y), .int .i64 0]) (by simp [results, Tryz.results95, go_sem, k1, k2]) rfl ⟨A1, n1, A2, n2, rfl, HX5.out, HY5.out, rd_small HX5.out HSz.out.1, rd_small HY5.out HSz.out.2, HB5.out⟩
set_option maxRecDepth 100000 in
set_option maxHeartbeats 8000000 in
theorem Cmp (g : Bool) (A : Option Addr) (n c N : Nat) (x : Int) (h : Bool) (B : Option Addr) (m d M : Nat) (y : Int) (w : World) (ha : Rd w A n c (toL N)) (hb : Rd w B m d (toL M)) (hn : n <= 16384) (hm : m <= 16384)
  (bN : bl N <= 100) (bM : bl M <= 100) (x1 : -10000 <= x) (x2 : x <= 10000) (y1 : -10000 <= y) (y2 : y <= 10000) (ea : exaErr g n (toL N) x = 0) (eb : exaErr h m (toL M) y = 0) :
  Calls Tryz.prog 23 #[dyadV g A n c x, dyadV h B m d y] w fun e w' => e = .returned (.tuple #[.int .i64 (cmpD g N x h M y), .int .i64 0]) /\ Below w.heap.size w w' := by
 have HBo := vv fun w' (hB : Below w.heap.size w w') => both_ g A n c N x h B m d M y w' (ha.below hB rfl) (hb.below hB rfl) ea eb
 have HSa := vv fun w' (hB : Below w.heap.size w w') => sign_ g A n c N x w' (ha.below hB rfl)
 have HSb := vv fun w' (hB : Below w.heap.size w w') => sign_ h B m d M y w' (hb.below hB rfl)
 have HBa := vv fun w' (hB : Below w.heap.size w w') => Pnt.Bits A n c N w' (ha.below hB rfl) hn
 have HBb := vv fun w' (hB : Below w.heap.size w w') => Pnt.Bits B m d M w' (hb.below hB rfl) hm
 have HLv := vv fun w' (hB : Below w.heap.size w w') => level_ g A n c N x h B m d M y w' (ha.below hB rfl) (hb.below hB rfl) hn hm bN bM x1 x2 y1 y2
 have HCm := vv fun w' A' n' B' m' (h1 : Rd w' A' n' n' (toL (N * p2 (x - y)))) (h2 : Rd w' B' m' m' (toL (M * p2 (y - x)))) (l1 : n' <= 16384) (l2 : m' <= 16384) => Pnt.Cmp A' B' n' m' n' m' _ _ w' h1 h2 l1 l2
 have hs := sgnD_bd g N
 have ht := sgnD_bd h M
 have hM0 : sgnD h M ≠ 0 -> 0 < M := fun k => by
  rcases Nat.eq_zero_or_pos M with e | e
  ·exact absurd (if_pos e) k
  ·exact e
 have hN0 : sgnD g N ≠ 0 -> 0 < N := fun k => by
  rcases Nat.eq_zero_or_pos N with e | e
  ·exact absurd (if_pos e) k
  ·exact e
 have HR1 : Hid (sgnD g N ≠ sgnD h M \/ sgnD g N = 0 -> cmpD g N x h M y = max (-1) (min 1 (sgnD g N - sgnD h M))) := vv fun k => if_pos k
 have HR2 : Hid (sgnD g N = sgnD h M -> sgnD g N ≠ 0 -> cmpD g N x h M y = sgnD g N * cmpI (N * p2 (x - y)) (M * p2 (y - x))) := vv fun k k' => if_neg (by
  rintro (e | e)
  ·exact e k
  ·exact k' e)
 have HT1 : Hid (sgnD h M ≠ 0 -> (bl N : Int) + x < bl M + y -> cmpI (N * p2 (x - y)) (M * p2 (y - x)) = -1) := vv fun k k' => cmpI_lt (top_lt (hM0 k) k')
 have HT2 : Hid (sgnD g N ≠ 0 -> (bl M : Int) + y < bl N + x -> cmpI (N * p2 (x - y)) (M * p2 (y - x)) = 1) := vv fun k k' => cmpI_gt (top_lt (hN0 k) k')
 have hcb := cmpI_bd (N * p2 (x - y)) (M * p2 (y - x))
 obtain ⟨P, hP⟩ := yx (N * p2 (x - y))
 obtain ⟨Q, hQ⟩ := yx (M * p2 (y - x))
 rw [<- hP, <- hQ] at HLv HCm HR2 HT1 HT2 hcb
 obtain ⟨s, hse⟩ := yx (sgnD g N)
 obtain ⟨t, hte⟩ := yx (sgnD h M)
 obtain ⟨r, hre⟩ := yx (cmpD g N x h M y)
 obtain ⟨q, hqe⟩ := yx (cmpI P Q)
 obtain ⟨a, hae⟩ := yx (bl N)
 obtain ⟨b, hbe⟩ := yx (bl M)
 rw [<- hse] at HSa HR1 HR2 HT2 hs
 rw [<- hte] at HSb HR1 HR2 HT1 ht
 rw [<- hre] at HR1 HR2 ⊢
 rw [<- hqe] at HCm HR2 HT1 HT2 hcb
 rw [<- hae] at HBa HT1 HT2 bN
 rw [<- hbe] at HBb HT1 HT2 bM
 have hC := two_made w g A n c x h B m d y
 obtain ⟨w0, hw0⟩ := yx ((w.alloc (.cells #[.bool g, .slice A n c, .int .i64 x] 30)).alloc (.cells #[.bool h, .slice B m d, .int .i64 y] 30))
 rw [<- hw0] at hC
 have HW := vv hw0
 have HC := vv hC
 have HS := vv (And.intro hs ht)
 have HQb := vv hcb
 have hai : (a : Int) <= 100 := by omega
 have hbi : (b : Int) <= 100 := by omega
 have k0 := hC.get 1 rfl |>.cell 0
 have k1 := hC.get 1 rfl |>.cell 1
 have k2 := hC.get 1 rfl |>.cell 2
 have kl := hC.get 1 rfl |>.lt
 have l0 := hC.get 0 rfl |>.cell 0
 have l1 := hC.get 0 rfl |>.cell 1
 have l2 := hC.get 0 rfl |>.cell 2
 have ll := hC.get 0 rfl |>.lt
 simp only [List.getElem?_cons_zero, List.getElem?_cons_succ] at k0 k1 k2 l0 l1 l2
 clear hw0 hC ha hb hn hm ea eb hs ht hM0 hN0 hcb hP hQ hse hte hre hqe hae hbe bN bM
 have HX : Hid (((s ≠ t \/ s = 0) /\ ((s = -1 /\ t = 0) \/ (s = -1 /\ t = 1) \/ (s = 0 /\ t = -1) \/ (s = 0 /\ t = 0) \/ (s = 0 /\ t = 1) \/ (s = 1 /\ t = -1) \/ (s = 1 /\ t = 0))) \/ ((s = -1 /\ t = -1) \/ (s = 1 /\ t = 1))) := vv (by
  have := HS.out
  omega)
 rcases HX.out with ⟨h7, hh⟩ | hh
 ·have HR := vv (HR1.out h7)
  clear HX HR1 HR2 HT1 HT2 HBa HBb HLv HCm HQb HS h7
  rcases hh with ⟨rfl, rfl⟩ | ⟨rfl, rfl⟩ | ⟨rfl, rfl⟩ | ⟨rfl, rfl⟩ | ⟨rfl, rfl⟩ | ⟨rfl, rfl⟩ | ⟨rfl, rfl⟩
  all_goals
   go_enter Tryz.func23, Tryz.ntmps23
   go_wp2_with fail
   rw [<- HW.out]
   refine (HBo.out _ HC.out.low).mono ?_
   rintro e w1 ⟨rfl, hB⟩
   have HC1 := vv (HC.out.step hB)
   clear hB k0 k1 k2 kl l0 l1 l2 ll
   go_wp2_with fail
   refine wp_region_sch (fun w' => w'.cell? ⟨w.heap.size, 0, none⟩ = some (.bool g) /\ w'.cell? ⟨w.heap.size, 1, none⟩ = some (.slice A n c) /\ w'.cell? ⟨w.heap.size, 2, none⟩ = some (.int .i64 x) /\
    w'.cell? ⟨w.heap.size + 1, 0, none⟩ = some (.bool h) /\ w'.cell? ⟨w.heap.size + 1, 1, none⟩ = some (.slice B m d) /\ w'.cell? ⟨w.heap.size + 1, 2, none⟩ = some (.int .i64 y)) 4
    (.still 0 (.still 2 (.one 1 (.one 3 .done)))) (by kernel_rfl) (by kernel_rfl) (fun _ _ d _ _ h => by cases d <;> exact h) (six HC1.out.drew) (fun hS0 => ?_)
   have HC1 := vv HC1.out.drew
   obtain ⟨wc, hwc⟩ := yx (w1.drew)
   rw [<- hwc] at hS0 HC1 ⊢
   clear hwc
   iterate 2
    refine sch_still (v := ?_) rfl (by rfl) ?_ ?_
    rotate_left
    ·intro w hSw; go_simp; with_reducible rfl
    simp only [Act.put, List.setIfInBounds_toArray, List.set_cons_zero, List.set_cons_succ]
   refine sch_one rfl (by rfl) (fun K hK => ?_)
   go_simp
   refine (HSa.out _ HC1.out.low).mono ?_
   rintro e w2 ⟨rfl, hB⟩
   have HC2 := vv (HC1.out.step hB)
   clear hB HC1
   go_wp2_with fail
   refine hK.out _ _ (six HC2.out) (fun hHeld => ?_)
   clear hK
   refine sch_one rfl (by rfl) (fun K hK => ?_)
   go_simp
   refine (HSb.out _ HC2.out.low).mono ?_
   rintro e w3 ⟨rfl, hB⟩
   have HC3 := vv (HC2.out.step hB)
   clear hB HC2
   go_wp2_with fail
   refine hK.out _ _ (six HC3.out) (fun hHeld => ?_)
   clear hK
   refine sch_done ?_
   clear hHeld hS0
   simp only [List.drop_succ_cons, List.drop_zero]
   go_wp2
   go_ret2
   exact ⟨by rw [HR.out]; rfl, HC3.out.low⟩
 ·obtain rfl : t = s := by omega
  have hs0 : t ≠ 0 := by omega
  have HR := vv (HR2.out rfl hs0)
  have ht1 := HT1.out hs0
  have ht2 := HT2.out hs0
  have e0 : (t == 0) = false := by rw [beq_eq_false_iff_ne]; exact hs0
  have e1 : (t != t) = false := by simp
  have s1 : -1 <= t := by omega
  have s2 : t <= 1 := by omega
  obtain ⟨TA, hTA⟩ : ∃ TA : Int, TA = (a : Int) + x := ⟨_, rfl⟩
  obtain ⟨TB, hTB⟩ : ∃ TB : Int, TB = (b : Int) + y := ⟨_, rfl⟩
  rw [<- hTA, <- hTB] at ht1 ht2
  have hw1 : IntKind.i64.wrap ((a : Int) + x) = TA := by rw [hTA]; exact IntWalk.i64_in _ (by omega)
  have hw2 : IntKind.i64.wrap ((b : Int) + y) = TB := by rw [hTB]; exact IntWalk.i64_in _ (by omega)
  have HWr := vv (And.intro hw1 hw2)
  obtain ⟨R, hR⟩ := yx (t * q)
  have hR1 : -1 <= R /\ R <= 1 := by
   have := HQb.out
   rw [hR]
   rcases (by omega : t = -1 \/ t = 1) with e | e <;> rw [e] <;> omega
  obtain ⟨hR1, hR2⟩ := hR1
  rw [<- hR] at HR
  have HRe := vv hR
  have HT := vv (And.intro ht1 ht2)
  clear HX HR1 HR2 HT1 HT2 hh hw1 hw2 hTA hTB ht1 ht2 hR HS HQb hs0
  have HTri : Hid (TA < TB \/ (TA = TB /\ ¬ TA < TB /\ ¬ TB < TA) \/ (TB < TA /\ ¬ TA < TB)) := vv (by omega)
  rcases HTri.out with k | ⟨k, hn1, hn2⟩ | ⟨k, hn1⟩
  all_goals
   go_enter Tryz.func23, Tryz.ntmps23
   go_wp2_with fail
   rw [<- HW.out]
   refine (HBo.out _ HC.out.low).mono ?_
   rintro e w1 ⟨rfl, hB⟩
   have HC1 := vv (HC.out.step hB)
   clear hB k0 k1 k2 kl l0 l1 l2 ll
   go_wp2_with fail
   refine wp_region_sch (fun w' => w'.cell? ⟨w.heap.size, 0, none⟩ = some (.bool g) /\ w'.cell? ⟨w.heap.size, 1, none⟩ = some (.slice A n c) /\ w'.cell? ⟨w.heap.size, 2, none⟩ = some (.int .i64 x) /\
    w'.cell? ⟨w.heap.size + 1, 0, none⟩ = some (.bool h) /\ w'.cell? ⟨w.heap.size + 1, 1, none⟩ = some (.slice B m d) /\ w'.cell? ⟨w.heap.size + 1, 2, none⟩ = some (.int .i64 y)) 4
    (.still 0 (.still 2 (.one 1 (.one 3 .done)))) (by kernel_rfl) (by kernel_rfl) (fun _ _ d _ _ h => by cases d <;> exact h) (six HC1.out.drew) (fun hS0 => ?_)
   have HC1 := vv HC1.out.drew
   obtain ⟨wc, hwc⟩ := yx (w1.drew)
   rw [<- hwc] at hS0 HC1 ⊢
   clear hwc
   iterate 2
    refine sch_still (v := ?_) rfl (by rfl) ?_ ?_
    rotate_left
    ·intro w hSw; go_simp; with_reducible rfl
    simp only [Act.put, List.setIfInBounds_toArray, List.set_cons_zero, List.set_cons_succ]
   refine sch_one rfl (by rfl) (fun K hK => ?_)
   go_simp
   refine (HSa.out _ HC1.out.low).mono ?_
   rintro e w2 ⟨rfl, hB⟩
   have HC2 := vv (HC1.out.step hB)
   clear hB HC1
   go_wp2_with fail
   refine hK.out _ _ (six HC2.out) (fun hHeld => ?_)
   clear hK
   refine sch_one rfl (by rfl) (fun K hK => ?_)
   go_simp
   refine (HSb.out _ HC2.out.low).mono ?_
   rintro e w3 ⟨rfl, hB⟩
   have HC3 := vv (HC2.out.step hB)
   clear hB HC2
   go_wp2_with fail
   refine hK.out _ _ (six HC3.out) (fun hHeld => ?_)
   clear hK
   refine sch_done ?_
   clear hHeld hS0
   simp only [List.drop_succ_cons, List.drop_zero]
   have k1 := HC3.out.get 1 rfl |>.cell 1
   have kl := HC3.out.get 1 rfl |>.lt
   simp only [List.getElem?_cons_zero, List.getElem?_cons_succ] at k1
   go_wp2_with fail
   refine (HBa.out _ HC3.out.low).mono ?_
   rintro e w4 ⟨rfl, hB⟩
   have HC4 := vv (HC3.out.step hB)
   clear hB k1 kl
   have k1 := HC4.out.get 0 rfl |>.cell 1
   have kl := HC4.out.get 0 rfl |>.lt
   simp only [List.getElem?_cons_zero, List.getElem?_cons_succ] at k1
   go_wp2_with fail
   refine (HBb.out _ HC4.out.low).mono ?_
   rintro e w5 ⟨rfl, hB⟩
   have HC5 := vv (HC4.out.step hB)
   clear hB k1 kl
   go_wp2_with fail
   refine wp_region_sch (fun w' => w'.cell? ⟨w.heap.size, 0, none⟩ = some (.bool g) /\ w'.cell? ⟨w.heap.size, 1, none⟩ = some (.slice A n c) /\ w'.cell? ⟨w.heap.size, 2, none⟩ = some (.int .i64 x) /\
    w'.cell? ⟨w.heap.size + 1, 0, none⟩ = some (.bool h) /\ w'.cell? ⟨w.heap.size + 1, 1, none⟩ = some (.slice B m d) /\ w'.cell? ⟨w.heap.size + 1, 2, none⟩ = some (.int .i64 y)) 10
    (.still 0 (.still 1 (.still 2 (.still 3 (.still 4 (.still 5 (.still 6 (.still 7 (.still 8 (.still 9 .done)))))))))) (by kernel_rfl) (by kernel_rfl) (fun _ _ d _ _ h => by cases d <;> exact h) (six HC5.out.drew) (fun hS0 => ?_)
   obtain ⟨hw1, hw2⟩ := HWr.out
   have HC6 := vv HC5.out.drew
   obtain ⟨wc, hwc⟩ := yx (w5.drew)
   rw [<- hwc] at hS0 HC6 ⊢
   clear hwc HC5
   iterate 10
    refine sch_still (v := ?_) rfl (by rfl) ?_ ?_
    rotate_left
    ·intro w hSw; go_simp; with_reducible rfl
    simp only [Act.put, List.setIfInBounds_toArray, List.set_cons_zero, List.set_cons_succ]
   refine sch_end rfl ?_
   clear hS0 hw1 hw2
  ·go_wp2
   go_ret2
   exact ⟨by rw [HR.out, HRe.out, HT.out.1 k, Int.mul_neg_one]; rfl, HC6.out.low⟩
  ·have k0 := HC6.out.get 1 rfl |>.cell 0
   have k1 := HC6.out.get 1 rfl |>.cell 1
   have k2 := HC6.out.get 1 rfl |>.cell 2
   have kl := HC6.out.get 1 rfl |>.lt
   have l0 := HC6.out.get 0 rfl |>.cell 0
   have l1 := HC6.out.get 0 rfl |>.cell 1
   have l2 := HC6.out.get 0 rfl |>.cell 2
   have ll := HC6.out.get 0 rfl |>.lt
   simp only [List.getElem?_cons_zero, List.getElem?_cons_succ] at k0 k1 k2 l0 l1 l2
   go_wp2_with fail
   refine (HLv.out _ HC6.out.low).mono ?_
   rintro e w7 ⟨A1, n1, B1, m1, rfl, h1, h2, j1, j2, hB⟩
   have HC7 := vv (HC6.out.step hB)
   clear hB k0 k1 k2 kl l0 l1 l2 ll
   go_wp2_with fail
   have hb8 : Below w7.heap.size w7 ((w7.alloc (.cells #[.slice A1 n1 n1] 28)).alloc (.cells #[.slice B1 m1 m1] 28)) := ((Below.refl _ _).alloc (Nat.le_refl _) _).alloc (by simp) _
   refine (HCm.out _ A1 n1 B1 m1 (h1.below hb8 rfl) (h2.below hb8 rfl) j1 j2).mono ?_
   rintro e w8 ⟨rfl, hB⟩
   have HC8 := vv ((HC7.out.step hb8).step hB)
   have hmul : t * q = R := HRe.out.symm
   clear hB hb8 h1 h2 HC7
   go_wp2
   go_ret2
   exact ⟨by rw [HR.out]; rfl, HC8.out.low⟩
  ·go_wp2
   go_ret2
   exact ⟨by rw [HR.out, HRe.out, HT.out.2 k, Int.mul_one]; rfl, HC6.out.low⟩
end Go.Proofs.YtddaldghlinokaaGreatDoor.Exa
