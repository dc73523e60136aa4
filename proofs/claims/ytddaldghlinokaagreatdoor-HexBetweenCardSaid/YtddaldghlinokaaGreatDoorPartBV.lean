/- Lemmas. -/
import Derived.Test.YtddaldghlinokaaGreatDoorPartBT
import Derived.Test.YtddaldghlinokaaGreatDoorPartBM
set_option linter.all false
namespace Go.Proofs.YtddaldghlinokaaGreatDoor.Hx
open Go Go.RowKit R5 Scn Fms Exa
theorem out_worth {E F : Nat} {neg : Bool} {mode a b : Nat} (hE : 2 <= E) (ha : 0 < a) (hb : 0 < b) (h : (out E F neg mode a b).2 = 0) :
  (out E F neg mode a b).1 < inf_ E F /\ 0 < mantOf F ((out E F neg mode a b).1 / 2 ^ F) ((out E F neg mode a b).1 % 2 ^ F) /\
   mantOf F ((out E F neg mode a b).1 / 2 ^ F) ((out E F neg mode a b).1 % 2 ^ F) * p2 (powOf E F ((out E F neg mode a b).1 / 2 ^ F)) * b = a * p2 (-powOf E F ((out E F neg mode a b).1 / 2 ^ F)) := by
 cases hov : over E F neg mode a b with
 | true =>
  rw [out_over hov] at h
  exact absurd h (by show ¬ (3 : Nat) = 0; decide)
 | false =>
  rw [out_in hov] at h ⊢
  have hr : rest_ E F a b = 0 := by
   rcases Nat.eq_zero_or_pos (rest_ E F a b) with e | e
   ·exact e
   ·have h : flags_ E F neg mode a b = 0 := h
    unfold flags_ at h
    rw [if_neg (by omega)] at h
    split at h <;> exact absurd h (by decide)
  have hin : bits_ E F neg mode a b < inf_ E F := by
   unfold over at hov
   rw [Bool.or_eq_false_iff] at hov
   have := of_decide_eq_false hov.2
   omega
  have hm1 := mant_le (E := E) (F := F) (neg := neg) (mode := mode) ha hb
  have hm2 := fun k => mant_ge (E := E) (F := F) (neg := neg) (mode := mode) ha hb k
  have hlg := low_ge (E := E) (a := a) (b := b)
  have hl2 := fun k => low_gt (E := E) (a := a) (b := b) k
  have hbias := bias_nat (E := E)
  have hD : 0 < b * p2 (low_ E a b - F) := Nat.mul_pos hb (p2_pos _)
  have heq : a * p2 (F - low_ E a b) = mant E F neg mode a b * (b * p2 (low_ E a b - F)) := by
   unfold rest_ at hr
   unfold mant rnd
   rw [if_pos hr]
   have := Nat.div_add_mod (a * p2 (F - low_ E a b)) (b * p2 (low_ E a b - F))
   rw [hr, Nat.add_zero, Nat.mul_comm] at this
   exact this.symm
  have hm0 : 0 < mant E F neg mode a b := by
   rcases Nat.eq_zero_or_pos (mant E F neg mode a b) with e | e
   ·rw [e, Nat.zero_mul] at heq
    have := Nat.mul_pos ha (p2_pos (F - low_ E a b))
    omega
   ·exact e
  refine ⟨hin, ?_⟩
  show 0 < mantOf F (bits_ E F neg mode a b / 2 ^ F) (bits_ E F neg mode a b % 2 ^ F) /\ mantOf F (bits_ E F neg mode a b / 2 ^ F) (bits_ E F neg mode a b % 2 ^ F) * p2 (powOf E F (bits_ E F neg mode a b / 2 ^ F)) * b = a * p2 (-powOf E F (bits_ E F neg mode a b / 2 ^ F))
  have hpF := Nat.two_pow_pos F
  have hpS : 2 ^ (F + 1) = 2 * 2 ^ F := by rw [Nat.pow_succ, Nat.mul_comm]
  have hlow : ilog a b < 1 - bias E -> low_ E a b = 1 - bias E := fun k => by unfold low_; omega
  have hbits : bits_ E F neg mode a b = mant E F neg mode a b + (low_ E a b + bias E - 1).toNat * 2 ^ F := rfl
  clear hov h hr hin
  obtain ⟨l, hl⟩ := yx (low_ E a b)
  obtain ⟨m, hm⟩ := yx (mant E F neg mode a b)
  obtain ⟨K, hK⟩ := yx ((l + bias E - 1).toNat)
  rw [<- hl] at heq hlg hl2 hlow hD hbits
  rw [<- hm] at heq hm0 hm1 hm2 hbits
  rw [<- hK] at hbits
  have hKi : (K : Int) = l + bias E - 1 := by omega
  have hge : l ≠ 1 - bias E -> 2 ^ F <= m := fun k => hm2 (by
   rcases Int.lt_or_le (ilog a b) (1 - bias E) with h | h
   ·exact absurd (hlow h) k
   ·exact h)
  rw [hbits]
  have hpw0 : powOf E F 0 = 1 - bias E - F := by unfold powOf; rw [if_pos rfl]; omega
  have hpw : ∀ y, powOf E F (y + 1) = 1 - bias E - F + y := fun y => by unfold powOf; rw [if_neg (by omega)]; omega
  rcases Nat.lt_or_ge m (2 ^ F) with h1 | h1
  ·have hl1 : l = 1 - bias E := by
    rcases Decidable.em (l = 1 - bias E) with e | e
    ·exact e
    ·have := hge e; omega
   have hK0 : K = 0 := by omega
   rw [hK0, Nat.zero_mul, Nat.add_zero, Nat.div_eq_of_lt h1, Nat.mod_eq_of_lt h1]
   rw [hpw0, show (1 - bias E - (F : Int)) = l - F by omega, show -(l - (F : Int)) = F - l by omega, heq]
   unfold mantOf
   rw [if_pos rfl]
   exact ⟨hm0, by grind⟩
  ·rcases Nat.lt_or_ge m (2 ^ (F + 1)) with h2 | h2
   ·have e : m + K * 2 ^ F = 2 ^ F * (K + 1) + (m - 2 ^ F) := by rw [Nat.mul_add, Nat.mul_one, Nat.mul_comm K]; omega
    have hd : (m + K * 2 ^ F) / 2 ^ F = K + 1 := by rw [e, Nat.mul_add_div hpF, Nat.div_eq_of_lt (by omega), Nat.add_zero]
    have hmo : (m + K * 2 ^ F) % 2 ^ F = m - 2 ^ F := by rw [e, Nat.mul_add_mod, Nat.mod_eq_of_lt (by omega)]
    rw [hd, hmo, hpw, show (1 - bias E - (F : Int) + (K : Int)) = l - F by omega, show -(l - (F : Int)) = F - l by omega, heq]
    unfold mantOf
    rw [if_neg (by omega), show m - 2 ^ F + 2 ^ F = m by omega]
    exact ⟨hm0, by grind⟩
   ·have hm3 : m = 2 * 2 ^ F := by omega
    have e : m + K * 2 ^ F = 2 ^ F * (K + 1 + 1) := by rw [hm3, Nat.mul_add, Nat.mul_add, Nat.mul_one, Nat.mul_comm K]; omega
    have hd : (m + K * 2 ^ F) / 2 ^ F = K + 1 + 1 := by rw [e, Nat.mul_div_cancel_left _ hpF]
    have hmo : (m + K * 2 ^ F) % 2 ^ F = 0 := by rw [e, Nat.mul_mod_right]
    rw [hd, hmo, hpw, show (1 - bias E - (F : Int) + ((K + 1 : Nat) : Int)) = l - F + 1 by omega]
    unfold mantOf
    rw [if_neg (by omega), Nat.zero_add]
    refine ⟨hpF, ?_⟩
    have k := p2_add (l - F) 1
    rw [show p2 (-1) = 1 from rfl, show p2 1 = 2 from rfl, Nat.mul_one, show -(l - (F : Int)) = F - l by omega] at k
    rw [hm3] at heq
    have hs : 0 < p2 (F - l) := p2_pos _
    apply Nat.eq_of_mul_eq_mul_right hs
    calc 2 ^ F * p2 (l - F + 1) * b * p2 (F - l) = 2 ^ F * b * (p2 (l - F + 1) * p2 (F - l)) := by grind
     _ = 2 ^ F * b * (p2 (-(l - F + 1)) * (p2 (l - F) * 2)) := by rw [k]
     _ = 2 * 2 ^ F * (b * p2 (l - F)) * p2 (-(l - F + 1)) := by grind
     _ = a * p2 (F - l) * p2 (-(l - F + 1)) := by rw [heq]
     _ = _ := by grind
theorem parts_of {E F : Nat} {neg : Bool} {r : Nat} (hr : r < inf_ E F) : negOf E F (sgb E F neg + r) = neg /\ expOf E F (sgb E F neg + r) = r / 2 ^ F /\ fracOf F (sgb E F neg + r) = r % 2 ^ F /\ r / 2 ^ F < R3.tw E - 1 /\ sgb E F neg + r < 2 ^ (1 + E + F) := by
 have hpF := Nat.two_pow_pos F
 have hpE := Nat.two_pow_pos E
 have hEF : 2 ^ (E + F) = 2 ^ E * 2 ^ F := Nat.pow_add _ _ _
 have hlt : r < 2 ^ (E + F) := by unfold inf_ at hr; omega
 have hq : r / 2 ^ F < 2 ^ E - 1 := by
  apply Nat.div_lt_of_lt_mul
  unfold inf_ at hr
  rw [Nat.mul_sub, Nat.mul_one, Nat.mul_comm, <- hEF]
  exact hr
 have h1 : 2 ^ (1 + E + F) = 2 * 2 ^ (E + F) := by rw [show 1 + E + F = E + F + 1 by omega, Nat.pow_succ, Nat.mul_comm]
 have hd : (2 ^ (E + F) + r) / 2 ^ F = 2 ^ E + r / 2 ^ F := by rw [hEF, Nat.mul_comm, Nat.mul_add_div hpF]
 have hmo : (2 ^ (E + F) + r) % 2 ^ F = r % 2 ^ F := by rw [hEF, Nat.mul_comm, Nat.mul_add_mod]
 refine ⟨?_, ?_, ?_, hq, ?_⟩
 ·unfold negOf sgb
  cases neg
  ·rw [if_neg (by decide), Nat.zero_add, show F + E = E + F by omega, Nat.div_eq_of_lt hlt]; rfl
  ·rw [if_pos rfl, show F + E = E + F by omega, show 2 ^ (E + F) + r = 2 ^ (E + F) * 1 + r by omega, Nat.mul_add_div (Nat.two_pow_pos _), Nat.div_eq_of_lt hlt]; rfl
 ·unfold expOf sgb
  cases neg
  ·rw [if_neg (by decide), Nat.zero_add, Nat.mod_eq_of_lt (by omega)]
  ·rw [if_pos rfl, hd, Nat.add_mod_left, Nat.mod_eq_of_lt (by omega)]
 ·unfold fracOf sgb
  cases neg
  ·rw [if_neg (by decide), Nat.zero_add]
  ·rw [if_pos rfl, hmo]
 ·unfold sgb
  cases neg <;> simp <;> omega
theorem hexNum_half {neg : Bool} {m : Nat} {y : Int} (h : m % 2 = 0) (h0 : 0 < m) : hexNum neg (m / 2) (y + 1) = hexNum neg m y := by
 obtain ⟨j, rfl⟩ : ∃ j, m = 2 * j := ⟨m / 2, by omega⟩
 obtain ⟨i, hi⟩ := tz_spec (n := j) (by omega)
 have ht : tz (2 * j) = tz j + 1 := tz_eq (m := i) (by
  rw [Nat.pow_succ]
  calc 2 * j = 2 * (2 ^ tz j * (2 * i + 1)) := by rw [<- hi]
   _ = _ := by grind)
 unfold hexNum
 rw [if_neg (by omega), if_neg (by omega), Nat.mul_div_cancel_left _ (by decide), ht, Nat.pow_succ, Nat.mul_comm (2 ^ tz j), Nat.mul_div_mul_left _ _ (by decide : 0 < 2), show y + 1 + (tz j : Int) = y + ((tz j + 1 : Nat) : Int) by omega]
theorem plcN_ge {g : Bool} {N : Nat} (mode : Nat) (h0 : 0 < N) (places : Nat) : 1 <= plcN g N mode places := by
 have h1 := rnd_ge g mode (N * p2 (plcK N places)) (p2 (-plcK N places))
 have h2 : 1 <= N * p2 (plcK N places) / p2 (-plcK N places) := by
  rw [Nat.le_div_iff_mul_le (p2_pos _), Nat.one_mul]
  have h3 := le_bl h0
  have h4 := bl_pos h0
  have e : p2 (plcK N places) * 2 ^ (bl N - 1) = p2 (-plcK N places) * 2 ^ (4 * places) := by
   unfold p2
   rw [<- Nat.pow_add, <- Nat.pow_add]
   congr 1
   unfold plcK
   omega
  have h5 := Nat.two_pow_pos (4 * places)
  calc p2 (-plcK N places) <= p2 (-plcK N places) * 2 ^ (4 * places) := Nat.le_mul_of_pos_right _ h5
   _ = 2 ^ (bl N - 1) * p2 (plcK N places) := by rw [<- e, Nat.mul_comm]
   _ <= N * p2 (plcK N places) := Nat.mul_le_mul_right _ h3
 unfold plcN
 omega
theorem plc_read (neg g : Bool) {N places mode : Nat} {x : Int} (h0 : 0 < N) (hN : N < 2 ^ 53) (hp : places <= 2000) (h1 : -4000 <= x) (h2 : x <= 4000) :
  read ⟨(plcL neg g N x mode places).toArray⟩ = (hexNum neg (plcN g N mode places) (x - plcK N places), 0, 0) := by
 have hb := bl_le hN
 have hb0 := bl_pos h0
 have hl := plcN_half (g := g) mode h0 places
 have hle := plcN_le (g := g) mode h0 places
 have hge := plcN_ge (g := g) mode h0 places
 have h16 : 2 ^ (4 * places + 1) <= 16 ^ (places + 1) := by
  rw [show (16 : Nat) = 2 ^ 4 from rfl, <- Nat.pow_mul]
  exact Nat.pow_le_pow_right (by decide) (by omega)
 unfold plcL
 rw [if_neg (by omega)]
 obtain ⟨m, hm⟩ := yx (plcN g N mode places)
 rw [<- hm] at hl hle hge ⊢
 split
 ·next h =>
  rw [if_pos h] at hl
  have hr := read_text neg (m / 2) places (x + (bl N : Int) - 1 + 1) (Nat.lt_of_lt_of_le hl h16) (by omega) (by omega) (by omega)
  have e : m = 2 ^ (4 * places + 1) := by
   rcases Nat.lt_or_ge m (2 ^ (4 * places + 1)) with k | k
   ·have := bl_le k
    omega
   ·omega
  have hev : m % 2 = 0 := by rw [e, Nat.pow_succ, Nat.mul_mod_left]
  refine hr.trans ?_
  rw [show x + (bl N : Int) - 1 + 1 - 4 * (places : Int) = x - plcK N places + 1 by unfold plcK; omega, hexNum_half hev (by omega)]
 ·next h =>
  rw [if_neg h] at hl
  have hr := read_text neg m places (x + (bl N : Int) - 1) (Nat.lt_of_lt_of_le hl h16) (by omega) (by omega) (by omega)
  refine hr.trans ?_
  rw [show x + (bl N : Int) - 1 - 4 * (places : Int) = x - plcK N places by unfold plcK; omega]
theorem rnd_two (neg : Bool) (mode a b : Nat) : rnd neg mode a b = rnd neg 4 a b \/ rnd neg mode a b = rnd neg 3 a b := by
 unfold rnd
 split
 ·exact .inl rfl
 ·rcases Bool.eq_false_or_eq_true (more neg mode (decide (a / b % 2 = 1)) (cmpI (2 * (a % b)) b)) with e | e
  ·rw [e]
   cases neg
   ·exact .inr rfl
   ·exact .inl rfl
  ·rw [e]
   cases neg
   ·exact .inl rfl
   ·exact .inr rfl
theorem rnd_zero (a b : Nat) (neg : Bool) : rnd neg 2 a b = rnd neg (if neg then 3 else 4) a b := by
 unfold rnd more
 cases neg <;> simp
theorem rnd_low_ (a b : Nat) (neg : Bool) : rnd neg (if neg then 3 else 4) a b = a / b := by
 unfold rnd more
 cases neg <;> simp
theorem rnd_high_ (a b : Nat) (hb : 0 < b) (neg : Bool) : a <= rnd neg (if neg then 4 else 3) a b * b := by
 have h := Nat.div_add_mod a b
 have h2 := Nat.mod_lt a hb
 unfold rnd more
 split
 ·next h0 => rw [h0, Nat.add_zero, Nat.mul_comm] at h; omega
 ·cases neg <;> simp <;> rw [Nat.add_mul, Nat.one_mul, Nat.mul_comm (a / b)] <;> omega
theorem cmpI_cross {a b c d e f : Nat} (hb : 0 < b) (hd : 0 < d) (h : a * d = c * b) : cmpI (a * e) (f * b) = cmpI (c * e) (f * d) := by
 rw [<- cmpI_mul d (a * e) (f * b) hd, <- cmpI_mul b (c * e) (f * d) hb]
 congr 1
 ·calc d * (a * e) = a * d * e := by grind
   _ = b * (c * e) := by rw [h]; grind
 ·grind
theorem shift_worth (N t : Nat) (p : Int) : N * p2 (p + t) * p2 (-p) = N * 2 ^ t * p2 p * p2 (-(p + t)) := by
 have k := p2_add p t
 rw [p2_nat, p2_nonpos (n := -(t : Int)) (by omega), Nat.mul_one] at k
 calc N * p2 (p + t) * p2 (-p) = N * (p2 (p + t) * p2 (-p)) := by grind
  _ = N * (p2 (-(p + t)) * (p2 p * 2 ^ t)) := by rw [k]
  _ = _ := by grind
theorem cmpI_le {a b : Nat} (h : a <= b) : cmpI a b <= 0 := by
 rcases Nat.lt_or_ge a b with k | k
 ·rw [cmpI_lt k]; decide
 ·rw [cmpI_eq (by omega)]; decide
theorem cmpI_ge {a b : Nat} (h : b <= a) : 0 <= cmpI a b := by
 rcases Nat.lt_or_ge b a with k | k
 ·rw [cmpI_gt k]; decide
 ·rw [cmpI_eq (by omega)]; decide
theorem few_worth {neg : Bool} {N mode places : Nat} {x : Int} (h0 : 0 < N) (hN : N < 2 ^ 53) (hp : places <= 14) (h1 : -4000 <= x) (h2 : x <= 4000) :
  ∃ (Mo : Nat) (z : Int), hexNum neg (plcN neg N mode places) (x - plcK N places) = ⟨2, neg, false, [], 0, neg, Mo, z, 0⟩ /\ Mo % 2 = 1 /\ Mo < 2 ^ 58 /\ -4200 <= z /\ z <= 4200 /\
   Mo * p2 z * p2 (-(x - plcK N places)) = plcN neg N mode places * p2 (x - plcK N places) * p2 (-z) := by
 have hm0 := plcN_ge (g := neg) mode h0 places
 have hm1 := plcN_le (g := neg) mode h0 places
 have hb := bl_le hN
 have hb0 := bl_pos h0
 have hK : plcK N places = 4 * (places : Int) - ((bl N : Int) - 1) := rfl
 obtain ⟨m, hm⟩ := yx (plcN neg N mode places)
 obtain ⟨y, hy⟩ := yx (x - plcK N places)
 rw [<- hm] at hm0 hm1 ⊢
 rw [<- hy]
 have h57 : 2 ^ (4 * places + 1) <= 2 ^ 57 := Nat.pow_le_pow_right (by decide) (by omega)
 have hmlt : m < 2 ^ 58 := by omega
 obtain ⟨j, hj⟩ := tz_spec (n := m) (by omega)
 have ht := tz_lt_bl (n := m) (by omega)
 have hbm := bl_le hmlt
 have hd : m / 2 ^ tz m = 2 * j + 1 := Nat.div_eq_of_eq_mul_right (Nat.two_pow_pos _) hj
 refine ⟨m / 2 ^ tz m, y + (tz m : Int), ?_, by omega, Nat.lt_of_le_of_lt (Nat.div_le_self _ _) hmlt, by omega, by omega, ?_⟩
 ·unfold hexNum
  rw [if_neg (by omega), show clip (y + (tz m : Int)) = y + (tz m : Int) by unfold clip; omega]
 ·rw [shift_worth, hd]
  have e : (2 * j + 1) * 2 ^ tz m = m := by rw [Nat.mul_comm]; exact hj.symm
  rw [e]
theorem cmpD_same {g : Bool} {N M : Nat} {x y : Int} (hN : 0 < N) (hM : 0 < M) : cmpD g N x g M y = (if g then -1 else 1) * cmpI (N * p2 (x - y)) (M * p2 (y - x)) := by
 have e1 : sgnD g N = if g then -1 else 1 := if_neg (by omega)
 have e2 : sgnD g M = if g then -1 else 1 := if_neg (by omega)
 unfold cmpD
 rw [e1, e2, if_neg (by cases g <;> simp)]
theorem few_cmp {neg : Bool} {N mode places Mo : Nat} {x z : Int} (h0 : 0 < N) (hMo : 0 < Mo) (hw : Mo * p2 z * p2 (-(x - plcK N places)) = plcN neg N mode places * p2 (x - plcK N places) * p2 (-z))
  {Mw : Nat} {p : Int} (hM : 0 < Mw) (h : Mw * p2 p * p2 (-z) = Mo * p2 z * p2 (-p)) :
  cmpD neg (oddN Mw) (oddX Mw p) neg N x = (if neg then -1 else 1) * cmpI (plcN neg N mode places * p2 (-plcK N places)) (N * p2 (plcK N places)) := by
 rw [cmpD_same (oddN_pos hM) h0]
 congr 1
 have eX : oddX Mw p = p + (tz Mw : Int) := by unfold oddX; rw [if_neg (by omega)]
 have e1 := shift_worth (oddN Mw) (tz Mw) p
 rw [<- odd_split hM, <- eX] at e1
 rw [<- cmp_p2, cmpI_cross (p2_pos _) (p2_pos _) e1, cmpI_cross (p2_pos _) (p2_pos _) h, cmpI_cross (p2_pos _) (p2_pos _) hw, cmp_p2]
 rw [show x - plcK N places - x = -plcK N places by omega, show x - (x - plcK N places) = plcK N places by omega]
theorem few_down {neg : Bool} {N places : Nat} : (if neg then -1 else 1) * cmpI (plcN neg N 4 places * p2 (-plcK N places)) (N * p2 (plcK N places)) <= 0 := by
 unfold plcN
 cases neg
 ·have := rnd_low_ (N * p2 (plcK N places)) (p2 (-plcK N places)) false
  rw [if_neg (by decide)] at this
  rw [this, if_neg (by decide), Int.one_mul]
  exact cmpI_le (Nat.div_mul_le_self _ _)
 ·have := rnd_high_ (N * p2 (plcK N places)) (p2 (-plcK N places)) (p2_pos _) true
  rw [if_pos rfl] at this
  rw [if_pos rfl]
  have := cmpI_ge this
  omega
theorem few_up {neg : Bool} {N places : Nat} : 0 <= (if neg then -1 else 1) * cmpI (plcN neg N 3 places * p2 (-plcK N places)) (N * p2 (plcK N places)) := by
 unfold plcN
 cases neg
 ·have := rnd_high_ (N * p2 (plcK N places)) (p2 (-plcK N places)) (p2_pos _) false
  rw [if_neg (by decide)] at this
  rw [if_neg (by decide), Int.one_mul]
  exact cmpI_ge this
 ·have := rnd_low_ (N * p2 (plcK N places)) (p2 (-plcK N places)) true
  rw [if_pos rfl] at this
  rw [this, if_pos rfl]
  have := cmpI_le (Nat.div_mul_le_self (N * p2 (plcK N places)) (p2 (-plcK N places)))
  omega
theorem plcL_two (neg g : Bool) (N : Nat) (x : Int) (mode places : Nat) : plcL neg g N x mode places = plcL neg g N x 4 places \/ plcL neg g N x mode places = plcL neg g N x 3 places := by
 unfold plcL plcN
 split
 ·exact .inl rfl
 ·rcases rnd_two g mode (N * p2 (plcK N places)) (p2 (-plcK N places)) with e | e <;> rw [e]
  ·exact .inl rfl
  ·exact .inr rfl
theorem plcL_toward (neg : Bool) (N : Nat) (x : Int) (places : Nat) (g : Bool) (hg : 0 < N -> g = neg) : plcL neg g N x 2 places = plcL neg g N x (if neg then 3 else 4) places := by
 unfold plcL
 split
 ·rfl
 ·obtain rfl := hg (by omega)
  unfold plcN
  rw [rnd_zero]
structure BtwP (b : Nat) (neg vg : Bool) (vN : Nat) (vx : Int) (places : Nat) (S : Nat -> ByteArray) (B Fl : Nat -> Nat) (C : Nat -> Int) (w : World) : Prop where
 va : ∀ w', Below w.heap.size w w' -> Calls Tryz.prog 22 #[fm 11 52, .int .u64 b] w' (DyP vg vN vx w')
 pl : ∀ (mode : Nat) w', mode <= 4 -> Below w.heap.size w w' -> Calls Tryz.prog 15 #[fm 11 52, .int .u64 b, .int .i64 places, .int .u8 mode] w' fun e w'' => e = .returned (.tuple #[.string (S mode), .int .i64 0]) /\ Below w'.heap.size w' w''
 rd : ∀ (mode : Nat) w', mode <= 4 -> Below w.heap.size w w' -> Calls Tryz.prog 20 #[fm 11 52, .string (S mode), .int .u8 0] w' (RdP (B mode) (Fl mode) w')
 fl : ∀ (mode : Nat), mode <= 4 -> Fl mode = 0 \/ Fl mode = 1 \/ Fl mode = 3 \/ Fl mode = 5
 fz : ∀ (mode : Nat), mode <= 4 -> Fl mode ≠ 3 -> ∃ (g : Bool) (N : Nat) (x : Int), (∀ w', Below w.heap.size w w' -> Calls Tryz.prog 22 #[fm 11 52, .int .u64 (B mode)] w' (DyP g N x w')) /\
  (∀ A n c D m d w', Below w.heap.size w w' -> Rd w' A n c (toL N) -> Rd w' D m d (toL vN) -> Calls Tryz.prog 23 #[dyadV g A n c x, dyadV vg D m d vx] w' fun e w'' => e = .returned (.tuple #[.int .i64 (C mode), .int .i64 0]) /\ Below w'.heap.size w' w'')
 cd : Fl 4 = 0 -> C 4 <= 0
 cu : Fl 3 = 0 -> 0 <= C 3
 cb : ∀ (mode : Nat), -1 <= C mode /\ C mode <= 1
 tw : ∀ (mode : Nat), S mode = S 4 \/ S mode = S 3
 tz : S 2 = S (if neg then 3 else 4)
theorem cmpD_bd (g : Bool) (N : Nat) (x : Int) (h : Bool) (M : Nat) (y : Int) : -1 <= cmpD g N x h M y /\ cmpD g N x h M y <= 1 := by
 unfold cmpD
 split
 ·omega
 ·have h1 := sgnD_bd g N
  have h2 := cmpI_bd (N * p2 (x - y)) (M * p2 (y - x))
  rcases (by omega : sgnD g N = -1 \/ sgnD g N = 0 \/ sgnD g N = 1) with e | e | e <;> rw [e] <;> omega
theorem toL_len' {N : Nat} (hN : N < 2 ^ 60) : (toL N).length <= 16384 := by
 rcases Nat.eq_zero_or_pos N with h | h
 ·subst h; decide
 ·have h1 := bl_words h
  have h2 := bl_le hN
  have h3 := h1.1
  unfold words at h3
  omega
theorem twoOk_odd' {g : Bool} {N : Nat} {x : Int} (hN : N < 2 ^ 60) (ho : N % 2 = 1) (hx : -100000 <= x) (hx2 : x <= 100000) : twoOk g (toL N).length (toL N) x = true := by
 have h1 := bl_words (N := N) (by omega)
 have h2 := toL_len' hN
 have h3 : (toL N).length ≠ 0 := by
  intro h
  have := toL_eq_nil.1 (List.length_eq_zero_iff.1 h)
  omega
 have h4 : nth (toL N) 0 % 2 = 1 := by
  rw [nth_toL, Nat.pow_zero, Nat.div_one]
  omega
 have h5 := h1.2
 unfold words at h5
 unfold twoOk natOk
 rw [if_neg h3, h4]
 simp only [Bool.and_eq_true, Bool.or_eq_true, decide_eq_true_eq]
 exact ⟨⟨⟨⟨h2, Or.inr (by omega)⟩, by omega⟩, by omega⟩, trivial⟩
theorem exa_ok {g : Bool} {N : Nat} {x : Int} (hN : N < 2 ^ 60) (h0 : N = 0 -> g = false /\ x = 0) (ho : 0 < N -> N % 2 = 1) (hx : -100000 <= x) (hx2 : x <= 100000) : exaErr g (toL N).length (toL N) x = 0 := by
 have h : twoOk g (toL N).length (toL N) x = true := by
  rcases Nat.eq_zero_or_pos N with e | e
  ·obtain ⟨rfl, rfl⟩ := h0 e
   subst e
   decide
  ·exact twoOk_odd' hN (ho e) hx hx2
 have := exaErr_zero g (toL N).length (toL N) x
 rw [h] at this
 exact beq_iff_eq.1 this
theorem f_ok {E F b : Nat} (h1 : 2 <= E) (h2 : E <= 11) (h4 : F <= 52) : (fN E F b = 0 -> fG E F b = false /\ fX E F b = 0) /\ (0 < fN E F b -> fN E F b % 2 = 1) /\ fN E F b < 2 ^ 53 /\ -4000 <= fX E F b /\ fX E F b <= 4000 /\ (0 < fN E F b -> fG E F b = negOf E F b) := by
 have hX := fX_le (b := b) h1 h2 h4
 have hM := fM_lt (E := E) (b := b) h4
 have hz : fN E F b = 0 -> fM E F b = 0 := fun h => by
  rcases Nat.eq_zero_or_pos (fM E F b) with e | e
  ·exact e
  ·have := oddN_pos e
   have h : oddN (fM E F b) = 0 := h
   omega
 have hp : 0 < fN E F b -> 0 < fM E F b := fun h => by
  rcases Nat.eq_zero_or_pos (fM E F b) with e | e
  ·have : fN E F b = 0 := by show oddN (fM E F b) = 0; rw [e]; rfl
   omega
  ·exact e
 refine ⟨fun h => ?_, fun h => oddN_odd (hp h), Nat.lt_of_le_of_lt (oddN_le _) hM, hX.1, hX.2, fun h => ?_⟩
 ·constructor
  ·show oddG _ (fM E F b) = _; rw [hz h]; rfl
  ·show oddX (fM E F b) _ = _; rw [hz h]; rfl
 ·show oddG _ (fM E F b) = _
  unfold oddG
  rw [if_neg (by have := hp h; omega)]
theorem val_at (b : Nat) (w : World) (hb : b < 2 ^ (1 + 11 + 52)) (hf : expOf 11 52 b ≠ R3.tw 11 - 1) (hs : Std w) : Calls Tryz.prog 22 #[fm 11 52, .int .u64 b] w (DyP (fG 11 52 b) (fN 11 52 b) (fX 11 52 b) w) :=
 (Go.Proofs.YtddaldghlinokaaGreatDoor.Exa.Value 11 52 b w (by decide) (by decide) (by decide) (by decide) hb hf hs).mono fun _ _ h => ValP_eq h
theorem fits_double {b : Nat} (hb : b < 2 ^ (1 + 11 + 52)) : fitsErr 11 52 b = 0 := by
 have hl : bl b <= 1 + 11 + 52 := bl_le hb
 unfold fitsErr
 rw [if_pos (by decide), if_neg (by omega)]
theorem cmp_at {g : Bool} {A : Option Addr} {n c N : Nat} {x : Int} {h : Bool} {B : Option Addr} {m d M : Nat} {y : Int} {w : World} (ha : Rd w A n c (toL N)) (hb : Rd w B m d (toL M))
  (n1 : N < 2 ^ 60) (n2 : N = 0 -> g = false /\ x = 0) (n3 : 0 < N -> N % 2 = 1) (n4 : -10000 <= x) (n5 : x <= 10000) (m1 : M < 2 ^ 60) (m2 : M = 0 -> h = false /\ y = 0) (m3 : 0 < M -> M % 2 = 1) (m4 : -10000 <= y) (m5 : y <= 10000) :
  Calls Tryz.prog 23 #[dyadV g A n c x, dyadV h B m d y] w fun e w' => e = .returned (.tuple #[.int .i64 (cmpD g N x h M y), .int .i64 0]) /\ Below w.heap.size w w' := by
 have b1 := bl_le n1
 have b2 := bl_le m1
 have e1 := exa_ok n1 n2 n3 (by omega) (by omega)
 have e2 := exa_ok m1 m2 m3 (by omega) (by omega)
 have l1 := toL_len' n1
 have l2 := toL_len' m1
 rw [ha.len] at e1 l1
 rw [hb.len] at e2 l2
 exact Cmp g A n c N x h B m d M y w ha hb l1 l2 (by omega) (by omega) n4 n5 m4 m5 e1 e2
theorem btw_zero (b places : Nat) (w : World) (hg : Bg w) (ht : Ten w) (hb : b < 2 ^ (1 + 11 + 52)) (hf : expOf 11 52 b ≠ R3.tw 11 - 1) (hp : places <= 14) (h0 : fN 11 52 b = 0) :
  ∃ vg vN vx S B Fl C, BtwP b (negOf 11 52 b) vg vN vx places S B Fl C w := by
 obtain ⟨f1, f2, f3, f4, f5, f6⟩ := f_ok (E := 11) (F := 52) (b := b) (by decide) (by decide) (by decide)
 obtain ⟨hG, hX⟩ := f1 h0
 have hFi : ∀ w', Below w.heap.size w w' -> Calls Tryz.prog 52 #[fm 11 52, .int .u64 (b : Int)] w' (FinP (negOf 11 52 b) (fG 11 52 b) 0 (fX 11 52 b) w') := fun w' h => by
  have k : Calls Tryz.prog 52 #[fm 11 52, .int .u64 (b : Int)] w' (FinP (negOf 11 52 b) (fG 11 52 b) (fN 11 52 b) (fX 11 52 b) w') := finite 11 52 b w' (by decide) (by decide) (by decide) (by decide) hb hf (hg.below h).std _ _ _ rfl rfl rfl
  rwa [h0] at k
 obtain ⟨neg, hneg⟩ := yx (negOf 11 52 b)
 have p0 := parts_of (E := 11) (F := 52) (neg := neg) (r := 0) (by decide)
 rw [Nat.add_zero] at p0
 have hM : mantOf 52 (expOf 11 52 (sgb 11 52 neg)) (fracOf 52 (sgb 11 52 neg)) = 0 := by
  rw [p0.2.1, p0.2.2.1]; decide
 refine ⟨false, 0, 0, fun mode => ⟨(plcL neg (fG 11 52 b) 0 (fX 11 52 b) mode places).toArray⟩, fun _ => sgb 11 52 neg, fun _ => 0, fun _ => 0, fun w' h => ?_, fun mode w' hmd h => ?_, fun mode w' hmd h => ?_, fun _ _ => .inl rfl, fun mode _ _ => ?_, fun _ => by decide, fun _ => by decide, fun _ => by decide, fun mode => .inl rfl, ?_⟩
 ·have := val_at b w' hb hf (hg.below h).std
  rwa [h0, hG, hX] at this
 ·rw [hneg]
  exact Places0 11 52 b _ _ _ _ mode w' (Nat.lt_of_lt_of_le hb (by decide)) (ht.below h) (by omega) hmd (fits_double hb) fun w2 h' => hFi w2 (h.trans (h'.mono h.size))
 ·have hr := read_text neg 0 places 0 (Nat.pow_pos (by decide)) (by omega) (by decide) (by decide)
  rw [hexNum_none] at hr
  exact Read_ok 10 52 _ 0 _ w' (by decide) (by decide) (by decide) (by decide) (by decide) (hg.below h) hr rfl (by show (toL 0).length <= 16384; decide) (by show twoOk false (toL 0).length (toL 0) 0 = true; decide)
 ·refine ⟨false, 0, 0, fun w' h => ?_, fun A n c D m d w' h ha hb => ?_⟩
  ·have := Go.Proofs.YtddaldghlinokaaGreatDoor.Exa.Value 11 52 (sgb 11 52 neg) w' (by decide) (by decide) (by decide) (by decide) p0.2.2.2.2 (by rw [p0.2.1]; exact Nat.ne_of_lt p0.2.2.2.1) (hg.below h).std
   refine this.mono fun _ _ k => ?_
   have k := ValP_eq k
   rw [hM] at k
   exact k
  ·exact cmp_at ha hb (by decide) (fun _ => ⟨rfl, rfl⟩) (fun h => by omega) (by decide) (by decide) (by decide) (fun _ => ⟨rfl, rfl⟩) (fun h => by omega) (by decide) (by decide)
 ·cases negOf 11 52 b <;> rfl
theorem flags_four {E F : Nat} {neg : Bool} {mode a b : Nat} : (out E F neg mode a b).2 = 0 \/ (out E F neg mode a b).2 = 1 \/ (out E F neg mode a b).2 = 3 \/ (out E F neg mode a b).2 = 5 := by
 cases h : over E F neg mode a b with
 | true => rw [out_over h]; exact .inr (.inr (.inl rfl))
 | false =>
  rw [out_in h]
  show flags_ E F neg mode a b = 0 \/ flags_ E F neg mode a b = 1 \/ flags_ E F neg mode a b = 3 \/ flags_ E F neg mode a b = 5
  unfold flags_
  split
  ·exact .inl rfl
  ·split
   ·exact .inr (.inr (.inr rfl))
   ·exact .inr (.inl rfl)
theorem out_fin {E F : Nat} {neg : Bool} {mode a b : Nat} (h : (out E F neg mode a b).2 ≠ 3) : (out E F neg mode a b).1 < inf_ E F := by
 cases hov : over E F neg mode a b with
 | true => rw [out_over hov] at h; exact absurd rfl h
 | false =>
  rw [out_in hov]
  unfold over at hov
  rw [Bool.or_eq_false_iff] at hov
  have := of_decide_eq_false hov.2
  show bits_ E F neg mode a b < _
  omega
theorem btw_pos (b places : Nat) (w : World) (hg : Bg w) (ht : Ten w) (hb : b < 2 ^ (1 + 11 + 52)) (hf : expOf 11 52 b ≠ R3.tw 11 - 1) (hp : places <= 14) (h0 : 0 < fN 11 52 b) :
  ∃ vg vN vx S B Fl C, BtwP b (negOf 11 52 b) vg vN vx places S B Fl C w := by
 obtain ⟨-, f2, f3, f4, f5, f6⟩ := f_ok (E := 11) (F := 52) (b := b) (by decide) (by decide) (by decide)
 have hG := f6 h0
 have hFi : ∀ w', Below w.heap.size w w' -> Calls Tryz.prog 52 #[fm 11 52, .int .u64 (b : Int)] w' (FinP (negOf 11 52 b) (fG 11 52 b) (fN 11 52 b) (fX 11 52 b) w') := fun w' h =>
  finite 11 52 b w' (by decide) (by decide) (by decide) (by decide) hb hf (hg.below h).std _ _ _ rfl rfl rfl
 have hVa := fun w' (h : Below w.heap.size w w') => val_at b w' hb hf (hg.below h).std
 obtain ⟨neg, hneg⟩ := yx (negOf 11 52 b)
 obtain ⟨N, hN⟩ := yx (fN 11 52 b)
 obtain ⟨x, hx⟩ := yx (fX 11 52 b)
 rw [hG, <- hneg, <- hN, <- hx] at hFi hVa
 rw [<- hN] at h0 f2 f3
 rw [<- hx] at f4 f5
 rw [<- hneg]
 have hfw := fun mode => few_worth (neg := neg) (mode := mode) h0 f3 hp f4 f5
 obtain ⟨Mo, hMo⟩ : ∃ f : Nat -> Nat, ∀ mode, ∃ z, hexNum neg (plcN neg N mode places) (x - plcK N places) = ⟨2, neg, false, [], 0, neg, f mode, z, 0⟩ /\ f mode % 2 = 1 /\ f mode < 2 ^ 58 /\ -4200 <= z /\ z <= 4200 /\
   f mode * p2 z * p2 (-(x - plcK N places)) = plcN neg N mode places * p2 (x - plcK N places) * p2 (-z) := ⟨fun mode => (hfw mode).choose, fun mode => (hfw mode).choose_spec⟩
 obtain ⟨z, hz⟩ : ∃ z : Nat -> Int, ∀ mode, hexNum neg (plcN neg N mode places) (x - plcK N places) = ⟨2, neg, false, [], 0, neg, Mo mode, z mode, 0⟩ /\ Mo mode % 2 = 1 /\ Mo mode < 2 ^ 58 /\ -4200 <= z mode /\ z mode <= 4200 /\
   Mo mode * p2 (z mode) * p2 (-(x - plcK N places)) = plcN neg N mode places * p2 (x - plcK N places) * p2 (-z mode) := ⟨fun mode => (hMo mode).choose, fun mode => (hMo mode).choose_spec⟩
 clear hfw hMo
 have hMp : ∀ mode, 0 < Mo mode := fun mode => by have := (hz mode).2.1; omega
 have hap : ∀ mode, 0 < Mo mode * p2 (z mode) := fun mode => Nat.mul_pos (hMp mode) (p2_pos _)
 obtain ⟨o, ho⟩ : ∃ o : Nat -> Nat × Nat, ∀ mode, o mode = out 11 52 neg 0 (Mo mode * p2 (z mode)) (p2 (-z mode)) := ⟨_, fun _ => rfl⟩
 have hpt := fun mode (h : (o mode).2 ≠ 3) => parts_of (E := 11) (F := 52) (neg := neg) (r := (o mode).1) (by rw [ho] at h ⊢; exact out_fin h)
 have hC : ∀ mode, (o mode).2 = 0 -> cmpD (fG 11 52 (sgb 11 52 neg + (o mode).1)) (fN 11 52 (sgb 11 52 neg + (o mode).1)) (fX 11 52 (sgb 11 52 neg + (o mode).1)) neg N x = (if neg then -1 else 1) * cmpI (plcN neg N mode places * p2 (-plcK N places)) (N * p2 (plcK N places)) := fun mode h => by
  obtain ⟨p1, p2', p3, p4, p5⟩ := hpt mode (by rw [h]; decide)
  obtain ⟨q1, q2, q3⟩ := out_worth (E := 11) (F := 52) (neg := neg) (mode := 0) (by decide) (hap mode) (p2_pos (-z mode)) (by rw [<- ho]; exact h)
  rw [<- ho] at q1 q2 q3
  have e1 : fM 11 52 (sgb 11 52 neg + (o mode).1) = mantOf 52 ((o mode).1 / 2 ^ 52) ((o mode).1 % 2 ^ 52) := by unfold fM; rw [p2', p3]
  have e2 : fG 11 52 (sgb 11 52 neg + (o mode).1) = neg := by
   show oddG _ (fM _ _ _) = _
   rw [e1, p1]; unfold oddG; rw [if_neg (by omega)]
  have e3 : fN 11 52 (sgb 11 52 neg + (o mode).1) = oddN (mantOf 52 ((o mode).1 / 2 ^ 52) ((o mode).1 % 2 ^ 52)) := by show oddN (fM _ _ _) = _; rw [e1]
  have e4 : fX 11 52 (sgb 11 52 neg + (o mode).1) = oddX (mantOf 52 ((o mode).1 / 2 ^ 52) ((o mode).1 % 2 ^ 52)) (powOf 11 52 ((o mode).1 / 2 ^ 52)) := by show oddX (fM _ _ _) (powOf _ _ (expOf _ _ _)) = _; rw [e1, p2']
  rw [e2, e3, e4]
  exact few_cmp h0 (hMp mode) (hz mode).2.2.2.2.2 q2 q3
 refine ⟨neg, N, x, fun mode => ⟨(plcL neg neg N x mode places).toArray⟩, fun mode => sgb 11 52 neg + (o mode).1, fun mode => (o mode).2, fun mode => cmpD (fG 11 52 (sgb 11 52 neg + (o mode).1)) (fN 11 52 (sgb 11 52 neg + (o mode).1)) (fX 11 52 (sgb 11 52 neg + (o mode).1)) neg N x,
  hVa, fun mode w' hmd h => ?_, fun mode w' hmd h => ?_, fun mode _ => by simp only [ho]; exact flags_four, fun mode _ h3 => ?_, fun h => Int.le_trans (Int.le_of_eq (hC 4 h)) few_down, fun h => Int.le_trans few_up (Int.le_of_eq (hC 3 h).symm), fun mode => cmpD_bd _ _ _ _ _ _, fun mode => ?_, ?_⟩
 ·exact Places1 11 52 b _ _ _ _ _ mode w' (Nat.lt_of_lt_of_le hb (by decide)) (ht.below h) (hg.below h).std h0 f3 f4 f5 (by omega) hmd (fits_double hb) fun w2 h' => hFi w2 (h.trans (h'.mono h.size))
 ·have hr := plc_read neg neg (mode := mode) (places := places) h0 f3 (by omega) f4 f5
  obtain ⟨z1, z2, z3, z4, z5, -⟩ := hz mode
  rw [z1] at hr
  have hR := Read_ok 10 52 _ 0 _ w' (by decide) (by decide) (by decide) (by decide) (by decide) (hg.below h) hr rfl (toL_len' (Nat.lt_of_lt_of_le z3 (by decide))) (twoOk_odd' (Nat.lt_of_lt_of_le z3 (by decide)) z2 (Int.le_trans (by decide) z4) (Int.le_trans z5 (by decide)))
  simp only [] at hR
  have e : signedS (10 + 1) 52 neg neg 0 (Mo mode * p2 (z mode)) (p2 (-z mode)) = (sgb 11 52 neg + (o mode).1, (o mode).2) := by
   unfold signedS
   rw [if_neg (by have := hap mode; omega), <- ho]
  rw [e] at hR
  exact hR
 ·obtain ⟨p1, p2', p3, p4, p5⟩ := hpt mode h3
  obtain ⟨g1, g2, g3, g4, g5, -⟩ := f_ok (E := 11) (F := 52) (b := sgb 11 52 neg + (o mode).1) (by decide) (by decide) (by decide)
  refine ⟨_, _, _, fun w' h => val_at _ w' p5 (by rw [p2']; exact Nat.ne_of_lt p4) (hg.below h).std, fun A n c D m d w' h ha hb => ?_⟩
  exact cmp_at ha hb (Nat.lt_of_lt_of_le g3 (by decide)) g1 g2 (Int.le_trans (by decide) g4) (Int.le_trans g5 (by decide)) (Nat.lt_of_lt_of_le f3 (by decide)) (fun h => by omega) (fun _ => f2 h0) (Int.le_trans (by decide) f4) (Int.le_trans f5 (by decide))
 ·rcases plcL_two neg neg N x mode places with e | e
  ·exact .inl (by show ByteArray.mk _ = ByteArray.mk _; rw [e])
  ·exact .inr (by show ByteArray.mk _ = ByteArray.mk _; rw [e])
 ·show ByteArray.mk _ = ByteArray.mk _
  rw [plcL_toward neg N x places neg fun _ => rfl]
end Go.Proofs.YtddaldghlinokaaGreatDoor.Hx
