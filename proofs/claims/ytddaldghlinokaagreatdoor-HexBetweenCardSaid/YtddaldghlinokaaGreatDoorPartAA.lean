/- Lemmas. -/
set_option linter.all false
namespace Go.Proofs.YtddaldghlinokaaGreatDoor
def val : List Nat -> Nat
 | [] => 0
 | x :: xs => x + 4294967296 * val xs
def Lim (xs : List Nat) : Prop := ∀ x ∈ xs, x < 4294967296
def toLF : Nat -> Nat -> List Nat
 | 0, _ => []
 | f + 1, n => if n = 0 then [] else (n % 4294967296) :: toLF f (n / 4294967296)
def toL (n : Nat) : List Nat := toLF n n
theorem toLF_eq : ∀ (f g n : Nat), n <= f -> n <= g -> toLF f n = toLF g n
 | 0, 0, _, _, _ => rfl
 | 0, g + 1, n, h, _ => by
  have : n = 0 := by omega
  subst this; simp [toLF]
 | f + 1, 0, n, _, h => by
  have : n = 0 := by omega
  subst this; simp [toLF]
 | f + 1, g + 1, n, hf, hg => by
  by_cases h : n = 0
  ·subst h; simp [toLF]
  ·simp only [toLF, if_neg h]
   rw [toLF_eq f g _ (by omega) (by omega)]
theorem toL_zero : toL 0 = [] := rfl
theorem toL_pos {n : Nat} (h : 0 < n) : toL n = (n % 4294967296) :: toL (n / 4294967296) := by
 unfold toL
 obtain ⟨m, rfl⟩ : ∃ m, n = m + 1 := ⟨n - 1, by omega⟩
 simp only [toLF]
 rw [if_neg (by omega)]
 rw [toLF_eq m ((m + 1) / 4294967296) _ (by omega) (by omega)]
theorem Lim_nil : Lim [] := fun _ h => by cases h
theorem Lim_cons {x : Nat} {xs : List Nat} : Lim (x :: xs) ↔ x < 4294967296 /\ Lim xs := by
 simp [Lim]
theorem Lim_append {xs ys : List Nat} : Lim (xs ++ ys) ↔ Lim xs /\ Lim ys := by
 simp only [Lim, List.mem_append]
 exact ⟨fun h => ⟨fun x hx => h x (.inl hx), fun x hx => h x (.inr hx)⟩, fun h x hx => hx.elim (h.1 x) (h.2 x)⟩
theorem Lim_take {xs : List Nat} (h : Lim xs) (n : Nat) : Lim (xs.take n) := fun x hx => h x (List.mem_of_mem_take hx)
theorem Lim_drop {xs : List Nat} (h : Lim xs) (n : Nat) : Lim (xs.drop n) := fun x hx => h x (List.mem_of_mem_drop hx)
theorem Lim_replicate (n : Nat) : Lim (List.replicate n 0) := fun x hx => by
 rw [(List.mem_replicate.1 hx).2]; omega
theorem Lim_set {xs : List Nat} (h : Lim xs) (i : Nat) {x : Nat} (hx : x < 4294967296) : Lim (xs.set i x) := fun y hy => by
 rcases List.mem_or_eq_of_mem_set hy with h' | rfl
 ·exact h _ h'
 ·exact hx
theorem Lim_getD {xs : List Nat} (h : Lim xs) (i : Nat) : xs.getD i 0 < 4294967296 := by
 rw [List.getD_eq_getElem?_getD]
 by_cases hi : i < xs.length
 ·rw [List.getElem?_eq_getElem hi]; exact h _ (List.getElem_mem hi)
 ·rw [List.getElem?_eq_none (by omega)]; simp
theorem Lim_toL (n : Nat) : Lim (toL n) := by
 induction n using Nat.strongRecOn with
 | ind n ih =>
  by_cases h : n = 0
  ·subst h; exact Lim_nil
  ·rw [toL_pos (by omega), Lim_cons]
   exact ⟨Nat.mod_lt _ (by omega), ih _ (by omega)⟩
theorem val_nil : val [] = 0 := rfl
theorem val_cons (x : Nat) (xs : List Nat) : val (x :: xs) = x + 4294967296 * val xs := rfl
theorem val_append (xs ys : List Nat) : val (xs ++ ys) = val xs + 4294967296 ^ xs.length * val ys := by
 induction xs with
 | nil => simp [val]
 | cons x xs ih =>
  simp only [List.cons_append, val, ih, List.length_cons, Nat.pow_succ, Nat.mul_add]
  rw [<- Nat.mul_assoc, Nat.mul_comm 4294967296 (4294967296 ^ xs.length)]
  omega
theorem val_single (x : Nat) : val [x] = x := by simp [val]
theorem val_snoc (xs : List Nat) (x : Nat) : val (xs ++ [x]) = val xs + 4294967296 ^ xs.length * x := by
 rw [val_append, val_single]
theorem val_replicate (n : Nat) : val (List.replicate n 0) = 0 := by
 induction n with
 | zero => rfl
 | succ n ih => simp [List.replicate_succ, val, ih]
theorem val_lt {xs : List Nat} (h : Lim xs) : val xs < 4294967296 ^ xs.length := by
 induction xs with
 | nil => simp [val]
 | cons x xs ih =>
  obtain ⟨h1, h2⟩ := Lim_cons.1 h
  have := ih h2
  simp only [val, List.length_cons, Nat.pow_succ]
  omega
theorem val_toL (n : Nat) : val (toL n) = n := by
 induction n using Nat.strongRecOn with
 | ind n ih =>
  by_cases h : n = 0
  ·subst h; rfl
  ·rw [toL_pos (by omega), val, ih _ (by omega)]
   omega
theorem toL_val_cons {x : Nat} {xs : List Nat} (hx : x < 4294967296) (h : 0 < x + 4294967296 * val xs) : toL (val (x :: xs)) = x :: toL (val xs) := by
 rw [val, toL_pos h]
 congr 1
 ·omega
 ·congr 1; omega
def Top (xs : List Nat) : Prop := ∀ h : xs ≠ [], xs.getLast h ≠ 0
theorem val_pos_of_Top {xs : List Nat} (ht : Top xs) (hne : xs ≠ []) : 0 < val xs := by
 induction xs with
 | nil => exact absurd rfl hne
 | cons x xs ih =>
  by_cases h : xs = []
  ·subst h
   have := ht (by simp)
   simp [val] at this ⊢; omega
  ·have ht' : Top xs := fun h' => by
    have := ht (by simp)
    rwa [List.getLast_cons h'] at this
   have := ih ht' h
   simp only [val]; omega
theorem toL_val {xs : List Nat} (hl : Lim xs) (ht : Top xs) : toL (val xs) = xs := by
 induction xs with
 | nil => rfl
 | cons x xs ih =>
  obtain ⟨h1, h2⟩ := Lim_cons.1 hl
  have hp := val_pos_of_Top ht (by simp)
  rw [toL_val_cons h1 hp]
  congr 1
  by_cases h : xs = []
  ·subst h; rfl
  ·exact ih h2 fun h' => by
    have := ht (by simp)
    rwa [List.getLast_cons h'] at this
theorem toL_eq_nil {n : Nat} : toL n = [] ↔ n = 0 := ⟨fun h => by rw [<- val_toL n, h]; rfl, fun h => by subst h; rfl⟩
theorem toL_val_take {xs : List Nat} (hl : Lim xs) {n : Nat} (h0 : ∀ i, n <= i -> xs.getD i 0 = 0) (hn : n = 0 \/ (n <= xs.length /\ xs.getD (n - 1) 0 ≠ 0)) : xs.take n = toL (val xs) := by
 have e : val xs = val (xs.take n) := by
  conv => lhs; rw [<- List.take_append_drop n xs, val_append]
  have hz : val (xs.drop n) = 0 := by
   have : ∀ ys : List Nat, (∀ i, ys.getD i 0 = 0) -> val ys = 0 := by
    intro ys
    induction ys with
    | nil => intro _; rfl
    | cons y ys ih =>
     intro h
     have hy := h 0
     simp at hy
     rw [val, hy, ih (fun i => by simpa using h (i + 1))]
   refine this _ fun i => ?_
   have := h0 (n + i) (by omega)
   simpa [List.getElem?_drop] using this
  rw [hz]; simp
 rw [e, toL_val (Lim_take hl n)]
 intro hne
 rcases hn with rfl | ⟨hn, hx⟩
 ·simp at hne
 ·rw [List.getLast_eq_getElem]
  have hl' : (xs.take n).length = n := by simp; omega
  have h1 : 0 < n := by
   rcases Nat.eq_zero_or_pos n with h | h
   ·subst h; simp at hne
   ·exact h
  simp only [hl', List.getElem_take]
  rw [List.getD_eq_getElem?_getD, List.getElem?_eq_getElem (by omega)] at hx
  simpa using hx
theorem val_take_succ (xs : List Nat) (i : Nat) (h : i < xs.length) : val (xs.take (i + 1)) = val (xs.take i) + 4294967296 ^ i * xs.getD i 0 := by
 rw [List.take_succ_eq_append_getElem h, val_snoc, List.length_take, Nat.min_eq_left (by omega), List.getD_eq_getElem?_getD, List.getElem?_eq_getElem h]
 rfl
theorem val_drop (xs : List Nat) (i : Nat) (h : i < xs.length) : val (xs.drop i) = xs.getD i 0 + 4294967296 * val (xs.drop (i + 1)) := by
 rw [List.drop_eq_getElem_cons h, val, List.getD_eq_getElem?_getD, List.getElem?_eq_getElem h]
 rfl
theorem val_split (xs : List Nat) (i : Nat) (h : i <= xs.length) : val xs = val (xs.take i) + 4294967296 ^ i * val (xs.drop i) := by
 conv => lhs; rw [<- List.take_append_drop i xs, val_append]
 rw [List.length_take, Nat.min_eq_left h]
theorem val_div_pow {xs : List Nat} (hl : Lim xs) (i : Nat) : val xs / 4294967296 ^ i = val (xs.drop i) := by
 by_cases h : i <= xs.length
 ·have hp : 0 < 4294967296 ^ i := Nat.pow_pos (by omega)
  have hlt := val_lt (Lim_take hl i)
  rw [List.length_take, Nat.min_eq_left h] at hlt
  rw [val_split xs i h, Nat.add_mul_div_left _ _ hp, Nat.div_eq_of_lt hlt, Nat.zero_add]
 ·rw [List.drop_of_length_le (by omega)]
  have hlt := val_lt hl
  have : 4294967296 ^ xs.length <= 4294967296 ^ i := Nat.pow_le_pow_right (by omega) (by omega)
  exact Nat.div_eq_of_lt (by omega)
theorem val_mod_pow {xs : List Nat} (hl : Lim xs) (i : Nat) : val xs % 4294967296 ^ i = val (xs.take i) := by
 by_cases h : i <= xs.length
 ·have hlt := val_lt (Lim_take hl i)
  rw [List.length_take, Nat.min_eq_left h] at hlt
  rw [val_split xs i h, Nat.add_mul_mod_self_left, Nat.mod_eq_of_lt hlt]
 ·rw [List.take_of_length_le (by omega)]
  have hlt := val_lt hl
  have : 4294967296 ^ xs.length <= 4294967296 ^ i := Nat.pow_le_pow_right (by omega) (by omega)
  exact Nat.mod_eq_of_lt (by omega)
theorem getD_val {xs : List Nat} (hl : Lim xs) (i : Nat) : xs.getD i 0 = val xs / 4294967296 ^ i % 4294967296 := by
 rw [val_div_pow hl]
 by_cases h : i < xs.length
 ·rw [val_drop xs i h]
  have := Lim_getD hl i
  omega
 ·rw [List.drop_of_length_le (by omega), val_nil, List.getD_eq_getElem?_getD, List.getElem?_eq_none (by omega)]
  rfl
theorem take_set_succ (xs : List Nat) (i x : Nat) (h : i < xs.length) : (xs.set i x).take (i + 1) = xs.take i ++ [x] := by
 rw [List.take_succ_eq_append_getElem (by simpa using h), List.take_set_of_le (Nat.le_refl i)]
 simp
def words (n : Nat) : Nat := (toL n).length
theorem lt_words (n : Nat) : n < 4294967296 ^ words n := by
 have := val_lt (Lim_toL n)
 rwa [val_toL] at this
theorem words_le {n k : Nat} (h : n < 4294967296 ^ k) : words n <= k := by
 induction k generalizing n with
 | zero =>
  have : n = 0 := by simp at h; omega
  subst this; simp [words, toL_zero]
 | succ k ih =>
  by_cases h0 : n = 0
  ·subst h0; simp [words, toL_zero]
  ·unfold words
   rw [toL_pos (by omega), List.length_cons]
   have := ih (n := n / 4294967296) (by rw [Nat.pow_succ] at h; exact Nat.div_lt_of_lt_mul (by rw [Nat.mul_comm]; exact h))
   unfold words at this
   omega
theorem le_of_words {n : Nat} (h : 0 < n) : 4294967296 ^ (words n - 1) <= n := by
 rcases Nat.lt_or_ge n (4294967296 ^ (words n - 1)) with h1 | h1
 ·have := words_le h1
  have hw : 0 < words n := by
   unfold words
   rw [toL_pos h]; simp
  omega
 ·exact h1
theorem words_zero : words 0 = 0 := rfl
theorem words_eq_zero {n : Nat} : words n = 0 ↔ n = 0 := by
 unfold words
 rw [List.length_eq_zero_iff, toL_eq_nil]
theorem words_mono {a b : Nat} (h : a <= b) : words a <= words b := words_le (Nat.lt_of_le_of_lt h (lt_words b))
def nth (xs : List Nat) (i : Nat) : Nat := xs.getD i 0
theorem nth_lt {xs : List Nat} (h : Lim xs) (i : Nat) : nth xs i < 4294967296 := Lim_getD h i
theorem nth_val {xs : List Nat} (h : Lim xs) (i : Nat) : nth xs i = val xs / 4294967296 ^ i % 4294967296 := getD_val h i
theorem nth_ge (xs : List Nat) (i : Nat) (h : xs.length <= i) : nth xs i = 0 := by
 unfold nth; rw [List.getD_eq_getElem?_getD, List.getElem?_eq_none h]; rfl
theorem nth_set (xs : List Nat) (i x j : Nat) (h : i < xs.length) : nth (xs.set i x) j = if j = i then x else nth xs j := by
 unfold nth
 rw [List.getD_eq_getElem?_getD, List.getD_eq_getElem?_getD, List.getElem?_set]
 by_cases hj : i = j
 ·subst hj; simp [h]
 ·rw [if_neg hj, if_neg (fun e => hj e.symm)]
theorem nth_take (xs : List Nat) (n i : Nat) (h : i < n) : nth (xs.take n) i = nth xs i := by
 unfold nth
 rw [List.getD_eq_getElem?_getD, List.getD_eq_getElem?_getD, List.getElem?_take, if_pos h]
theorem nth_drop (xs : List Nat) (n i : Nat) : nth (xs.drop n) i = nth xs (n + i) := by
 unfold nth
 rw [List.getD_eq_getElem?_getD, List.getD_eq_getElem?_getD, List.getElem?_drop]
theorem nth_replicate (n i : Nat) : nth (List.replicate n 0) i = 0 := by
 unfold nth
 rw [List.getD_eq_getElem?_getD, List.getElem?_replicate]
 split <;> rfl
theorem nth_toL (n i : Nat) : nth (toL n) i = n / 4294967296 ^ i % 4294967296 := by rw [nth_val (Lim_toL n), val_toL]
theorem val_take_nth (xs : List Nat) (i : Nat) : val (xs.take (i + 1)) = val (xs.take i) + 4294967296 ^ i * nth xs i := by
 by_cases h : i < xs.length
 ·exact val_take_succ xs i h
 ·rw [nth_ge xs i (by omega), List.take_of_length_le (by omega), List.take_of_length_le (by omega)]; simp
theorem val_take_set (xs : List Nat) (i x : Nat) (h : i < xs.length) : val ((xs.set i x).take (i + 1)) = val (xs.take i) + 4294967296 ^ i * x := by
 rw [take_set_succ xs i x h, val_snoc, List.length_take, Nat.min_eq_left (by omega)]
theorem add_step {xs ys U : List Nat} {k q : Nat} (hU : k < U.length) (h : val (U.take k) + 4294967296 ^ k * q = val (xs.take k) + val (ys.take k)) :
  val ((U.set k ((nth xs k + q + nth ys k) % 4294967296)).take (k + 1)) + 4294967296 ^ (k + 1) * ((nth xs k + q + nth ys k) / 4294967296) = val (xs.take (k + 1)) + val (ys.take (k + 1)) := by
 rw [val_take_set U k _ hU, val_take_nth, val_take_nth, Nat.pow_succ, Nat.mul_assoc, Nat.add_assoc, <- Nat.mul_add, Nat.mod_add_div, Nat.mul_add, Nat.mul_add]
 omega
def cmpI (a b : Nat) : Int := if a < b then -1 else if b < a then 1 else 0
theorem cmpI_lt {a b : Nat} (h : a < b) : cmpI a b = -1 := if_pos h
theorem cmpI_gt {a b : Nat} (h : b < a) : cmpI a b = 1 := by unfold cmpI; rw [if_neg (by omega), if_pos h]
theorem cmpI_eq {a b : Nat} (h : a = b) : cmpI a b = 0 := by unfold cmpI; rw [if_neg (by omega), if_neg (by omega)]
theorem cmpI_ge_zero {a b : Nat} : 0 <= cmpI a b ↔ b <= a := by unfold cmpI; split <;> (try split) <;> omega
theorem cmpI_bd (a b : Nat) : -1 <= cmpI a b /\ cmpI a b <= 1 := by unfold cmpI; split <;> (try split) <;> omega
theorem val_drop_nth (xs : List Nat) (i : Nat) : val (xs.drop i) = nth xs i + 4294967296 * val (xs.drop (i + 1)) := by
 by_cases h : i < xs.length
 ·exact val_drop xs i h
 ·rw [nth_ge xs i (by omega), List.drop_of_length_le (by omega), List.drop_of_length_le (by omega)]; rfl
theorem lt_of_top {xs ys : List Nat} (hx : Lim xs) {j : Nat} (hj : j < xs.length) (hj' : j < ys.length) (e : val (xs.drop (j + 1)) = val (ys.drop (j + 1))) (h : nth xs j < nth ys j) : val xs < val ys := by
 rw [val_split xs j (by omega), val_split ys j (by omega), val_drop_nth xs, val_drop_nth ys, e]
 have h1 := val_lt (Lim_take hx j)
 rw [List.length_take, Nat.min_eq_left (by omega)] at h1
 have h2 : 4294967296 ^ j * (nth xs j + 1 + 4294967296 * val (ys.drop (j + 1))) <= 4294967296 ^ j * (nth ys j + 4294967296 * val (ys.drop (j + 1))) := Nat.mul_le_mul_left _ (by omega)
 have e3 : nth xs j + 1 + 4294967296 * val (ys.drop (j + 1)) = (nth xs j + 4294967296 * val (ys.drop (j + 1))) + 1 := by omega
 rw [e3, Nat.mul_succ] at h2
 omega
theorem lt_of_words {a b : Nat} (h : words a < words b) : a < b := by
 rcases Nat.lt_or_ge a b with h1 | h1
 ·exact h1
 ·have := words_mono h1; omega
theorem sub_step {xs ys U : List Nat} {k y d q : Nat} (hU : k < U.length) (h : val (U.take k) + val (ys.take k) = val (xs.take k) + 4294967296 ^ k * y) (hd : d + nth ys k + y = nth xs k + 4294967296 * q) :
  val ((U.set k d).take (k + 1)) + val (ys.take (k + 1)) = val (xs.take (k + 1)) + 4294967296 ^ (k + 1) * q := by
 rw [val_take_set U k _ hU, val_take_nth, val_take_nth, Nat.pow_succ, Nat.mul_assoc]
 have e : 4294967296 ^ k * (d + nth ys k + y) = 4294967296 ^ k * (nth xs k + 4294967296 * q) := by rw [hd]
 rw [Nat.mul_add, Nat.mul_add, Nat.mul_add] at e
 omega
theorem sub_done {xs ys U : List Nat} {n y : Nat} (hU : U.length = n) (hx : xs.length <= n) (hy : ys.length <= n) (hl : Lim U) (hle : val ys <= val xs) (h : val (U.take n) + val (ys.take n) = val (xs.take n) + 4294967296 ^ n * y) : val U = val xs - val ys := by
 rw [List.take_of_length_le (by omega), List.take_of_length_le hy, List.take_of_length_le hx] at h
 have h1 := val_lt hl
 rw [hU] at h1
 rcases Nat.eq_zero_or_pos y with h0 | h0
 ·subst h0; omega
 ·have : 4294967296 ^ n * 1 <= 4294967296 ^ n * y := Nat.mul_le_mul_left _ h0
  omega
theorem mul_bound {x y : Nat} (hx : x < 4294967296) (hy : y < 4294967296) : x * y <= 18446744065119617025 := Nat.mul_le_mul (show x <= 4294967295 by omega) (show y <= 4294967295 by omega)
theorem nth_set_ne (xs : List Nat) {i j : Nat} (x : Nat) (h : j ≠ i) : nth (xs.set i x) j = nth xs j := by
 unfold nth
 rw [List.getD_eq_getElem?_getD, List.getD_eq_getElem?_getD, List.getElem?_set, if_neg (fun e => h e.symm)]
theorem mul_step {ys U V : List Nat} {k j x c : Nat} (hV : k + j < V.length) (hs : nth V (k + j) = nth U (k + j))
  (h : val (V.take (k + j)) + 4294967296 ^ (k + j) * c = val (U.take (k + j)) + 4294967296 ^ k * (x * val (ys.take j))) :
  val ((V.set (k + j) ((x * nth ys j + nth V (k + j) + c) % 4294967296)).take (k + (j + 1))) + 4294967296 ^ (k + (j + 1)) * ((x * nth ys j + nth V (k + j) + c) / 4294967296)
   = val (U.take (k + (j + 1))) + 4294967296 ^ k * (x * val (ys.take (j + 1))) := by
 rw [show k + (j + 1) = (k + j) + 1 from rfl, val_take_set V _ _ hV, val_take_nth, val_take_nth, hs, Nat.pow_succ, Nat.mul_assoc, Nat.add_assoc, <- Nat.mul_add, Nat.mod_add_div]
 have e : 4294967296 ^ k * (x * (val (ys.take j) + 4294967296 ^ j * nth ys j)) = 4294967296 ^ k * (x * val (ys.take j)) + 4294967296 ^ (k + j) * (x * nth ys j) := by
  rw [Nat.mul_add, Nat.mul_add, Nat.pow_add, Nat.mul_assoc, Nat.mul_left_comm x]
 rw [e, Nat.mul_add, Nat.mul_add]
 omega
theorem mul_row {xs ys U V : List Nat} {k m c : Nat} (hm : ys.length = m) (hV : k + m < V.length)
  (hU : val (U.take (k + m)) = val (xs.take k) * val ys) (h : val (V.take (k + m)) + 4294967296 ^ (k + m) * c = val (U.take (k + m)) + 4294967296 ^ k * (nth xs k * val (ys.take m))) :
  val ((V.set (k + m) c).take (k + 1 + m)) = val (xs.take (k + 1)) * val ys := by
 have e : ys.take m = ys := List.take_of_length_le (by omega)
 rw [show k + 1 + m = (k + m) + 1 by omega, val_take_set V _ _ hV, h, hU, e, val_take_nth, Nat.add_mul, Nat.mul_assoc]
theorem take_all {xs : List Nat} {n : Nat} (h : xs.length <= n) : xs.take n = xs := List.take_of_length_le h
theorem ext_nth {xs ys : List Nat} (hl : xs.length = ys.length) (h : ∀ i, i < xs.length -> nth xs i = nth ys i) : xs = ys := by
 apply List.ext_getElem hl
 intro i h1 h2
 have := h i h1
 unfold nth at this
 rw [List.getD_eq_getElem?_getD, List.getD_eq_getElem?_getD, List.getElem?_eq_getElem h1, List.getElem?_eq_getElem h2] at this
 simpa using this
theorem tail_eq {U V : List Nat} {q : Nat} (hl : V.length = U.length) (h : ∀ p, q <= p -> nth V p = nth U p) : val V + val (U.take q) = val U + val (V.take q) := by
 by_cases hq : q <= U.length
 ·have e : V.drop q = U.drop q := ext_nth (by rw [List.length_drop, List.length_drop, hl]) fun i _ => by rw [nth_drop, nth_drop]; exact h _ (by omega)
  have h1 := val_split V q (by omega)
  have h2 := val_split U q hq
  rw [e] at h1
  omega
 ·rw [take_all (xs := U) (by omega), take_all (xs := V) (by omega)]; omega
theorem exp_lt {a n : Nat} (h : 4294967296 ^ a < 4294967296 ^ n) : a < n := (Nat.pow_lt_pow_iff_right (by omega)).1 h
theorem val_take_le (xs : List Nat) (q : Nat) : val (xs.take q) <= val xs := by
 by_cases hq : q <= xs.length
 ·rw [val_split xs q hq]; omega
 ·rw [take_all (by omega)]; omega
theorem addAt_room {U V : List Nat} {at_ k y N n : Nat} (hf : val U + 4294967296 ^ at_ * N < 4294967296 ^ n) (h : val (V.take (at_ + k)) + 4294967296 ^ (at_ + k) * y = val (U.take (at_ + k)) + 4294967296 ^ at_ * val ((toL N).take k))
  (hc : k < (toL N).length \/ 0 < y) : at_ + k < n := by
 apply exp_lt
 by_cases hk : k < (toL N).length
 ·have h0 : 0 < N := by
   rcases Nat.eq_zero_or_pos N with h0 | h0
   ·subst h0; rw [toL_zero] at hk; simp at hk
   ·exact h0
  have h1 := le_of_words h0
  have h2 : 4294967296 ^ k <= 4294967296 ^ (words N - 1) := Nat.pow_le_pow_right (by omega) (by unfold words; omega)
  have h3 : 4294967296 ^ at_ * 4294967296 ^ k <= 4294967296 ^ at_ * N := Nat.mul_le_mul_left _ (by omega)
  rw [Nat.pow_add]
  omega
 ·have hy : 0 < y := hc.resolve_left hk
  rw [take_all (xs := toL N) (by omega), val_toL] at h
  have h1 := val_take_le U (at_ + k)
  have h2 : 4294967296 ^ (at_ + k) * 1 <= 4294967296 ^ (at_ + k) * y := Nat.mul_le_mul_left _ hy
  omega
theorem addAt_step {ys U V : List Nat} {a k y d q : Nat} (hV : a + k < V.length) (hs : nth V (a + k) = nth U (a + k))
  (h : val (V.take (a + k)) + 4294967296 ^ (a + k) * y = val (U.take (a + k)) + 4294967296 ^ a * val (ys.take k)) (hd : d + 4294967296 * q = nth V (a + k) + y + nth ys k) :
  val ((V.set (a + k) d).take (a + (k + 1))) + 4294967296 ^ (a + (k + 1)) * q = val (U.take (a + (k + 1))) + 4294967296 ^ a * val (ys.take (k + 1)) := by
 rw [show a + (k + 1) = (a + k) + 1 from rfl, val_take_set V _ _ hV, val_take_nth, val_take_nth, Nat.pow_succ, Nat.mul_assoc, Nat.add_assoc, <- Nat.mul_add, hd, hs, Nat.mul_add, Nat.mul_add, Nat.mul_add, <- Nat.mul_assoc, <- Nat.pow_add]
 omega
theorem addAt_done {U V : List Nat} {a k N : Nat} (hl : V.length = U.length) (hs : ∀ p, a + k <= p -> nth V p = nth U p) (hk : (toL N).length <= k)
  (h : val (V.take (a + k)) + 4294967296 ^ (a + k) * 0 = val (U.take (a + k)) + 4294967296 ^ a * val ((toL N).take k)) : val V = val U + 4294967296 ^ a * N := by
 have h1 := tail_eq hl hs
 rw [take_all (xs := toL N) hk, val_toL] at h
 omega
theorem val_take_add (xs : List Nat) (p m : Nat) : val (xs.take (p + m)) = val (xs.take p) + 4294967296 ^ p * val ((xs.drop p).take m) := by
 by_cases h : p <= xs.length
 ·rw [List.take_add, val_append, List.length_take, Nat.min_eq_left h]
 ·rw [take_all (by omega), take_all (by omega), List.drop_of_length_le (by omega)]
  simp [val]
theorem kara (a b c d p : Nat) : a * c + p * ((a + b) * (c + d) - a * c - b * d) + p * p * (b * d) = (a + p * b) * (c + p * d) := by
 have e : (a + b) * (c + d) = a * c + b * d + (a * d + b * c) := by
  rw [Nat.add_mul, Nat.mul_add, Nat.mul_add]; omega
 rw [e, show a * c + b * d + (a * d + b * c) - a * c - b * d = a * d + b * c by omega, Nat.add_mul, Nat.mul_add, Nat.mul_add, Nat.mul_add]
 have e1 : a * (p * d) = p * (a * d) := Nat.mul_left_comm a p d
 have e2 : p * b * c = p * (b * c) := Nat.mul_assoc p b c
 have e3 : p * b * (p * d) = p * p * (b * d) := by rw [Nat.mul_assoc, Nat.mul_left_comm b p d, <- Nat.mul_assoc]
 omega
theorem kara_le1 (a b c d : Nat) : a * c <= (a + b) * (c + d) := Nat.mul_le_mul (by omega) (by omega)
theorem kara_le2 (a b c d : Nat) : b * d <= (a + b) * (c + d) - a * c := by
 have e : (a + b) * (c + d) = a * c + b * d + (a * d + b * c) := by
  rw [Nat.add_mul, Nat.mul_add, Nat.mul_add]; omega
 omega
theorem prod_lt {xs ys : List Nat} (hx : Lim xs) (hy : Lim ys) : val xs * val ys < 4294967296 ^ (xs.length + ys.length) := by
 have h1 := val_lt hx
 have h2 := val_lt hy
 rw [Nat.pow_add]
 exact Nat.mul_lt_mul'' h1 h2
end Go.Proofs.YtddaldghlinokaaGreatDoor
