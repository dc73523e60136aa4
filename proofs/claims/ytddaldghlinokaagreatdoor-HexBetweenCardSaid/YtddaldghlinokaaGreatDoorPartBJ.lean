/- Lemmas. -/
import Derived.Test.YtddaldghlinokaaGreatDoorPartBI
import Derived.Test.YtddaldghlinokaaGreatDoorPartBE
import Derived.Test.YtddaldghlinokaaGreatDoorPartAY
set_option linter.all false
namespace Go.Proofs.YtddaldghlinokaaGreatDoor.Hx
open Go Go.RowKit R5 Scn Fms Exa
def RdP (bits flags : Nat) (w : World) (e : Ending) (w' : World) : Prop :=
 e = .returned (.tuple #[.int .u64 (bits : Int), .int .u8 (flags : Int), .nilIface]) /\ Below w.heap.size w w'
set_option maxRecDepth 100000 in
set_option maxHeartbeats 2000000 in
theorem Read_ok (G F : Nat) (s : ByteArray) (mode : Nat) (x : Num) (w : World) (g1 : 1 <= G) (g2 : G <= 10) (h3 : 1 <= F) (h4 : F <= 52) (hm : mode <= 4) (hg : Bg w)
  (hr : read s = (x, 0, 0)) (hk : x.kind = 2) (hn : (toL x.mant).length <= 16384) (hok : twoOk x.hneg (toL x.mant).length (toL x.mant) x.hexp = true) :
  Calls Tryz.prog 20 #[fm ((G : Int) + 1) F, .string s, .int .u8 (mode : Int)] w (RdP (signedS (G + 1) F x.hneg x.neg mode (x.mant * p2 x.hexp) (p2 (-x.hexp))).1 (signedS (G + 1) F x.hneg x.neg mode (x.mant * p2 x.hexp) (p2 (-x.hexp))).2 w) := by
 have hck := R3.chk_ok (Fms.formOk_in (E := G + 1) (F := F) (by omega) (by omega) h3 h4)
 rw [show (((G + 1 : Nat) : Int)) = (G : Int) + 1 by omega] at hck
 have HFm := vv fun w => Fms.Check ((G : Int) + 1) F w
 rw [hck] at HFm
 have HRe := vv fun w' (h : Below w.heap.size w w') => Scn.Read s w' (hg.below h)
 rw [hr] at HRe
 have hxb : -1073741824 <= x.hexp /\ x.hexp <= 1073741824 := by
  unfold twoOk at hok
  simp only [Bool.and_eq_true, decide_eq_true_eq] at hok
  exact ⟨hok.1.2, hok.1.1.2⟩
 have HDy := vv fun A m c w' (hs : Std w') (ha : Rd w' A m c (toL x.mant)) => Rnd.Dyadic G F x.hneg x.neg mode A m c x.mant x.hexp w' g1 g2 h3 h4 hm ha (by rw [<- ha.len]; exact hn) (by rw [<- ha.len]; exact hok) (by omega) (by omega)
 have HSt := vv hg.std
 obtain ⟨o, ho⟩ := yx (signedS (G + 1) F x.hneg x.neg mode (x.mant * p2 x.hexp) (p2 (-x.hexp)))
 rw [<- ho] at HDy ⊢
 obtain ⟨kd, ng, dn, dg, ex, hn', M, hx, py⟩ := x
 dsimp only at *
 subst hk
 have hmi : (mode : Int) <= 4 := by omega
 have dm : decide ((4 : Int) < (mode : Int)) = false := decide_eq_false (by omega)
 obtain ⟨w0, hw0⟩ := yx (w.alloc (.cells #[.int .i64 ((G : Int) + 1), .int .i64 (F : Int)] 23))
 have hB : Below w.heap.size w w0 := by rw [hw0]; exact (Below.refl _ _).alloc (Nat.le_refl _) _
 have hQ : Blk w0 w.heap.size 23 [.int .i64 ((G : Int) + 1), .int .i64 (F : Int)] := by rw [hw0]; exact Blk.made w 23 [.int .i64 ((G : Int) + 1), .int .i64 (F : Int)]
 have HW := vv hw0
 have HB := vv hB
 have HQ := vv hQ
 have hGi : (G : Int) <= 10 := by omega
 clear hw0 hB hQ hr hck hg hn hok hxb ho g1 g2 h3 h4 hm
 go_enter Tryz.func20, Tryz.ntmps20
 go_wp2_with fail
 rw [<- HW.out]
 refine (HFm.out _).mono ?_
 rintro e w1 ⟨rfl, hB⟩
 have HQ1 := vv (HQ.out.below hB)
 have HB1 := vn HB hB
 clear hB
 go_wp2_with fail
 refine (HRe.out _ HB1.out).mono ?_
 rintro e w2 h
 rcases h with ⟨_, A, m, c, rfl, hA, _, hB⟩ | ⟨h, _⟩
 ·have HQ2 := vv (HQ1.out.below hB)
  have HB2 := vn HB1 hB
  have HA2 := vv hA
  clear hB hA
  have hv : Go.Proofs.YtddaldghlinokaaGreatDoor.Scn.numV ⟨2, ng, dn, dg, ex, hn', M, hx, py⟩ A m c = .agg #[.int .u8 2, .bool ng, .bool dn, .string ⟨dg.toArray⟩, .int .i64 ex, .bool hn', .slice A m c, .int .i64 hx, .int .u64 (py : Int)] := rfl
  obtain ⟨w3, hw3⟩ := yx (w2.alloc (.cells #[.int .u8 2, .bool ng, .bool dn, .string ⟨dg.toArray⟩, .int .i64 ex, .bool hn', .slice A m c, .int .i64 hx, .int .u64 (py : Int)] 33))
  have hb3 : Below w2.heap.size w2 w3 := by rw [hw3]; exact (Below.refl _ _).alloc (Nat.le_refl _) _
  have hN3 : Blk w3 w2.heap.size 33 [.int .u8 2, .bool ng, .bool dn, .string ⟨dg.toArray⟩, .int .i64 ex, .bool hn', .slice A m c, .int .i64 hx, .int .u64 (py : Int)] := by rw [hw3]; exact Blk.made w2 33 [.int .u8 2, .bool ng, .bool dn, .string ⟨dg.toArray⟩, .int .i64 ex, .bool hn', .slice A m c, .int .i64 hx, .int .u64 (py : Int)]
  have HQ3 := vv (HQ2.out.below hb3)
  have HB3 := vn HB2 hb3
  have HA3 := vv (HA2.out.below hb3 rfl)
  have HN3 := vv hN3
  have HW3 := vv hw3
  clear hb3 hN3 hw3
  rw [hv]
  clear hv
  have c0 := HQ2.out.cell 0
  have c1 := HQ2.out.cell 1
  have cl := HQ2.out.lt
  simp only [List.getElem?_cons_zero, List.getElem?_cons_succ] at c0 c1
  go_wp2_with fail
  rw [<- HW3.out]
  refine (HDy.out _ _ _ _ (HSt.out.below HB3.out) HA3.out).mono ?_
  rintro e w4 ⟨rfl, hB⟩
  have HB4 := vn HB3 hB
  clear hB c0 c1 cl
  go_wp2
  go_ret3
  exact ⟨rfl, HB4.out⟩
 ·exact absurd rfl h
end Go.Proofs.YtddaldghlinokaaGreatDoor.Hx
namespace Go.Proofs.YtddaldghlinokaaGreatDoor
open Go Go.RowKit Scn Hx
abbrev BlkD := Nat × TypeId × List Value
structure Ctx (w : World) (bs : List BlkD) (w' : World) : Prop where
 low : Below w.heap.size w w'
 all : ∀ x ∈ bs, Blk w' x.1 x.2.1 x.2.2
theorem Ctx.nil (w : World) : Ctx w [] w := ⟨Below.refl _ _, fun _ h => by cases h⟩
theorem Ctx.step {w w1 w2 : World} {bs : List BlkD} (h : Ctx w bs w1) (hb : Below w1.heap.size w1 w2) : Ctx w bs w2 :=
 ⟨h.low.trans (hb.mono h.low.size), fun x hx => (h.all x hx).below hb⟩
theorem Ctx.drew {w w1 : World} {bs : List BlkD} (h : Ctx w bs w1) : Ctx w bs w1.drew := h.step (below_drew (Below.refl _ _))
theorem Ctx.new {w w1 : World} {bs : List BlkD} (h : Ctx w bs w1) (t : TypeId) (cs : List Value) {g : Nat} (hg : g = w1.heap.size) : Ctx w ((g, t, cs) :: bs) (w1.alloc (.cells cs.toArray t)) := by
 subst hg
 refine ⟨h.low.trans (((Below.refl w1.heap.size w1).alloc (Nat.le_refl _) _).mono h.low.size), fun x hx => ?_⟩
 rcases List.mem_cons.1 hx with rfl | hx
 ·exact Blk.made _ _ _
 ·exact (h.all x hx).alloc _
theorem Ctx.get {w w' : World} {bs : List BlkD} (h : Ctx w bs w') (i : Nat) {g : Nat} {t : TypeId} {cs : List Value} (hi : bs[i]? = some (g, t, cs)) : Blk w' g t cs := h.all (g, t, cs) (List.mem_of_getElem? hi)
theorem Ctx.put {w w1 w2 : World} {bs : List BlkD} (h : Ctx w bs w1) (i : Nat) {g : Nat} {t : TypeId} {old cs : List Value} (hi : bs[i]? = some (g, t, old)) (hne : ∀ j x, j ≠ i -> bs[j]? = some x -> x.1 ≠ g) (hw : w.heap.size <= g)
  (hb : Blk w2 g t cs) (hg : w1.grownBy w2 (some g)) : Ctx w (bs.set i (g, t, cs)) w2 := by
 refine ⟨only_below h.low hg h.low.size hw, fun x hx => ?_⟩
 obtain ⟨j, hj⟩ := List.getElem?_of_mem hx
 by_cases e : j = i
 ·subst e
  rw [List.getElem?_set_self' ] at hj
  rw [hi] at hj
  cases hj
  exact hb
 ·rw [List.getElem?_set_ne (fun k => e k.symm)] at hj
  exact (h.all x (List.mem_of_getElem? hj)).grown hg (fun k => hne j x e hj (Option.some.inj k).symm)
theorem Ctx.write {w w1 w2 : World} {bs : List BlkD} (h : Ctx w bs w1) {g : Nat} (hg : w1.grownBy w2 (some g)) (hw : w.heap.size <= g) (hne : ∀ x ∈ bs, x.1 ≠ g) : Ctx w bs w2 :=
 ⟨only_below h.low hg h.low.size hw, fun x hx => (h.all x hx).grown hg (fun k => hne x hx (Option.some.inj k).symm)⟩
theorem Ctx.row {w w1 w2 : World} {bs : List BlkD} (h : Ctx w bs w1) {row : Option Nat} (hg : w1.grownBy w2 row) (hw : ∀ b, row = some b -> w.heap.size <= b /\ ∀ x ∈ bs, x.1 ≠ b) : Ctx w bs w2 := by
 refine ⟨⟨hg.os.trans h.low.os, hg.tape.trans h.low.tape, hg.output.trans h.low.output, Nat.le_trans h.low.size hg.size, fun i hi => ?_⟩, fun x hx => (h.all x hx).grown hg (fun k => (hw _ k).2 x hx rfl)⟩
 exact (hg.block i (Nat.lt_of_lt_of_le hi h.low.size) (fun k => by have := (hw _ k.symm).1; omega)).trans (h.low.block i hi)
theorem Ctx.fs {w w1 w2 : World} {bs : List BlkD} {l : List Ob} (h : Ctx w bs w1) (hf : Fs l w1 w2) (hw : ∀ p ∈ l, w.heap.size <= p.1) (hne : ∀ x ∈ bs, ∀ p ∈ l, p.1 ≠ x.1) : Ctx w bs w2 :=
 ⟨hf.below h.low h.low.size hw, fun x hx => (hf.block x.1 (h.all x hx).lt (hne x hx)).trans (h.all x hx)⟩
theorem Rd.else_ {w w' : World} {A : Option Addr} {n c g : Nat} {xs : List Nat} {t : TypeId} {cs : List Value} (h : Rd w A n c xs) (hb : Blk w g t cs) (hcs : cs.all (fun v => match v with | .int _ _ => false | _ => true) = true) (hg : w.grownBy w' (some g)) : Rd w' A n c xs :=
 ⟨h.len, h.le, h.sm, h.lim, fun hn => by
  obtain ⟨b, off, e, hlt, hc⟩ := h.cell hn
  have hne : b ≠ g := by
   rintro rfl
   have h0 := hc 0 hn
   rw [hb.cell] at h0
   have := List.all_eq_true.1 hcs _ (List.mem_of_getElem? h0)
   simp at this
  exact ⟨b, off, e, Nat.lt_of_lt_of_le hlt hg.size, fun j hj => (only_cell hg (p := ⟨b, off + j, none⟩) hlt hne).trans (hc j hj)⟩⟩
theorem Ctx.rd {w w' : World} {bs : List BlkD} (h : Ctx w bs w') {A : Option Addr} {n c : Nat} {xs : List Nat} (hr : Rd w A n c xs) : Rd w' A n c xs := hr.below h.low rfl
theorem Ctx.std {w w' : World} {bs : List BlkD} (h : Ctx w bs w') (hs : Std w) : Std w' := hs.below h.low
end Go.Proofs.YtddaldghlinokaaGreatDoor
namespace Go.Proofs.YtddaldghlinokaaGreatDoor.Hx
open Go Go.RowKit R5 Scn Fms Exa
theorem bias_nat {E : Nat} : bias E = ((2 ^ (E - 1) : Nat) : Int) - 1 := by
 unfold bias
 have h2 : ((2 ^ (E - 1) : Nat) : Int) = (2 : Int) ^ (E - 1) := by rw [Int.natCast_pow]; rfl
 rw [h2]
theorem pow_log {M k : Nat} {p : Int} (h1 : 2 ^ k <= M) (h2 : M < 2 ^ (k + 1)) : IsLog (k + p) (M * p2 p) (p2 (-p)) := by
 have q := p2_add k p
 rw [p2_nat, p2_nonpos (n := -(k : Int)) (by omega), Nat.one_mul] at q
 have hm := Nat.mul_pos (p2_pos p) (p2_pos (-(k + p)))
 constructor
 ·calc p2 (-p) * p2 (k + p) = 2 ^ k * (p2 p * p2 (-(k + p))) := by grind
   _ <= M * (p2 p * p2 (-(k + p))) := Nat.mul_le_mul_right _ h1
   _ = _ := by grind
 ·calc M * p2 p * p2 (-(k + p)) = M * (p2 p * p2 (-(k + p))) := by grind
   _ < 2 ^ (k + 1) * (p2 p * p2 (-(k + p))) := Nat.mul_lt_mul_of_pos_right h2 hm
   _ = 2 * (2 ^ k * (p2 p * p2 (-(k + p)))) := by rw [Nat.pow_succ]; grind
   _ = 2 * (p2 (-p) * p2 (k + p)) := by grind
theorem pow_ilog {M k : Nat} {p : Int} (h1 : 2 ^ k <= M) (h2 : M < 2 ^ (k + 1)) : ilog (M * p2 p) (p2 (-p)) = k + p :=
 (ilog_spec (Nat.mul_pos (Nat.lt_of_lt_of_le (Nat.two_pow_pos k) h1) (p2_pos _)) (p2_pos _)).uniq (pow_log h1 h2)
theorem out_exact {E F x f : Nat} {neg : Bool} {mode : Nat} (hE : 2 <= E) (hx : x < 2 ^ E - 1) (hf : f < 2 ^ F) (h0 : 0 < mantOf F x f) :
  out E F neg mode (mantOf F x f * p2 (powOf E F x)) (p2 (-powOf E F x)) = (x * 2 ^ F + f, 0) := by
 obtain ⟨M, hM⟩ := yx (mantOf F x f)
 obtain ⟨p, hp⟩ := yx (powOf E F x)
 rw [<- hM] at h0 ⊢
 rw [<- hp]
 have hb := bias_nat (E := E)
 have hb1 := bias_pos hE
 have hl : low_ E (M * p2 p) (p2 (-p)) = p + F := by
  unfold low_
  by_cases h : x = 0
  ·have eM : M = f := by rw [hM]; unfold mantOf; rw [if_pos h]
   have ep : p = 1 - bias E - F := by rw [hp]; unfold powOf; rw [if_pos h]; omega
   have k1 := lt_bl M
   have k2 := le_bl h0
   have k3 := bl_pos h0
   have e := pow_ilog (M := M) (k := bl M - 1) (p := p) k2 (by rw [show bl M - 1 + 1 = bl M by omega]; exact k1)
   have hbl : bl M <= F := bl_le (by rw [eM]; exact hf)
   rw [e]
   omega
  ·have eM : M = f + 2 ^ F := by rw [hM]; unfold mantOf; rw [if_neg h]
   have ep : p = x - bias E - F := by rw [hp]; unfold powOf; rw [if_neg h]; omega
   rw [pow_ilog (M := M) (k := F) (p := p) (by omega) (by rw [Nat.pow_succ]; omega)]
   omega
 have hs : M * p2 p * p2 ((F : Int) - (p + F)) = M * (p2 (-p) * p2 (p + F - F)) := by
  rw [show (F : Int) - (p + F) = -p by omega, show p + (F : Int) - F = p by omega]; grind
 have hd : 0 < p2 (-p) * p2 (p + (F : Int) - F) := Nat.mul_pos (p2_pos _) (p2_pos _)
 have hm : mant E F neg mode (M * p2 p) (p2 (-p)) = M := by
  unfold mant
  rw [hl, hs]
  unfold rnd
  rw [Nat.mul_mod_left, if_pos rfl, Nat.mul_div_cancel _ hd]
 have hr : rest_ E F (M * p2 p) (p2 (-p)) = 0 := by
  unfold rest_
  rw [hl, hs, Nat.mul_mod_left]
 have hbits : bits_ E F neg mode (M * p2 p) (p2 (-p)) = x * 2 ^ F + f := by
  unfold bits_
  rw [hm, hl]
  by_cases h : x = 0
  ·have eM : M = f := by rw [hM]; unfold mantOf; rw [if_pos h]
   have ep : p = 1 - bias E - F := by rw [hp]; unfold powOf; rw [if_pos h]; omega
   rw [show (p + (F : Int) + bias E - 1).toNat = 0 by omega, eM, h]; omega
  ·have eM : M = f + 2 ^ F := by rw [hM]; unfold mantOf; rw [if_neg h]
   have ep : p = x - bias E - F := by rw [hp]; unfold powOf; rw [if_neg h]; omega
   obtain ⟨y, rfl⟩ : ∃ y, x = y + 1 := ⟨x - 1, by omega⟩
   rw [show (p + (F : Int) + bias E - 1).toNat = y by omega, eM, Nat.add_mul, Nat.one_mul]; omega
 have hov : over E F neg mode (M * p2 p) (p2 (-p)) = false := by
  unfold over
  rw [hbits, hl, Bool.or_eq_false_iff]
  constructor
  ·apply decide_eq_false
   have h2E : 2 ^ E = 2 * 2 ^ (E - 1) := by rw [Nat.mul_comm, <- Nat.pow_succ]; congr 1; omega
   have ep : p = (if x = 0 then 1 else (x : Int)) - bias E - F := by rw [hp]; unfold powOf; split <;> omega
   rw [ep]
   split <;> omega
  ·apply decide_eq_false
   unfold inf_
   have h1 : (x + 1) * 2 ^ F <= (2 ^ E - 1) * 2 ^ F := Nat.mul_le_mul_right _ (by omega)
   rw [Nat.add_mul, Nat.one_mul, Nat.sub_mul, Nat.one_mul, <- Nat.pow_add] at h1
   omega
 unfold out
 rw [hov, hbits]
 unfold flags_
 rw [hr, if_pos rfl]
 rfl
theorem odd_split {M : Nat} (h : 0 < M) : M = oddN M * 2 ^ tz M := by
 unfold oddN
 rw [if_neg (by omega)]
 obtain ⟨m, hm⟩ := tz_spec h
 have e : M / 2 ^ tz M = 2 * m + 1 := Nat.div_eq_of_eq_mul_right (Nat.two_pow_pos _) hm
 rw [e, Nat.mul_comm]
 exact hm
theorem bits_split {E F b : Nat} (hb : b < 2 ^ (1 + E + F)) : b = sgb E F (negOf E F b) + (expOf E F b * 2 ^ F + fracOf F b) := by
 have h1 : b / 2 ^ F / 2 ^ E = b / 2 ^ (F + E) := by rw [Nat.div_div_eq_div_mul, <- Nat.pow_add]
 have h4 : b / 2 ^ (F + E) < 2 := Nat.div_lt_of_lt_mul (by rw [<- Nat.pow_succ, show (F + E).succ = 1 + E + F by omega]; exact hb)
 have key : b = b / 2 ^ (F + E) * 2 ^ (E + F) + (b / 2 ^ F % 2 ^ E * 2 ^ F + b % 2 ^ F) := by
  have h2 := Nat.div_add_mod b (2 ^ F)
  have h3 := Nat.div_add_mod (b / 2 ^ F) (2 ^ E)
  rw [h1] at h3
  calc b = 2 ^ F * (b / 2 ^ F) + b % 2 ^ F := h2.symm
   _ = 2 ^ F * (2 ^ E * (b / 2 ^ (F + E)) + b / 2 ^ F % 2 ^ E) + b % 2 ^ F := by rw [h3]
   _ = b / 2 ^ (F + E) * (2 ^ E * 2 ^ F) + b / 2 ^ F % 2 ^ E * 2 ^ F + b % 2 ^ F := by grind
   _ = _ := by rw [<- Nat.pow_add, Nat.add_assoc]
 have e : sgb E F (negOf E F b) = b / 2 ^ (F + E) * 2 ^ (E + F) := by
  unfold sgb negOf
  generalize b / 2 ^ (F + E) = s at h4 ⊢
  rcases (by omega : s = 0 \/ s = 1) with h | h <;> rw [h] <;> simp
 rw [e]
 exact key
theorem signed_exact {E F b : Nat} {mode : Nat} (h1 : 2 <= E) (hb : b < 2 ^ (1 + E + F)) (hf : expOf E F b ≠ R3.tw E - 1) :
  signedS E F (oddG (negOf E F b) (mantOf F (expOf E F b) (fracOf F b))) (negOf E F b) mode
   (oddN (mantOf F (expOf E F b) (fracOf F b)) * p2 (oddX (mantOf F (expOf E F b) (fracOf F b)) (powOf E F (expOf E F b))))
   (p2 (-oddX (mantOf F (expOf E F b) (fracOf F b)) (powOf E F (expOf E F b)))) = (b, 0) := by
 have hs := bits_split hb
 have hx : expOf E F b < 2 ^ E := Nat.mod_lt _ (Nat.two_pow_pos _)
 have hfr : fracOf F b < 2 ^ F := Nat.mod_lt _ (Nat.two_pow_pos _)
 have hx1 : expOf E F b < 2 ^ E - 1 := by unfold R3.tw at hf; omega
 have key := @out_exact E F (expOf E F b) (fracOf F b) (negOf E F b) mode h1 hx1 hfr
 generalize hx' : expOf E F b = x at *
 generalize hf' : fracOf F b = f at *
 generalize hn' : negOf E F b = neg at *
 rcases Nat.eq_zero_or_pos (mantOf F x f) with h0 | h0
 ·have e1 : x * 2 ^ F + f = 0 := by
   unfold mantOf at h0
   by_cases h : x = 0
   ·rw [if_pos h] at h0; rw [h, h0]; simp
   ·rw [if_neg h] at h0; have := Nat.two_pow_pos F; omega
  rw [h0]
  unfold oddN oddG oddX signedS
  simp only [if_true, Nat.zero_mul]
  rw [e1] at hs
  rw [hs]; rfl
 ·have k := key h0
  have hM := odd_split h0
  have eX : oddX (mantOf F x f) (powOf E F x) = powOf E F x + (tz (mantOf F x f) : Int) := by unfold oddX; rw [if_neg (by omega)]
  have eG : oddG neg (mantOf F x f) = neg := by unfold oddG; rw [if_neg (by omega)]
  rw [eG, eX]
  generalize powOf E F x = p at *
  generalize mantOf F x f = M at *
  have hN : 0 < oddN M := by
   rcases Nat.eq_zero_or_pos (oddN M) with h | h
   ·rw [h, Nat.zero_mul] at hM; omega
   ·exact h
  have ha : 0 < oddN M * p2 (p + (tz M : Int)) := Nat.mul_pos hN (p2_pos _)
  have hc : oddN M * p2 (p + (tz M : Int)) * p2 (-p) = M * p2 p * p2 (-(p + (tz M : Int))) := by
   have q := p2_add p (tz M)
   rw [p2_nat, p2_nonpos (n := -(tz M : Int)) (by omega), Nat.mul_one] at q
   calc oddN M * p2 (p + (tz M : Int)) * p2 (-p) = oddN M * (p2 (p + (tz M : Int)) * p2 (-p)) := by grind
    _ = oddN M * (p2 (-(p + (tz M : Int))) * (p2 p * 2 ^ tz M)) := by rw [q]
    _ = oddN M * 2 ^ tz M * p2 p * p2 (-(p + (tz M : Int))) := by grind
    _ = _ := by rw [<- hM]
  unfold signedS
  rw [if_neg (by omega), out_cross ha (p2_pos _) (p2_pos _) hc, k]
  exact Prod.ext hs.symm rfl
end Go.Proofs.YtddaldghlinokaaGreatDoor.Hx
namespace Go.Proofs.YtddaldghlinokaaGreatDoor.Scn
open Go
abbrev bo (l : List UInt8) : ByteArray := ⟨l.toArray⟩
theorem ba_ext {a b : ByteArray} (h : a.data.toList = b.data.toList) : a = b := by
 obtain ⟨x⟩ := a
 obtain ⟨y⟩ := b
 congr
 exact Array.toList_inj.1 h
theorem bo_size (l : List UInt8) : (bo l).size = l.length := rfl
theorem drop_bo (l : List UInt8) (n : Nat) : drop (bo l) n = bo (l.drop n) := by
 apply ba_ext
 unfold drop
 rw [piece]
 show (l.take l.length).drop n = l.drop n
 rw [List.take_length]
theorem pre_bo (l p : List UInt8) : pre (bo l) p = p.isPrefixOf l := rfl
theorem pre_one_bo (c : UInt8) (l : List UInt8) (p : UInt8) : pre (bo (c :: l)) [p] = (p == c) := by
 rw [pre_bo]
 simp [List.isPrefixOf]
theorem get_bo (c : UInt8) (l : List UInt8) : (bo (c :: l)).get! 0 = c := rfl
theorem sixteen_cons (c : UInt8) (l : List UInt8) : sixteen (bo (c :: l)) = match hexd c.toNat with | some d => (d, 1) | none => (0, 0) := by
 unfold sixteen
 rw [bo_size, if_neg (by simp), get_bo]
 cases hexd c.toNat <;> rfl
theorem decode_bo (c : UInt8) (l : List UInt8) (h : c.toNat < 128) : Utf8.decode (bo (c :: l)) 0 = (c.toNat, 1) := by
 exact if_pos h
theorem ten_cons (c : UInt8) (l : List UInt8) (h : c.toNat < 128) : ten (bo (c :: l)) = match digitL zeros c.toNat with | some d => (d, 1) | none => (0, 0) := by
 unfold ten
 rw [bo_size, if_neg (by simp), decode_bo c l h]
 cases digitL zeros c.toNat <;> rfl
theorem rowGo_list {D : ByteArray -> Nat × Nat} {wh : UInt8 -> Nat} {rest : List UInt8} (hr : (D (bo rest)).2 = 0) (hr2 : pre (bo rest) [95] = false) :
  ∀ (ds : List UInt8), (∀ c ∈ ds, c ≠ 95 /\ ∀ l, D (bo (c :: l)) = (wh c, 1)) -> ∀ (f pos : Nat) (acc : List Nat), ds.length < f ->
   rowGo D f ⟨bo (ds ++ rest), pos, 0⟩ acc = (acc ++ ds.map wh, ⟨bo rest, pos + ds.length, 0⟩)
 | [], _, f, pos, acc, hf => by
  obtain ⟨f', rfl⟩ : ∃ f', f = f' + 1 := ⟨f - 1, by simp at hf; omega⟩
  rw [rowGo_step]
  simp only [List.nil_append]
  rw [if_pos hr]
  simp
 | c :: ds, hd, f, pos, acc, hf => by
  obtain ⟨f', rfl⟩ : ∃ f', f = f' + 1 := ⟨f - 1, by simp at hf; omega⟩
  have hc := hd c (List.mem_cons_self ..)
  have hD : D (bo (c :: ds ++ rest)) = (wh c, 1) := hc.2 (ds ++ rest)
  rw [rowGo_step]
  simp only [hD]
  rw [if_neg (by decide)]
  have hs : (St.mk (bo (c :: ds ++ rest)) pos 0).skip 1 = ⟨bo (ds ++ rest), pos + 1, 0⟩ := by
   unfold St.skip
   simp only [drop_bo]
   rfl
  have hp : pre (bo (ds ++ rest)) [95] = false := by
   rcases ds with _ | ⟨e, ds⟩
   ·exact hr2
   ·rw [List.cons_append, pre_one_bo]
    have := (hd e (by simp)).1
    rw [beq_eq_false_iff_ne]
    exact fun k => this k.symm
  rw [hs]
  simp only [hp]
  rw [if_neg (by decide), rowGo_list hr hr2 ds (fun x hx => hd x (by simp [hx])) f' (pos + 1) _ (by simp at hf; omega)]
  simp [Nat.add_comm, Nat.add_left_comm]
theorem row_list {D : ByteArray -> Nat × Nat} {wh : UInt8 -> Nat} {rest : List UInt8} (hr : (D (bo rest)).2 = 0) (hr2 : pre (bo rest) [95] = false)
  (ds : List UInt8) (hd : ∀ c ∈ ds, c ≠ 95 /\ ∀ l, D (bo (c :: l)) = (wh c, 1)) (pos : Nat) : (St.mk (bo (ds ++ rest)) pos 0).row D = (ds.map wh, ⟨bo rest, pos + ds.length, 0⟩) := by
 have hp : pre (bo (ds ++ rest)) [95] = false := by
  rcases ds with _ | ⟨e, ds⟩
  ·exact hr2
  ·rw [List.cons_append, pre_one_bo]
   have := (hd e (by simp)).1
   rw [beq_eq_false_iff_ne]
   exact fun k => this k.symm
 unfold St.row
 simp only [hp]
 rw [if_neg (by decide), if_neg (by decide), rowGo_list hr hr2 ds hd _ _ _ (by rw [bo_size]; simp; omega)]
 rfl
def wh16 (c : UInt8) : Nat := (hexd c.toNat).getD 0
def wh10 (c : UInt8) : Nat := c.toNat - 48
theorem hx_wh : ∀ d : Fin 16, hexd (Hx.hx d.val).toNat = some d.val /\ Hx.hx d.val ≠ 95 := by decide
theorem hexL_mem (N : Nat) : ∀ (k : Nat) (c : UInt8), c ∈ Hx.hexL N k -> ∃ d, d < 16 /\ c = Hx.hx d
 | 0, c, h => by cases h
 | k + 1, c, h => by
  rcases List.mem_cons.1 h with h | h
  ·exact ⟨_, Nat.mod_lt _ (by decide), h⟩
  ·exact hexL_mem N k c h
theorem hexL_ok (N k : Nat) : ∀ c ∈ Hx.hexL N k, c ≠ 95 /\ ∀ l, sixteen (bo (c :: l)) = (wh16 c, 1) := by
 intro c hc
 obtain ⟨d, hd, rfl⟩ := hexL_mem N k c hc
 have h := hx_wh ⟨d, hd⟩
 refine ⟨h.2, fun l => ?_⟩
 rw [sixteen_cons]
 have h1 : hexd (Hx.hx d).toNat = some d := h.1
 unfold wh16
 rw [h1]
 rfl
theorem wh16_hx {d : Nat} (h : d < 16) : wh16 (Hx.hx d) = d := by
 unfold wh16
 rw [show hexd (Hx.hx d).toNat = some d from (hx_wh ⟨d, h⟩).1]
 rfl
theorem worth16_from (N : Nat) : ∀ (k n : Nat), ((Hx.hexL N k).map wh16).foldl (fun n d => 16 * n + d) n = n * 16 ^ k + N % 16 ^ k
 | 0, n => by simp [Hx.hexL, Nat.mod_one]
 | k + 1, n => by
  rw [show Hx.hexL N (k + 1) = Hx.hx (N / 16 ^ k % 16) :: Hx.hexL N k from rfl, List.map_cons, List.foldl_cons, worth16_from N k, wh16_hx (Nat.mod_lt _ (by decide))]
  rw [Nat.pow_succ, Nat.mod_mul, Nat.add_mul]
  grind
theorem worth16_hexL (N k : Nat) : worth16 ((Hx.hexL N k).map wh16) = N % 16 ^ k := by
 unfold worth16
 rw [worth16_from]
 simp
theorem tens_at : ∀ d : Fin 10, digitL zeros (UInt8.ofNat (48 + d.val)).toNat = some d.val /\ UInt8.ofNat (48 + d.val) ≠ 95 /\ (UInt8.ofNat (48 + d.val)).toNat < 128 /\ wh10 (UInt8.ofNat (48 + d.val)) = d.val := by decide
theorem dec_mem (u : Nat) : ∀ c ∈ Lib.decDigits u, ∃ d, d < 10 /\ c = UInt8.ofNat (48 + d) := by
 induction u using Nat.strongRecOn with
 | _ u ih =>
  intro c hc
  by_cases h : u < 10
  ·rw [Lib.decDigits, dif_pos h] at hc
   exact ⟨u, h, List.mem_singleton.1 hc⟩
  ·rw [Lib.decDigits, dif_neg h] at hc
   rcases List.mem_append.1 hc with hc | hc
   ·exact ih (u / 10) (by omega) c hc
   ·exact ⟨u % 10, by omega, List.mem_singleton.1 hc⟩
theorem dec_ok (u : Nat) : ∀ c ∈ Lib.decDigits u, c ≠ 95 /\ ∀ l, ten (bo (c :: l)) = (wh10 c, 1) := by
 intro c hc
 obtain ⟨d, hd, rfl⟩ := dec_mem u c hc
 have h := tens_at ⟨d, hd⟩
 refine ⟨h.2.1, fun l => ?_⟩
 rw [ten_cons _ _ h.2.2.1]
 rw [show digitL zeros (UInt8.ofNat (48 + d)).toNat = some d from h.1, show wh10 (UInt8.ofNat (48 + d)) = d from h.2.2.2]
theorem dec_expo (u : Nat) (hu : u <= 68719476736) : expo ((Lib.decDigits u).map wh10) 0 = u := by
 induction u using Nat.strongRecOn with
 | _ u ih =>
  by_cases h : u < 10
  ·rw [Lib.decDigits, dif_pos h]
   have := (tens_at ⟨u, h⟩).2.2.2
   simp only [List.map_cons, List.map_nil, expo, List.foldl_cons, List.foldl_nil]
   rw [show wh10 (UInt8.ofNat (48 + u)) = u from this]
   omega
  ·have e := ih (u / 10) (by omega) (by omega)
   rw [Lib.decDigits, dif_neg h]
   unfold expo at e ⊢
   rw [List.map_append, List.foldl_append, e]
   have := (tens_at ⟨u % 10, by omega⟩).2.2.2
   simp only [List.map_cons, List.map_nil, List.foldl_cons, List.foldl_nil]
   rw [show wh10 (UInt8.ofNat (48 + u % 10)) = u % 10 from this]
   omega
theorem dec_ne (u : Nat) : Lib.decDigits u ≠ [] := by
 intro h
 have := Lib.decDigits_length u
 rw [h] at this
 have := Lib.nDigits_pos u
 simp at *
 omega
theorem has_bo (l : List UInt8) (pos : Nat) (c p : UInt8) : (St.mk (bo (c :: l)) pos 0).has [p] = (p == c) := by
 unfold St.has
 rw [pre_one_bo]
 rfl
theorem skip_bo (l : List UInt8) (pos n : Nat) : (St.mk (bo l) pos 0).skip n = ⟨bo (l.drop n), pos + n, 0⟩ := by
 unfold St.skip
 rw [drop_bo]
theorem has3_bo (l : List UInt8) (pos : Nat) (c : UInt8) (h : c ≠ 226) : (St.mk (bo (c :: l)) pos 0).has [226, 136, 146] = false := by
 unfold St.has
 rw [pre_bo]
 have : ([226, 136, 146] : List UInt8).isPrefixOf (c :: l) = false := by
  simp only [List.isPrefixOf]
  rw [show ((226 : UInt8) == c) = false by rw [beq_eq_false_iff_ne]; exact fun k => h k.symm]
  rfl
 rw [this]
 rfl
theorem minus_no (l : List UInt8) (pos : Nat) (c : UInt8) (h1 : c ≠ 43) (h2 : c ≠ 45) (h3 : c ≠ 226) : (St.mk (bo (c :: l)) pos 0).minus = (false, ⟨bo (c :: l), pos, 0⟩) := by
 unfold St.minus
 rw [has_bo, has_bo, has3_bo _ _ _ h3, show ((43 : UInt8) == c) = false by rw [beq_eq_false_iff_ne]; exact fun k => h1 k.symm, show ((45 : UInt8) == c) = false by rw [beq_eq_false_iff_ne]; exact fun k => h2 k.symm]
 rfl
theorem minus_yes (l : List UInt8) (pos : Nat) : (St.mk (bo (45 :: l)) pos 0).minus = (true, ⟨bo l, pos + 1, 0⟩) := by
 unfold St.minus
 rw [has_bo, has_bo, skip_bo]
 rfl
theorem dec_head (u : Nat) : ∃ d l, d < 10 /\ Lib.decDigits u = UInt8.ofNat (48 + d) :: l := by
 rcases h : Lib.decDigits u with _ | ⟨c, l⟩
 ·exact absurd h (dec_ne u)
 ·obtain ⟨d, hd, rfl⟩ := dec_mem u c (by rw [h]; simp)
  exact ⟨d, l, hd, rfl⟩
theorem head_at : ∀ d : Fin 10, UInt8.ofNat (48 + d.val) ≠ 43 /\ UInt8.ofNat (48 + d.val) ≠ 45 /\ UInt8.ofNat (48 + d.val) ≠ 226 := by decide
theorem must_dec (u : Nat) (pos : Nat) (hu : u <= 68719476736) : ∃ p, (St.mk (bo (Lib.decDigits u)) pos 0).must ten = ((Lib.decDigits u).map wh10, ⟨bo [], p, 0⟩) := by
 have h := row_list (D := ten) (wh := wh10) (rest := []) rfl rfl (Lib.decDigits u) (dec_ok u) pos
 rw [List.append_nil] at h
 refine ⟨pos + (Lib.decDigits u).length, ?_⟩
 unfold St.must
 rw [h]
 have : (Lib.decDigits u).map wh10 ≠ [] := by
  intro k
  exact dec_ne u (List.map_eq_nil_iff.1 k)
 rw [if_neg this]
theorem exponent_itoa (x : Int) (pos : Nat) (h1 : -68719476736 <= x) (h2 : x <= 68719476736) :
  ∃ p, (St.mk (bo (112 :: Lib.itoa x)) pos 0).exponent [112] = (x, ⟨bo [], p, 0⟩) := by
 have hf : (St.mk (bo (112 :: Lib.itoa x)) pos 0).fold [112] = true := by
  generalize Lib.itoa x = it
  cases it <;> rfl
 unfold St.exponent
 rw [if_pos hf, skip_bo]
 simp only [List.length_cons, List.length_nil, List.drop_succ_cons, List.drop_zero]
 unfold Lib.itoa
 by_cases h : x < 0
 ·rw [if_pos h, minus_yes]
  obtain ⟨p, hp⟩ := must_dec x.natAbs (pos + (0 + 1) + 1) (by omega)
  refine ⟨p, ?_⟩
  simp only [hp]
  rw [if_pos trivial, dec_expo _ (by omega)]
  congr 1
  omega
 ·rw [if_neg h]
  obtain ⟨d, l, hd, e⟩ := dec_head x.toNat
  obtain ⟨p, hp⟩ := must_dec x.toNat (pos + (0 + 1)) (by omega)
  refine ⟨p, ?_⟩
  have k := head_at ⟨d, hd⟩
  rw [e] at hp ⊢
  rw [minus_no _ _ _ k.1 k.2.1 k.2.2]
  simp only [hp]
  rw [if_neg (by decide), <- e, dec_expo _ (by omega)]
  congr 1
  omega
theorem sixteen_point (l : List UInt8) : (sixteen (bo (46 :: l))).2 = 0 := by rw [sixteen_cons]; rfl
theorem sixteen_p (l : List UInt8) : (sixteen (bo (112 :: l))).2 = 0 := by rw [sixteen_cons]; rfl
theorem hexL_cons (N q : Nat) : Hx.hexL N (q + 1) = Hx.hx (N / 16 ^ q % 16) :: Hx.hexL N q := rfl
def dotL (N q : Nat) : List UInt8 := (Hx.hexL N (q + 1)).take 1 ++ (if 1 < (Hx.hexL N (q + 1)).length then 46 :: (Hx.hexL N (q + 1)).drop 1 else [])
theorem dotL_zero (N : Nat) : dotL N 0 = [Hx.hx (N / 16 ^ 0 % 16)] := rfl
theorem dotL_pos {N q : Nat} (h : 0 < q) : dotL N q = Hx.hx (N / 16 ^ q % 16) :: 46 :: Hx.hexL N q := by
 unfold dotL
 rw [hexL_cons, if_pos (by rw [List.length_cons, Hx.hexL_len]; omega)]
 rfl
theorem first_ok (N q : Nat) : ∀ c ∈ [Hx.hx (N / 16 ^ q % 16)], c ≠ 95 /\ ∀ l, sixteen (bo (c :: l)) = (wh16 c, 1) := by
 intro c hc
 exact hexL_ok N (q + 1) c (by rw [hexL_cons]; rw [List.mem_singleton.1 hc]; exact List.mem_cons_self ..)
theorem mantissa_text (N q : Nat) (it : List UInt8) (pos : Nat) :
  ∃ p, (St.mk (bo (dotL N q ++ 112 :: it)) pos 0).mantissa sixteen = ((Hx.hexL N (q + 1)).map wh16, q, ⟨bo (112 :: it), p, 0⟩) := by
 have hp : pre (bo (112 :: it)) [95] = false := by rw [pre_one_bo]; rfl
 rcases Nat.eq_zero_or_pos q with rfl | h
 ·have h1 := row_list (D := sixteen) (wh := wh16) (rest := 112 :: it) (sixteen_p it) hp [Hx.hx (N / 16 ^ 0 % 16)] (first_ok N 0) pos
  refine ⟨pos + 1, ?_⟩
  unfold St.mantissa
  rw [dotL_zero]
  rw [show ([Hx.hx (N / 16 ^ 0 % 16)] ++ 112 :: it) = [Hx.hx (N / 16 ^ 0 % 16)] ++ (112 :: it) from rfl, h1]
  simp only [has_bo]
  rw [if_neg (by decide), if_neg (by simp)]
  rfl
 ·have h1 := row_list (D := sixteen) (wh := wh16) (rest := 46 :: (Hx.hexL N q ++ 112 :: it)) (sixteen_point _) (by rw [pre_one_bo]; rfl) [Hx.hx (N / 16 ^ q % 16)] (first_ok N q) pos
  have h2 := row_list (D := sixteen) (wh := wh16) (rest := 112 :: it) (sixteen_p it) hp (Hx.hexL N q) (hexL_ok N q) (pos + 1 + 1)
  refine ⟨pos + 1 + 1 + (Hx.hexL N q).length, ?_⟩
  unfold St.mantissa
  rw [dotL_pos h]
  rw [show (Hx.hx (N / 16 ^ q % 16) :: 46 :: Hx.hexL N q) ++ 112 :: it = [Hx.hx (N / 16 ^ q % 16)] ++ 46 :: (Hx.hexL N q ++ 112 :: it) from rfl, h1]
  simp only [has_bo, skip_bo, List.length_cons, List.length_nil, List.drop_succ_cons, List.drop_zero, Nat.zero_add]
  rw [if_pos (by decide), h2]
  simp only [List.length_map, Hx.hexL_len, List.map_cons, List.map_nil, List.length_cons, List.length_nil]
  rw [if_neg (by omega), hexL_cons]
  rfl
def hexNum (neg : Bool) (n : Nat) (x : Int) : Num := if n = 0 then ⟨2, neg, false, [], 0, false, 0, 0, 0⟩ else ⟨2, neg, false, [], 0, neg, n / 2 ^ tz n, clip (x + tz n), 0⟩
theorem hex_text (neg : Bool) (N q : Nat) (x : Int) (pos : Nat) (hN : N < 16 ^ (q + 1)) (h1 : -68719476736 <= x) (h2 : x <= 68719476736) :
  ∃ p, (St.mk (bo (dotL N q ++ 112 :: Lib.itoa x)) pos 0).hex neg = (hexNum neg N (x - 4 * q), ⟨bo [], p, 0⟩) := by
 obtain ⟨p1, hm⟩ := mantissa_text N q (Lib.itoa x) pos
 obtain ⟨p2, he⟩ := exponent_itoa x p1 h1 h2
 refine ⟨p2, ?_⟩
 unfold St.hex
 rw [hm]
 simp only [he]
 rw [worth16_hexL, Nat.mod_eq_of_lt hN]
 rfl
theorem fold_0x (l : List UInt8) (pos : Nat) : (St.mk (bo (48 :: 120 :: l)) pos 0).fold [48, 120] = true := by
 cases l <;> rfl
theorem number_text (neg : Bool) (N q : Nat) (x : Int) (hN : N < 16 ^ (q + 1)) (h1 : -68719476736 <= x) (h2 : x <= 68719476736) :
  ∃ p, (St.mk (bo (Hx.txtL neg (Hx.hexL N (q + 1)) x)) 0 0).number = (hexNum neg N (x - 4 * q), ⟨bo [], p, 0⟩) := by
 have ht : Hx.txtL neg (Hx.hexL N (q + 1)) x = (if neg then [45] else []) ++ 48 :: 120 :: (dotL N q ++ 112 :: Lib.itoa x) := by
  unfold Hx.txtL dotL
  simp
 have go : ∀ pos, ∃ p, (if pre (St.mk (bo (48 :: 120 :: (dotL N q ++ 112 :: Lib.itoa x))) pos 0).rest [95] then (Num.none_, (St.mk (bo (48 :: 120 :: (dotL N q ++ 112 :: Lib.itoa x))) pos 0).put 112) else
   ((St.mk (bo (48 :: 120 :: (dotL N q ++ 112 :: Lib.itoa x))) pos 0).skip 2).hex neg) = (hexNum neg N (x - 4 * q), ⟨bo [], p, 0⟩) := by
  intro pos
  obtain ⟨p, hp⟩ := hex_text neg N q x (pos + 2) hN h1 h2
  refine ⟨p, ?_⟩
  simp only [pre_one_bo]
  rw [if_neg (by decide), skip_bo]
  exact hp
 rw [ht]
 cases neg with
 | true =>
  obtain ⟨p, hp⟩ := go 1
  refine ⟨p, ?_⟩
  rw [<- hp]
  unfold St.number
  simp only [if_true, List.cons_append, List.nil_append, minus_yes, Nat.zero_add]
  rw [if_pos (fold_0x _ _)]
 | false =>
  obtain ⟨p, hp⟩ := go 0
  refine ⟨p, ?_⟩
  rw [<- hp]
  unfold St.number
  simp only [Bool.false_eq_true, if_false, List.nil_append]
  rw [minus_no _ _ _ (by decide) (by decide) (by decide)]
  simp only []
  rw [if_pos (fold_0x _ _)]
theorem txt_len (neg : Bool) (N q : Nat) (x : Int) : (Hx.txtL neg (Hx.hexL N (q + 1)) x).length <= q + 8 + Lib.nDigits x.natAbs := by
 have h1 := Hx.hexL_len N (q + 1)
 have h2 : (Lib.itoa x).length <= 1 + Lib.nDigits x.natAbs := by
  unfold Lib.itoa
  split
  ·simp [Lib.decDigits_length]; omega
  ·rw [show x.toNat = x.natAbs by omega, Lib.decDigits_length]; omega
 unfold Hx.txtL
 simp only [List.length_append, List.length_cons, List.length_nil, List.length_take, List.length_drop]
 split <;> split <;> simp <;> omega
theorem nDigits_le : ∀ (k u : Nat), u < 10 ^ k -> 1 <= k -> Lib.nDigits u <= k
 | 0, _, _, h => by omega
 | k + 1, u, h, _ => by
  by_cases h1 : u < 10
  ·rw [Lib.nDigits_small h1]; omega
  ·rw [Lib.nDigits_big h1]
   rcases Nat.eq_zero_or_pos k with rfl | hk
   ·simp at h; omega
   ·have := nDigits_le k (u / 10) (by rw [Nat.pow_succ] at h; omega) hk
    omega
theorem read_text (neg : Bool) (N q : Nat) (x : Int) (hN : N < 16 ^ (q + 1)) (hq : q <= 60000) (h1 : -1000000 <= x) (h2 : x <= 1000000) :
  read (bo (Hx.txtL neg (Hx.hexL N (q + 1)) x)) = (hexNum neg N (x - 4 * q), 0, 0) := by
 obtain ⟨p, hp⟩ := number_text neg N q x hN (by omega) (by omega)
 have hl := txt_len neg N q x
 have hn := nDigits_le 7 x.natAbs (by omega) (by omega)
 unfold read
 rw [if_neg (by rw [bo_size]; omega), hp]
 rfl
end Go.Proofs.YtddaldghlinokaaGreatDoor.Scn
namespace Go.Proofs.YtddaldghlinokaaGreatDoor.Hx
open Go Go.RowKit R5 Scn Fms Exa
def low (c : Nat) : Nat := if 65 <= c /\ c <= 90 then c + 32 else c
def fig (set s : ByteArray) (i : Nat) : Int := if i < s.size then Lib.indexByte set.data.toList (low (s.data.toList.getD i 0).toNat).toUInt8 else -1
set_option maxRecDepth 100000 in
set_option maxHeartbeats 2000000 in
theorem Load1 (set s : ByteArray) (g b i : Nat) (w : World) (hg : w.cell? ⟨g, 0, none⟩ = some (.int .i64 (i : Int))) (hb : w.cell? ⟨b, 0, none⟩ = some (.string s)) (hi : i <= s.size) (hs : s.size <= 100000) :
  Calls Tryz.prog 86 #[.string set, .pointer (some ⟨g, 0, none⟩), .pointer (some ⟨b, 0, none⟩)] w fun e w' => e = .returned (.int .i64 (fig set s i)) /\ w = w' := by
 have HI := vv fun c w => Tryz.strings_IndexByte set c w
 rcases Nat.lt_or_ge i s.size with h | h
 ·have ht : ((i : Int) == (s.size : Int)) = false := by rw [beq_eq_false_iff_ne]; omega
  have hF : fig set s i = Lib.indexByte set.data.toList (low (s[i]'h).toNat).toUInt8 := by
   unfold fig
   rw [if_pos h]
   congr 3
   simp [List.getD_eq_getElem?_getD, h]
   rfl
  rw [hF]
  obtain ⟨c, hc⟩ := yx ((s[i]'h).toNat)
  have hc2 : (c : Int) <= 255 := by have := (s[i]'h).toNat_lt; omega
  rw [<- hc]
  have HC := vv hc
  go_enter Tryz.func86, Tryz.ntmps86
  go_wp2_with (go_at_call 87; refine (HI.out _ _).mono ?_; rintro e w' ⟨rfl, rfl⟩)
  all_goals
   go_ret
   refine ⟨retI ?_, rfl⟩
   rw [HC.out]
   unfold low
   first
    | (
      rename_i q1 q2
      replace q1 : (65 : Int) <= ((s[i]'h).toNat : Int) := q1
      replace q2 : ((s[i]'h).toNat : Int) <= 90 := q2
      have hq : 65 <= (s[i]'h).toNat /\ (s[i]'h).toNat <= 90 := by omega
      rw [if_pos hq]
      show Lib.indexByte _ (UInt8.ofNat (((s[i]'h).toNat : Int) + 32).toNat) = _
      rw [show (((s[i]'h).toNat : Int) + 32).toNat = (s[i]'h).toNat + 32 by omega]; try rfl)
    | (
      rename_i q1 q2
      replace q2 : (90 : Int) < ((s[i]'h).toNat : Int) := q2
      have hq : ¬ (65 <= (s[i]'h).toNat /\ (s[i]'h).toNat <= 90) := by omega
      rw [if_neg hq]
      show Lib.indexByte _ (s[i]'h) = _
      congr 1
      exact (UInt8.ofNat_toNat).symm)
    | (
      rename_i q1
      replace q1 : ((s[i]'h).toNat : Int) < 65 := q1
      have hq : ¬ (65 <= (s[i]'h).toNat /\ (s[i]'h).toNat <= 90) := by omega
      rw [if_neg hq]
      show Lib.indexByte _ (s[i]'h) = _
      congr 1
      exact (UInt8.ofNat_toNat).symm)
 ·have ht : ((i : Int) == (s.size : Int)) = true := by rw [beq_iff_eq]; omega
  have hF : fig set s i = -1 := by unfold fig; rw [if_neg (by omega)]
  rw [hF]
  go_enter Tryz.func86, Tryz.ntmps86
  go_wp2
  go_ret
  exact ⟨rfl, rfl⟩
end Go.Proofs.YtddaldghlinokaaGreatDoor.Hx
