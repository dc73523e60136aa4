/- Lemmas. -/
import Derived.Test.YtddaldghlinokaaGreatDoorPartAZ
import Derived.Lib.OthersKept
import Derived.Lib.QuoteLoop
import Derived.Lib.MapLaws
import Derived.Lib.TrimUEq
set_option linter.all false
namespace Go.Proofs.YtddaldghlinokaaGreatDoor.Scn
open Go Go.RowKit
theorem past_t {s : St} {p : ByteArray} (h : s.has p.data.toList = true) : s.past p = s.skip p.size := by unfold St.past; rw [h]; rfl
theorem past_f {s : St} {p : ByteArray} (h : s.has p.data.toList = false) : s.past p = s := by unfold St.past; rw [h]; rfl
theorem has_t (b : Nat) (s : St) (p : ByteArray) (w : World) (h : ScAt w b s) (hb : s.has p.data.toList = true) :
  Calls Tryz.prog 331 #[.pointer (some ⟨b, 0, none⟩), .string p] w (ScP b (s.skip p.size) (.bool true) w) := by
 have := has b s p w h
 rwa [past_t hb, hb] at this
theorem has_f (b : Nat) (s : St) (p : ByteArray) (w : World) (h : ScAt w b s) (hb : s.has p.data.toList = false) :
  Calls Tryz.prog 331 #[.pointer (some ⟨b, 0, none⟩), .string p] w (ScP b s (.bool false) w) := by
 have := has b s p w h
 rwa [past_f hb, hb] at this
theorem minus (b : Nat) (s : St) (w : World) (h : ScAt w b s) :
  Calls Tryz.prog 281 #[.pointer (some ⟨b, 0, none⟩)] w (ScP b s.minus.2 (.bool s.minus.1) w) := by
 cases h1 : s.has [43] with
 | true =>
  have HE : Hid (s.minus = (false, s.skip 1)) := vv (by unfold St.minus; rw [h1]; rfl)
  have H1 := vv (has_t b s ⟨#[43]⟩ w h h1)
  clear h h1
  go_enter Tryz.func281, Tryz.ntmps281
  go_wp2_with fail
  refine H1.out.mono ?_
  rintro e w1 ⟨rfl, hS, hG⟩
  go_wp2
  go_ret
  exact ⟨by rw [HE.out]; rfl, by rw [HE.out]; exact hS, hG⟩
 | false =>
  have H1 := vv (has_f b s ⟨#[43]⟩ w h h1)
  cases h2 : s.has [45] with
  | true =>
   have HE : Hid (s.minus = (true, s.skip 1)) := vv (by unfold St.minus; rw [h1, h2]; rfl)
   have HH := vv h2
   clear h h1 h2
   go_enter Tryz.func281, Tryz.ntmps281
   go_wp2_with fail
   refine H1.out.mono ?_
   rintro e w1 ⟨rfl, hS, hG⟩
   have HG := vv hG
   have H2 := vv (has_t b s ⟨#[45]⟩ w1 hS HH.out)
   clear hS hG
   go_wp2_with fail
   refine H2.out.mono ?_
   rintro e w2 ⟨rfl, hS, hG⟩
   go_wp2
   go_ret
   exact ⟨by rw [HE.out]; rfl, by rw [HE.out]; exact hS, only_trans HG.out hG⟩
  | false =>
   cases h3 : s.has [226, 136, 146] with
   | true =>
    have HE : Hid (s.minus = (true, s.skip 3)) := vv (by unfold St.minus; rw [h1, h2, h3]; rfl)
    have HH := vv h2
    have HK := vv h3
    clear h h1 h2 h3
    go_enter Tryz.func281, Tryz.ntmps281
    go_wp2_with fail
    refine H1.out.mono ?_
    rintro e w1 ⟨rfl, hS, hG⟩
    have HG := vv hG
    have H2 := vv (has_f b s ⟨#[45]⟩ w1 hS HH.out)
    clear hS hG
    go_wp2_with fail
    refine H2.out.mono ?_
    rintro e w2 ⟨rfl, hS, hG⟩
    have HG := vv (only_trans HG.out hG)
    have H3 := vv (has_t b s ⟨#[226, 136, 146]⟩ w2 hS HK.out)
    clear hS hG
    go_wp2_with fail
    refine H3.out.mono ?_
    rintro e w2 ⟨rfl, hS, hG⟩
    go_wp2
    go_ret
    exact ⟨by rw [HE.out]; rfl, by rw [HE.out]; exact hS, only_trans HG.out hG⟩
   | false =>
    have HE : Hid (s.minus = (false, s)) := vv (by unfold St.minus; rw [h1, h2, h3]; rfl)
    have HH := vv h2
    have HK := vv h3
    clear h h1 h2 h3
    go_enter Tryz.func281, Tryz.ntmps281
    go_wp2_with fail
    refine H1.out.mono ?_
    rintro e w1 ⟨rfl, hS, hG⟩
    have HG := vv hG
    have H2 := vv (has_f b s ⟨#[45]⟩ w1 hS HH.out)
    clear hS hG
    go_wp2_with fail
    refine H2.out.mono ?_
    rintro e w2 ⟨rfl, hS, hG⟩
    have HG := vv (only_trans HG.out hG)
    have H3 := vv (has_f b s ⟨#[226, 136, 146]⟩ w2 hS HK.out)
    clear hS hG
    go_wp2_with fail
    refine H3.out.mono ?_
    rintro e w2 ⟨rfl, hS, hG⟩
    go_wp2
    go_ret
    exact ⟨by rw [HE.out]; rfl, by rw [HE.out]; exact hS, only_trans HG.out hG⟩
def zt : ByteArray := ⟨#[48, 217, 160, 219, 176, 223, 128, 224, 165, 166, 224, 167, 166, 224, 169, 166, 224, 185, 144, 225, 159, 160, 239, 188, 144, 240, 144, 146, 160, 240, 157, 159, 142]⟩
def off (k : Nat) : Nat := [0, 1, 3, 5, 7, 10, 13, 16, 19, 22, 25, 29, 33].getD k 33
theorem zt_size : zt.size = 33 := rfl
theorem zt_at : ∀ k : Fin 12, off k.val < 33 /\ Utf8.decode zt (off k.val) = (zeros.getD k.val 0, off (k.val + 1) - off k.val) /\ off k.val < off (k.val + 1) /\ zeros.getD k.val 0 < 200000 /\ zeros.drop k.val = zeros.getD k.val 0 :: zeros.drop (k.val + 1) := by decide +kernel
def digV (r : Nat) : Value := .tuple #[.int .i64 (((digitL zeros r).getD 0 : Nat) : Int), .bool (digitL zeros r).isSome]
theorem Digit (r : Nat) (w : World) (hr : r <= 2147483647) :
  Calls Tryz.prog 332 #[.int .i32 (r : Int)] w fun e w' => e = .returned (digV r) /\ Below w.heap.size w w' := by
 have hri : (r : Int) <= 2147483647 := by omega
 have HB : Hid (∀ p, Below w.heap.size w (w.iter zt p)) := vv fun p => (Below.refl _ w).alloc (Nat.le_refl _) _
 clear hr
 go_enter Tryz.func332, Tryz.ntmps332
 go_wp2
 go_loopw [5] (fun _ wr => ∃ k, k <= 12 /\ wr = w.iter zt (off k) /\ digitL zeros r = digitL (zeros.drop k) r) (fun _ wr => 33 - wr.iterPos w.heap.size)
 case atStart => exact ⟨0, by decide, rfl, rfl⟩
 case round =>
  obtain ⟨k, hk, rfl, hd⟩ := hrel
  by_cases hk12 : k < 12
  ·obtain ⟨p1, p2, p3, p4, p5⟩ := zt_at ⟨k, hk12⟩
   simp only at p1 p2 p3 p4 p5
   have hnx : ∀ ty, (Instr.next (.pointer (some ⟨w.heap.size, 0, none⟩)) true ty).run Tryz.prog (w.iter zt (off k)) = _ := fun ty => run_next_any w zt (off k) ty (by rw [zt_size]; exact p1)
   rw [p2] at hnx
   obtain ⟨z, hz⟩ := yx (zeros.getD k 0)
   rw [<- hz] at hnx p4 p5
   have hzi : (z : Int) <= 200000 := by omega
   have e1 : off k + (off (k + 1) - off k) = off (k + 1) := by omega
   simp only [e1] at hnx
   rw [p5] at hd
   have HD := vv hd
   have HM : Hid (33 - (w.iter zt (off (k + 1))).iterPos w.heap.size < 33 - (w.iter zt (off k)).iterPos w.heap.size) := vv (by rw [World.iterPos_iter, World.iterPos_iter]; omega)
   clear hd p1 p2 p3 p4 p5 hz e1
   by_cases g1 : z <= r
   ·by_cases g2 : r <= z + 9
    ·have HE : Hid (digV r = .tuple #[.int .i64 ((r : Int) - (z : Int)), .bool true]) := vv (by
      unfold digV
      rw [HD.out]
      unfold digitL
      rw [if_pos ⟨g1, g2⟩]
      have : ((r - z : Nat) : Int) = (r : Int) - (z : Int) := by omega
      show Value.tuple #[.int .i64 ((r - z : Nat) : Int), .bool true] = _
      rw [this])
     go_wp2
     go_ret2
     exact ⟨by rw [HE.out]; rfl, HB.out _⟩
    ·have HN : Hid (digitL zeros r = digitL (zeros.drop (k + 1)) r) := vv (by rw [HD.out]; conv => lhs; unfold digitL; rw [if_neg (fun h => g2 h.2)])
     go_wp2
     go_roundw
     case rel => exact ⟨k + 1, by omega, rfl, HN.out⟩
     case measure => exact HM.out
   ·have HN : Hid (digitL zeros r = digitL (zeros.drop (k + 1)) r) := vv (by rw [HD.out]; conv => lhs; unfold digitL; rw [if_neg (fun h => g1 h.1)])
    go_wp2
    go_roundw
    case rel => exact ⟨k + 1, by omega, rfl, HN.out⟩
    case measure => exact HM.out
  ·obtain rfl : k = 12 := by omega
   have hnx : ∀ ty, (Instr.next (.pointer (some ⟨w.heap.size, 0, none⟩)) true ty).run Tryz.prog (w.iter zt (off 12)) = _ := fun ty => run_next_end w zt (off 12) ty (by decide)
   have HE : Hid (digV r = .tuple #[.int .i64 0, .bool false]) := vv (by unfold digV; rw [hd]; rfl)
   clear hd hk hk12
   go_wp2
   go_ret2
   exact ⟨by rw [HE.out]; rfl, HB.out _⟩
theorem digitL_lt : ∀ (l : List Nat) {r d : Nat}, digitL l r = some d -> d < 10
 | [], _, _, h => by cases h
 | z :: l, r, d, h => by
  unfold digitL at h
  split at h
  ·cases h; omega
  ·exact digitL_lt l h
def pairV (p : Nat × Nat) : Value := .tuple #[.int .i64 (p.1 : Int), .int .i64 (p.2 : Int)]
theorem ten_ (t : ByteArray) (w : World) :
  Calls Tryz.prog 282 #[.string t] w fun e w' => e = .returned (pairV (ten t)) /\ Below w.heap.size w w' := by
 have HB : Hid (∀ p, Below w.heap.size w (w.iter t p)) := vv fun p => (Below.refl _ w).alloc (Nat.le_refl _) _
 rcases Nat.eq_zero_or_pos t.size with h0 | h0
 ·have HE : Hid (pairV (ten t) = .tuple #[.int .i64 0, .int .i64 0]) := vv (by unfold ten; rw [if_pos h0]; rfl)
  have hnx : ∀ ty, (Instr.next (.pointer (some ⟨w.heap.size, 0, none⟩)) true ty).run Tryz.prog (w.iter t 0) = _ := fun ty => run_next_end w t 0 ty (by omega)
  clear h0
  go_enter Tryz.func282, Tryz.ntmps282
  go_wp2
  go_loopw [5] (fun _ wr => wr = w.iter t 0) (fun _ _ => 0)
  case atStart => rfl
  case round =>
   subst hrel
   go_wp2
   go_ret2
   exact ⟨by rw [HE.out]; rfl, HB.out _⟩
 ·have hnx : ∀ ty, (Instr.next (.pointer (some ⟨w.heap.size, 0, none⟩)) true ty).run Tryz.prog (w.iter t 0) = _ := fun ty => run_next_any w t 0 ty h0
  have hle := decode_le t 0
  have hT : ten t = match digitL zeros (Utf8.decode t 0).1 with | some d => (d, (Utf8.decode t 0).2) | none => (0, 0) := by unfold ten; rw [if_neg (by omega)]; rfl
  have hRL : (Utf8.decode t 0).1 ≠ 65533 -> Lib.runeLen ((Utf8.decode t 0).1 : Int) = ((Utf8.decode t 0).2 : Int) := by
   have e := Lib.decodeL_drop t 0
   rw [List.drop_zero] at e
   intro h
   have := Lib.runeLen_decode t.data.toList (by rw [e]; exact h)
   rwa [e] at this
  obtain ⟨R, hR⟩ := yx ((Utf8.decode t 0).1)
  obtain ⟨K, hK⟩ := yx ((Utf8.decode t 0).2)
  rw [<- hR] at hnx hle hT hRL
  rw [<- hK] at hnx hT hRL
  have HDg := vv fun w => Digit R w hle
  have HRl := vv fun w => Tryz.utf8_RuneLen (R : Int) w
  have hRi : (R : Int) <= 2147483647 := by omega
  clear hR hK h0 hle
  cases hd : digitL zeros R with
  | some d =>
   have HE : Hid (ten t = (d, K)) := vv (by rw [hT, hd])
   have hne : R ≠ 65533 := by
    rintro rfl
    have : digitL zeros 65533 = none := by decide
    rw [this] at hd; cases hd
   have HR := vv (hRL hne)
   have HV : Hid (digV R = .tuple #[.int .i64 (d : Int), .bool true]) := vv (by unfold digV; rw [hd]; rfl)
   rw [HV.out] at HDg
   rw [HR.out] at HRl
   clear hd hT hRL hne
   go_enter Tryz.func282, Tryz.ntmps282
   go_wp2
   go_loopw [5] (fun _ wr => wr = w.iter t 0) (fun _ _ => 0)
   case atStart => rfl
   case round =>
    subst hrel
    go_wp2_with fail
    refine (HDg.out _).mono ?_
    rintro e w1 ⟨rfl, hB1⟩
    have HB1 := vv ((HB.out _).trans (hB1.mono (HB.out _).size))
    clear hB1
    go_wp2_with fail
    refine (HRl.out _).mono ?_
    rintro e w2 ⟨rfl, hw⟩
    subst hw
    go_wp2
    go_ret2
    exact ⟨by rw [HE.out]; rfl, HB1.out⟩
  | none =>
   have HE : Hid (ten t = (0, 0)) := vv (by rw [hT, hd])
   have HV : Hid (digV R = .tuple #[.int .i64 0, .bool false]) := vv (by unfold digV; rw [hd]; rfl)
   rw [HV.out] at HDg
   clear hd hT hRL HRl
   go_enter Tryz.func282, Tryz.ntmps282
   go_wp2
   go_loopw [5] (fun _ wr => wr = w.iter t 0) (fun _ _ => 0)
   case atStart => rfl
   case round =>
    subst hrel
    go_wp2_with fail
    refine (HDg.out _).mono ?_
    rintro e w1 ⟨rfl, hB1⟩
    have HB1 := vv ((HB.out _).trans (hB1.mono (HB.out _).size))
    clear hB1
    go_wp2
    go_ret2
    exact ⟨by rw [HE.out]; rfl, HB1.out⟩
theorem ten_small (t : ByteArray) : (ten t).1 < 10 /\ (ten t).2 <= t.size := by
 unfold ten
 split
 ·exact ⟨by decide, by omega⟩
 ·split
  ·rename_i h0 d hd
   exact ⟨digitL_lt _ hd, Lib.width_le t (by omega)⟩
  ·exact ⟨by decide, Nat.zero_le _⟩
def st : List UInt8 := [48, 49, 50, 51, 52, 53, 54, 55, 56, 57, 97, 98, 99, 100, 101, 102, 65, 66, 67, 68, 69, 70]
theorem st_at : ∀ c : Fin 256, ((hexd c.val).isNone = true /\ Lib.indexByte st c.val.toUInt8 = -1) \/ ((hexd c.val).isSome = true /\ (hexd c.val).getD 0 < 16 /\ (Lib.indexByte st c.val.toUInt8 = (((hexd c.val).getD 0 : Nat) : Int) \/ Lib.indexByte st c.val.toUInt8 = (((hexd c.val).getD 0 : Nat) : Int) + 6 /\ 10 <= (hexd c.val).getD 0)) := by decide +kernel
theorem sixteen_ (t : ByteArray) (w : World) :
  Calls Tryz.prog 336 #[.string t] w fun e w' => e = .returned (pairV (sixteen t)) /\ Below w.heap.size w w' := by
 rcases Nat.eq_zero_or_pos t.size with h0 | h0
 ·have HE : Hid (pairV (sixteen t) = .tuple #[.int .i64 0, .int .i64 0]) := vv (by unfold sixteen; rw [if_pos h0]; rfl)
  obtain rfl : t = ⟨#[]⟩ := ByteArray.ext (Array.eq_empty_of_size_eq_zero h0)
  clear h0
  go_enter Tryz.func336, Tryz.ntmps336
  go_wp2
  go_ret2
  exact ⟨by rw [HE.out]; rfl, Below.refl _ _⟩
 ·have h1 := str_some h0
  have hg : t.get! 0 = t[0] := get_at t 0 h0
  have hT : sixteen t = match hexd (t[0]).toNat with | some d => (d, 1) | none => (0, 0) := by unfold sixteen; rw [if_neg (by omega), hg]; rfl
  obtain ⟨c, hc⟩ : ∃ c, (t[0]).toNat = c := ⟨_, rfl⟩
  have hlt : c < 256 := by rw [<- hc]; exact UInt8.toNat_lt _
  rw [hc] at hT
  have hS := st_at ⟨c, hlt⟩
  simp only at hS
  have HI := vv (Tryz.strings_IndexByte ⟨st.toArray⟩ (c : Int) w)
  rw [show (⟨st.toArray⟩ : ByteArray).data.toList = st from rfl, show (c : Int).toNat = c from rfl] at HI
  obtain ⟨I, hI⟩ := yx (Lib.indexByte st c.toUInt8)
  rw [<- hI] at HI hS
  cases hd : hexd c with
  | some d =>
   rw [hd] at hS hT
   have HE := vv hT
   replace hS : (I = (d : Int) /\ d < 16) \/ (I = (d : Int) + 6 /\ 10 <= d /\ d < 16) := by
    rcases hS with ⟨h, _⟩ | ⟨_, h, k | ⟨k, l⟩⟩
    ·cases h
    ·exact .inl ⟨k, h⟩
    ·exact .inr ⟨k, l, h⟩
   rcases hS with ⟨hS, hd16⟩ | ⟨hS, hd1, hd2⟩
   ·have hIl : I < 16 := by omega
    have hI0 : 0 <= I := by omega
    have HS := vv hS
    clear hS hd16 hd hT hI hg hlt
    go_enter Tryz.func336, Tryz.ntmps336
    go_wp2_with fail
    refine HI.out.mono ?_
    rintro e w1 ⟨rfl, hw⟩
    subst hw
    go_wp2
    go_ret2
    exact ⟨by rw [HE.out, HS.out]; rfl, Below.refl _ _⟩
   ·have hIl : 16 <= I := by omega
    have hI2 : I <= 22 := by omega
    have HS : Hid (I - 6 = (d : Int)) := vv (by omega)
    clear hS hd1 hd2 hd hT hI hg hlt
    go_enter Tryz.func336, Tryz.ntmps336
    go_wp2_with fail
    refine HI.out.mono ?_
    rintro e w1 ⟨rfl, hw⟩
    subst hw
    go_wp2
    go_ret2
    exact ⟨by rw [HE.out, HS.out]; rfl, Below.refl _ _⟩
  | none =>
   rw [hd] at hS hT
   have HE := vv hT
   have hS : I = -1 := by
    rcases hS with ⟨_, h⟩ | ⟨h, _⟩
    ·exact h
    ·cases h
   subst hS
   clear hd hT hI hg hlt
   go_enter Tryz.func336, Tryz.ntmps336
   go_wp2_with fail
   refine HI.out.mono ?_
   rintro e w1 ⟨rfl, hw⟩
   subst hw
   go_wp2
   go_ret2
   exact ⟨by rw [HE.out]; rfl, Below.refl _ _⟩
theorem sixteen_small (t : ByteArray) : (sixteen t).1 < 16 /\ (sixteen t).2 <= t.size := by
 unfold sixteen
 split
 ·exact ⟨by decide, by omega⟩
 ·split
  ·rename_i h0 d hd
   refine ⟨?_, by omega⟩
   unfold hexd at hd
   repeat' split at hd
   all_goals first | (cases hd; omega) | cases hd
  ·exact ⟨by decide, Nat.zero_le _⟩
end Go.Proofs.YtddaldghlinokaaGreatDoor.Scn
namespace Go.Proofs.YtddaldghlinokaaGreatDoor
open Go Go.RowKit
theorem only_grown {a w w' : World} {b : Nat} {row : Option Nat} (h : a.grownBy w (some b)) (hg : w.grownBy w' row) (hr : ∀ k, row = some k -> a.heap.size <= k) : a.grownBy w' (some b) :=
 ⟨hg.os.trans h.os, hg.tape.trans h.tape, hg.output.trans h.output, Nat.le_trans h.size hg.size, fun i hi hne => (hg.block i (Nat.lt_of_lt_of_le hi h.size) (fun e => by have := hr i e.symm; omega)).trans (h.block i hi hne)⟩
def ahead (w : World) (b : Nat) : Nat := match w.cell? ⟨b, 0, none⟩ with | some (.string r) => r.size | _ => 0
theorem ScAt.ahead {w : World} {b : Nat} {s : Scn.St} (h : ScAt w b s) : ahead w b = s.rest.size := by unfold Go.Proofs.YtddaldghlinokaaGreatDoor.ahead; rw [h.c0]
theorem inf8' : (Tryz.prog.info? 5).map (fun i => (i.zero, i.size, i.bytes)) = some (some (.int .u8 0), 1, 1) := by kernel_rfl
end Go.Proofs.YtddaldghlinokaaGreatDoor
namespace Go.Proofs.YtddaldghlinokaaGreatDoor.Scn
open Go Go.RowKit
structure Kind (K : Nat) (D : ByteArray -> Nat × Nat) : Prop where
 go : ∀ args w, (callFunc K args).run Tryz.prog w = .ok (.enter K args) w
 calls : ∀ t w, Calls Tryz.prog K #[.string t] w fun e w' => e = .returned (pairV (D t)) /\ Below w.heap.size w w'
 small : ∀ t, (D t).1 < 16 /\ (D t).2 <= t.size
def RowAt (D : ByteArray -> Nat × Nat) (s u : St) (L : List Nat) : Prop :=
 (u.code ≠ 0 /\ s.row D = (L, u)) \/ (u.code = 0 /\ ∃ f, s.row D = rowGo D f u L /\ u.rest.size < f)
theorem RowAt.start (D : ByteArray -> Nat × Nat) (s : St) (h : pre s.rest [95] = false) : RowAt D s s [] := by
 by_cases hc : s.code = 0
 ·exact .inr ⟨hc, s.rest.size + 1, by unfold St.row; rw [if_neg (fun h => h hc), h]; rfl, by omega⟩
 ·exact .inl ⟨hc, by unfold St.row; rw [if_pos hc]⟩
theorem RowAt.start_off (D : ByteArray -> Nat × Nat) (s : St) (hc : s.code ≠ 0) : RowAt D s s [] := .inl ⟨hc, by unfold St.row; rw [if_pos hc]⟩
theorem RowAt.start_bad (D : ByteArray -> Nat × Nat) (s : St) (h : pre s.rest [95] = true) (hc : s.code = 0) : RowAt D s (s.put 112) [] :=
 .inl ⟨by show (112 : Nat) ≠ 0; decide, by unfold St.row; rw [if_neg (fun h => h hc), h]; rfl⟩
theorem pre_one {r : ByteArray} {c : UInt8} (h : pre r [c] = true) : 1 <= r.size := pre_le (p := ⟨#[c]⟩) h
theorem skip_code (s : St) (n : Nat) : (s.skip n).code = s.code := rfl
theorem skip_size (s : St) (n : Nat) : (s.skip n).rest.size = s.rest.size - n := drop_size _ _
theorem rowGo_step (D : ByteArray -> Nat × Nat) (f : Nat) (s : St) (l : List Nat) : rowGo D (f + 1) s l =
  if (D s.rest).2 = 0 then (l, s) else
  if pre (s.skip (D s.rest).2).rest [95] then
   if (D (drop (s.skip (D s.rest).2).rest 1)).2 = 0 then (l ++ [(D s.rest).1], (s.skip (D s.rest).2).put 112)
   else rowGo D f ((s.skip (D s.rest).2).skip 1) (l ++ [(D s.rest).1])
  else rowGo D f (s.skip (D s.rest).2) (l ++ [(D s.rest).1]) := rfl
theorem RowAt.off {D : ByteArray -> Nat × Nat} {s u : St} {L : List Nat} (h : RowAt D s u L) (hc : u.code ≠ 0) : s.row D = (L, u) := by
 rcases h with ⟨_, h⟩ | ⟨h, _⟩
 ·exact h
 ·exact absurd h hc
theorem RowAt.stop {D : ByteArray -> Nat × Nat} {s u : St} {L : List Nat} (h : RowAt D s u L) (hc : u.code = 0) (hn : (D u.rest).2 = 0) : s.row D = (L, u) := by
 rcases h with ⟨h, _⟩ | ⟨_, f, h, hf⟩
 ·exact absurd hc h
 ·obtain ⟨f, rfl⟩ : ∃ k, f = k + 1 := ⟨f - 1, by omega⟩
  rw [h, rowGo_step, if_pos hn]
theorem RowAt.next {D : ByteArray -> Nat × Nat} {s u : St} {L : List Nat} (h : RowAt D s u L) (hc : u.code = 0) {n d : Nat} (he : D u.rest = (d, n)) (hn : n ≠ 0) (hle : n <= u.rest.size) (hp : pre (u.skip n).rest [95] = false) : RowAt D s (u.skip n) (L ++ [d]) := by
 rcases h with ⟨h, _⟩ | ⟨_, f, h, hf⟩
 ·exact absurd hc h
 ·obtain ⟨f, rfl⟩ : ∃ k, f = k + 1 := ⟨f - 1, by omega⟩
  refine .inr ⟨hc, f, ?_, by show (drop u.rest n).size < f; rw [drop_size]; omega⟩
  rw [h, rowGo_step, he]; dsimp only; rw [if_neg hn, hp]; rfl
theorem RowAt.bad {D : ByteArray -> Nat × Nat} {s u : St} {L : List Nat} (h : RowAt D s u L) (hc : u.code = 0) {n d : Nat} (he : D u.rest = (d, n)) (hn : n ≠ 0) (hp : pre (u.skip n).rest [95] = true) (hz : (D (drop (u.skip n).rest 1)).2 = 0) : s.row D = (L ++ [d], (u.skip n).put 112) := by
 rcases h with ⟨h, _⟩ | ⟨_, f, h, hf⟩
 ·exact absurd hc h
 ·obtain ⟨f, rfl⟩ : ∃ k, f = k + 1 := ⟨f - 1, by omega⟩
  rw [h, rowGo_step, he]; dsimp only; rw [if_neg hn, hp, if_pos rfl, if_pos hz]
theorem RowAt.over {D : ByteArray -> Nat × Nat} {s u : St} {L : List Nat} (h : RowAt D s u L) (hc : u.code = 0) {n d : Nat} (he : D u.rest = (d, n)) (hn : n ≠ 0) (hle : n <= u.rest.size) (hp : pre (u.skip n).rest [95] = true) (hz : (D (drop (u.skip n).rest 1)).2 ≠ 0) : RowAt D s ((u.skip n).skip 1) (L ++ [d]) := by
 rcases h with ⟨h, _⟩ | ⟨_, f, h, hf⟩
 ·exact absurd hc h
 ·obtain ⟨f, rfl⟩ : ∃ k, f = k + 1 := ⟨f - 1, by omega⟩
  have h1 : ((u.skip n).skip 1).code = 0 := by rw [skip_code, skip_code]; exact hc
  have h2 : ((u.skip n).skip 1).rest.size < f := by rw [skip_size, skip_size]; omega
  refine .inr ⟨h1, f, ?_, h2⟩
  rw [h, rowGo_step, he]; dsimp only; rw [if_neg hn, hp, if_pos rfl, if_neg hz]
def RowInv (D : ByteArray -> Nat × Nat) (b : Nat) (s : St) (w : World) (l : Value) (wr : World) : Prop :=
 ∃ (u : St) (L : List Nat), wr.ownsRow w.heap.size 5 1 l L.length (u8s L) /\ ScAt wr b u /\ w.grownBy wr (some b) /\ RowAt D s u L /\ L.length + u.rest.size <= 65536 /\ ∀ d ∈ L, d < 16
def RowPost (b : Nat) (L : List Nat) (u : St) (w : World) (e : Ending) (w' : World) : Prop :=
 ∃ v, e = .returned v /\ w'.ownsRow w.heap.size 5 1 v L.length (u8s L) /\ ScAt w' b u /\ w.grownBy w' (some b) /\ L.length <= 65536 /\ ∀ d ∈ L, d < 16
theorem RowInv.start {D : ByteArray -> Nat × Nat} {b : Nat} {s : St} {w : World} (h : ScAt w b s) (hr : RowAt D s s []) : RowInv D b s w (.slice none 0 0) w :=
 ⟨s, [], World.ownsRow_nil w _ _ _, h, World.grownBy.refl _ _, hr, by have := h.sm; rw [List.length_nil]; omega, fun _ h => absurd h List.not_mem_nil⟩
theorem RowInv.start_bad {D : ByteArray -> Nat × Nat} {b : Nat} {s : St} {w : World} (h : ScAt w b s) (hp : pre s.rest [95] = true) (hc : s.code = 0) : RowInv D b s w (.slice none 0 0) (w.setCell ⟨b, 2, none⟩ (.int .i64 112)) :=
 ⟨s.put 112, [], World.ownsRow_nil _ _ _ _, h.put 112, put_grown _, RowAt.start_bad D s hp hc, by have := h.sm; rw [List.length_nil]; show 0 + s.rest.size <= 65536; omega, fun _ h => absurd h List.not_mem_nil⟩
set_option maxRecDepth 100000 in
set_option maxHeartbeats 4000000 in
theorem row (K : Nat) (D : ByteArray -> Nat × Nat) (hK : Kind K D) (b : Nat) (s : St) (w : World) (h : ScAt w b s) :
  Calls Tryz.prog 375 #[.pointer (some ⟨b, 0, none⟩), .func (.func K) #[] #[]] w (RowPost b (s.row D).1 (s.row D).2 w) := by
 obtain ⟨i0, hi, hz0, hz1, hz2⟩ := info_parts inf8'
 have hgo := hK.go
 have HK := vv hK
 have c0 := h.c0
 have c2 := h.c2
 have f2 := h.fz 2
 have hl := h.lt
 have HL := vv hl
 have HP := vv (pre_ s.rest ⟨#[95]⟩ w)
 rw [show (⟨#[95]⟩ : ByteArray).data.toList = [95] from rfl] at HP
 have hcase : (pre s.rest [95] = true /\ s.code = 0) \/ (pre s.rest [95] = true /\ s.code ≠ 0) \/ pre s.rest [95] = false := by
  cases pre s.rest [95] with
  | false => exact .inr (.inr rfl)
  | true =>
   by_cases hc : s.code = 0
   ·exact .inl ⟨rfl, hc⟩
   ·exact .inr (.inl ⟨rfl, hc⟩)
 rcases hcase with ⟨hp, hc⟩ | ⟨hp, hc⟩ | hp
 case' inl =>
  have H0 := vv (RowInv.start_bad (D := D) h hp hc)
  have t0 : ((s.code : Int) == 0) = true := by rw [hc]; rfl
  rw [hp] at HP
  clear hK h hp hc
  go_enter Tryz.func375, Tryz.ntmps375
  go_wp2_with fail
  refine HP.out.mono ?_
  rintro e w1 ⟨rfl, rfl⟩
  clear HP
  go_wp2
  clear c0 c2 f2 hl t0
 case' inr.inl =>
  have H0 := vv (RowInv.start (D := D) h (RowAt.start_off D s hc))
  have t0 : ((s.code : Int) == 0) = false := by rw [beq_eq_false_iff_ne]; omega
  rw [hp] at HP
  clear hK h hp hc
  go_enter Tryz.func375, Tryz.ntmps375
  go_wp2_with fail
  refine HP.out.mono ?_
  rintro e w1 ⟨rfl, rfl⟩
  clear HP
  go_wp2
  clear c0 c2 f2 hl t0
 case' inr.inr =>
  have H0 := vv (RowInv.start (D := D) h (RowAt.start D s hp))
  rw [hp] at HP
  clear hK h hp
  go_enter Tryz.func375, Tryz.ntmps375
  go_wp2_with fail
  refine HP.out.mono ?_
  rintro e w1 ⟨rfl, rfl⟩
  clear HP
  go_wp2
  clear c0 c2 f2 hl
 all_goals
  go_loopw [5] (fun l wr => RowInv D b s w l wr) (fun _ wr => ahead wr b)
  case atStart => exact H0.out
  case round =>
   clear H0
   obtain ⟨u, L, hrow, hsc, hg, hat, hlen, hsm⟩ := hrel
   have HRow := vv hrow
   have HSc := vv hsc
   have HG := vv hg
   have HAt := vv hat
   have HSm := vv hsm
   have k0 := hsc.c0
   have k2 := hsc.c2
   have kf := hsc.fz 2
   have kl := hsc.lt
   have HAh := vv hsc.ahead
   have hli : (L.length : Int) <= 65536 := by omega
   clear hrow hsc hg hat hsm
   by_cases hc : u.code = 0
   ·have d0 : ((u.code : Int) == 0) = true := by rw [hc]; rfl
    have HCd := vv hc
    have HD := vv (HK.out.calls u.rest wr)
    obtain ⟨d, n, he⟩ : ∃ d n, D u.rest = (d, n) := ⟨_, _, rfl⟩
    have hsmall := HK.out.small u.rest
    rw [he] at hsmall HD
    obtain ⟨hd16, hnle⟩ := hsmall
    dsimp only at hd16 hnle
    replace HD : Hid (Calls Tryz.prog K #[.string u.rest] wr fun e w' => e = .returned (.tuple #[.int .i64 (d : Int), .int .i64 (n : Int)]) /\ Below wr.heap.size wr w') := HD
    have HE := vv he
    clear hc he
    by_cases hn : n = 0
    ·subst hn
     have HS := vv (HAt.out.stop HCd.out (by rw [HE.out]))
     go_wp2_with fail
     refine HD.out.mono ?_
     rintro e w1 ⟨rfl, hB⟩
     have HRow1 := vv (row_keep HRow.out fun g _ hs => hB.block g hs)
     have HSc1 := vv (HSc.out.below hB HSc.out.lt)
     have HG1 := vv (only_trans HG.out (only_of_below hB _))
     clear hB k0 k2 kf
     go_wp2
     go_ret
     rw [HS.out]
     show RowPost b L u w _ _
     exact ⟨_, rfl, HRow1.out, HSc1.out, HG1.out, by omega, HSm.out⟩
    ·have t1 : ((n : Int) == 0) = false := by rw [beq_eq_false_iff_ne]; omega
     have HN := vv hn
     have hL1 : L.length + 1 <= 65536 := by omega
     have hn1 : 1 <= n := by omega
     clear hn
     go_wp2_with fail
     refine HD.out.mono ?_
     rintro e w1 ⟨rfl, hB⟩
     have HRow1 := vv (row_keep HRow.out fun g _ hs => hB.block g hs)
     have HSc1 := vv (HSc.out.below hB HSc.out.lt)
     have HG1 := vv (only_trans HG.out (only_of_below hB _))
     have hsz := hB.size
     have hws := HG1.out.size
     clear hB k0 k2 kf
     go_wp2_with (at_builtin; refine wpList_append_own _ rfl _ _ 149 rfl w.heap.size 5 i0 (.int .u8 0) 1 1 Tryz.underlying149 hi hz0 hz1 hz2 rfl (by decide) _ L.length (u8s L) rfl (HRow1.out.alloc _) ⟨w1.heap.size, 0, none⟩ 1 1 [.int .u8 (d : Int)] rfl rfl (cell_one_new _ _ _) (by simp [Value.oneCell']) (by unfold maxLen; omega) (by omega) (by simp; omega) ?_)
     intro v' w5 hown1 hgrow1 _
     replace hown1 : w5.ownsRow w.heap.size 5 1 v' (L ++ [d]).length (u8s (L ++ [d])) := by
      rw [u8s_app, List.length_append]; exact hown1
     have HRow5 := vv hown1
     have hgb := HRow1.out.lt
     have HG5 := vv (only_grown (only_alloc HG1.out _) hgrow1 (fun k h => (hgb k h).1))
     have HSc5 : Hid (ScAt w5 b u) := vv (HSc1.out.of ((hgrow1.block b (by have := HSc1.out.lt; simp; omega) (fun e => by have := (hgb b e.symm).1; have := HL.out; omega)).trans (Below.heap_alloc w1 _ b HSc1.out.lt)) (Nat.lt_of_lt_of_le (by have := HSc1.out.lt; simp; omega) hgrow1.size))
     have HSk := vv (skip b u n w5 HSc5.out hnle)
     clear hown1 hgrow1 hgb
     go_wp2_with fail
     refine HSk.out.mono ?_
     rintro e w6 ⟨rfl, hS, hg⟩
     have HRow6 := vv (row_only HRow5.out hg HL.out)
     have HG6 := vv (only_trans HG5.out hg)
     have HSc6 := vv hS
     have HPr := vv (pre_ (u.skip n).rest ⟨#[95]⟩ w6)
     rw [show (⟨#[95]⟩ : ByteArray).data.toList = [95] from rfl] at HPr
     have m0 := hS.c0
     have ml := hS.lt
     have m2 := hS.fz 2
     have m3 := hS.c2
     have hpre := (fun h => pre_one (r := (u.skip n).rest) (c := 95) h)
     have hss := skip_size u n
     have HSs : Hid (∀ d' ∈ L ++ [d], d' < 16) := vv (fun d' h => by
      rcases List.mem_append.1 h with h | h
      ·exact HSm.out d' h
      ·rw [List.mem_singleton.1 h]; exact hd16)
     clear hS hg
     have HLen : Hid ((L ++ [d]).length + (u.rest.size - n) <= 65536) := vv (by rw [List.length_append, List.length_singleton]; omega)
     cases hp : pre (u.skip n).rest [95] with
     | false =>
      rw [hp] at HPr
      have HA := vv (HAt.out.next HCd.out HE.out HN.out hnle hp)
      have HM : Hid (ahead w6 b < ahead wr b) := vv (by rw [HSc6.out.ahead, HAh.out, skip_size]; omega)
      have HI : Hid (RowInv D b s w v' w6) := vv ⟨_, _, HRow6.out, HSc6.out, HG6.out, HA.out, by rw [skip_size]; exact HLen.out, HSs.out⟩
      clear hp hpre hss
      go_wp2_with fail
      refine HPr.out.mono ?_
      rintro e w7 ⟨rfl, rfl⟩
      go_wp2
      go_roundw
      case rel => exact HI.out
      case measure => exact HM.out
     | true =>
      rw [hp] at HPr
      have h1 := hpre hp
      obtain ⟨Y, hY⟩ := yx (drop (u.skip n).rest 1)
      have hYe : (u.skip n).rest.extract 1 (u.skip n).rest.size = Y := hY.symm
      have HYe := vv hY
      obtain ⟨d2, n2, he2⟩ : ∃ d2 n2, D Y = (d2, n2) := ⟨_, _, rfl⟩
      have HD2 : Hid (∀ w, Calls Tryz.prog K #[.string Y] w fun e w' => e = .returned (.tuple #[.int .i64 (d2 : Int), .int .i64 (n2 : Int)]) /\ Below w.heap.size w w') := vv fun w => by
       have := HK.out.calls Y w
       rw [he2] at this
       exact this
      have HE2 := vv he2
      have HP2 := vv hp
      obtain ⟨R, hR⟩ := yx ((u.skip n).rest)
      have HRe := vv hR
      have hR1 : (1 : Int) <= (R.size : Int) := by rw [hR]; omega
      have hRb : (R.size : Int) <= 65536 := by rw [hR]; omega
      rw [<- hR] at m0 hYe HPr
      clear hp hpre hss hY he2 hR h1
      go_wp2_with fail
      refine HPr.out.mono ?_
      rintro e w7 ⟨rfl, rfl⟩
      go_wp2_with fail
      refine (HD2.out _).mono ?_
      rintro e w8 ⟨rfl, hB⟩
      have HRow8 := vv (row_keep HRow6.out fun g _ hs => hB.block g hs)
      have HSc8 := vv (HSc6.out.below hB HSc6.out.lt)
      have HG8 := vv (only_trans HG6.out (only_of_below hB _))
      have m0 := HSc8.out.c0
      have m2 := HSc8.out.fz 2
      have m3 := HSc8.out.c2
      have ml := HSc8.out.lt
      clear hB
      by_cases hz : n2 = 0
      ·subst hz
       have HS := vv (HAt.out.bad HCd.out HE.out HN.out HP2.out (by rw [<- HYe.out, HE2.out]))
       have HRow9 : Hid ((w8.setCell ⟨b, 2, none⟩ (.int .i64 112)).ownsRow w.heap.size 5 1 v' (L ++ [d]).length (u8s (L ++ [d]))) := vv (row_only HRow8.out (put_grown _) HL.out)
       have HG9 := vv (only_trans HG8.out (put_grown (.int .i64 112)))
       have HSc9 := vv (HSc8.out.put 112)
       have HLe : Hid ((L ++ [d]).length <= 65536) := vv (by have := HLen.out; omega)
       go_wp2
       go_ret
       rw [HS.out]
       show RowPost b (L ++ [d]) ((u.skip n).put 112) w _ _
       exact ⟨_, rfl, HRow9.out, HSc9.out, HG9.out, HLe.out, HSs.out⟩
      ·have t2 : ((n2 : Int) == 0) = false := by rw [beq_eq_false_iff_ne]; omega
       have hr1 : 1 <= (u.skip n).rest.size := by rw [<- HRe.out]; omega
       have HA := vv (HAt.out.over HCd.out HE.out HN.out hnle HP2.out (by rw [<- HYe.out, HE2.out]; exact hz))
       have HSk2 := vv (skip b (u.skip n) 1 w8 HSc8.out hr1)
       have HM : Hid (((u.skip n).skip 1).rest.size < u.rest.size) := vv (by rw [skip_size, skip_size]; omega)
       have HLe : Hid ((L ++ [d]).length + ((u.skip n).skip 1).rest.size <= 65536) := vv (by rw [skip_size, skip_size]; have := HLen.out; omega)
       clear hz hr1
       go_wp2_with fail
       refine HSk2.out.mono ?_
       rintro e w9 ⟨rfl, hS, hg⟩
       have HI : Hid (RowInv D b s w v' w9) := vv ⟨_, _, row_only HRow8.out hg HL.out, hS, only_trans HG8.out hg, HA.out, HLe.out, HSs.out⟩
       have HM2 : Hid (ahead w9 b < ahead wr b) := vv (by rw [hS.ahead, HAh.out]; exact HM.out)
       clear hS hg
       go_wp2
       go_roundw
       case rel => exact HI.out
       case measure => exact HM2.out
   ·have d0 : ((u.code : Int) == 0) = false := by rw [beq_eq_false_iff_ne]; omega
    have HS := vv (HAt.out.off hc)
    clear hc
    go_wp2
    go_ret
    rw [HS.out]
    show RowPost b L u w _ _
    exact ⟨_, rfl, HRow.out, HSc.out, HG.out, by omega, HSm.out⟩
end Go.Proofs.YtddaldghlinokaaGreatDoor.Scn
