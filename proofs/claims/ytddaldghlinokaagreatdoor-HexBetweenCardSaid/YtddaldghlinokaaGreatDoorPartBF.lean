/- Lemmas. -/
import Derived.Test.YtddaldghlinokaaGreatDoorPartBD
import Derived.Lib.FrozenHead
import Derived.Lib.UnsafeStr
import Derived.Lib.AppendStr
import Derived.Laws.Externs
import Derived.Shelf.RegionOpenPlain
set_option linter.all false
namespace Go.Proofs.YtddaldghlinokaaGreatDoor.Bld
open Go Go.RowKit R5
abbrev AtF (B b : Nat) (p : Value) (bs : List Value) (w : World) : Prop := Lib.BuilderAtF 190 5 B b p bs w
abbrev IsF (B b : Nat) (bs : List Value) (w : World) : Prop := Lib.IsBuilderF 190 5 B b bs w
theorem szB : (Tryz.prog.info? 190).map (·.size) = some 2 := by kernel_rfl
theorem liB : liesAt Tryz.prog Tryz.prog.depth 190 (2 / Tryz.prog.cellsOf 190) 0 190 1 = true := by kernel_rfl
theorem cl8 : Tryz.prog.cellsOf 5 = 1 := by kernel_rfl
theorem in8 : (Tryz.prog.info? 5).map (fun i => (i.zero, i.size, i.bytes)) = some (some (.int .u8 0), 1, 1) := by kernel_rfl
set_option maxHeartbeats 1000000 in
set_option maxRecDepth 100000 in
theorem copyCheck_used (b : Nat) (w : World) (h0 : w.cell? ⟨b, 0, none⟩ = some (.pointer (some ⟨b, 0, none⟩))) :
  Calls Tryz.prog 238 #[.pointer (some ⟨b, 0, none⟩)] w fun e w' => e = .returned (.tuple #[]) /\ w' = w := by
 obtain ⟨j, hj, _⟩ := Option.map_eq_some_iff.1 szB
 go_enter Tryz.func238, Tryz.ntmps238
 go_wp2
 rw [Lib.run_neq_ptr_same w _ Tryz.underlying188 hj]
 go_wp2
 go_end0
 exact ⟨rfl, rfl⟩
set_option maxHeartbeats 1000000 in
set_option maxRecDepth 100000 in
theorem copyCheck_fresh (b : Nat) (w : World) (h0 : w.cell? ⟨b, 0, none⟩ = some (.pointer none)) (hsh : w.shape? b = some (190, 2)) (hfz : w.frozen? ⟨b, 0, none⟩ = false) :
  Calls Tryz.prog 238 #[.pointer (some ⟨b, 0, none⟩)] w fun e w' => e = .returned (.tuple #[]) /\ w' = w.setCell ⟨b, 0, none⟩ (.pointer (some ⟨b, 0, none⟩)) := by
 obtain ⟨j, hj, hjs⟩ := Option.map_eq_some_iff.1 szB
 go_enter Tryz.func238, Tryz.ntmps238
 go_wp2
 rw [Lib.run_to_unsafe w ⟨b, 0, none⟩ Tryz.underlying188 Tryz.underlying306 hj (by rw [hjs]; decide) hsh (Nat.zero_lt_succ 1)]
 simp only [Result.andThen]
 rw [Oper.upon_value]
 go_wp2
 rw [run_callFunc_extern Tryz.func306 (by kernel_rfl) (by kernel_rfl) (by kernel_rfl) (e := Extern.AbiNoEscape.same) (by kernel_rfl)]
 rw [Lib.run_noEscape]
 simp only [Result.andThen]
 rw [Oper.upon_value]
 go_wp2
 rw [Lib.run_from_unsafe w ⟨b, 0, none⟩ Tryz.underlying306 Tryz.underlying188 hj hsh liB]
 simp only [Result.andThen]
 rw [Oper.upon_value]
 go_wp2
 go_end0
 exact ⟨rfl, rfl⟩
abbrev At (B b : Nat) (p : Value) (bs : List Value) (w : World) : Prop := Lib.BuilderAt 190 5 B b p bs w
abbrev Is (B b : Nat) (bs : List Value) (w : World) : Prop := Lib.IsBuilder 190 5 B b bs w
theorem copyCheck (B b : Nat) (bs : List Value) (w : World) (h : Is B b bs w) :
  Calls Tryz.prog 238 #[.pointer (some ⟨b, 0, none⟩)] w fun e w' => e = .returned (.tuple #[]) /\ (At B b (.pointer (some ⟨b, 0, none⟩)) bs w' /\ Below B w w') := by
 rcases h with h | h
 ·refine (copyCheck_fresh b w h.cell0 h.shape h.frozen0).mono ?_
  rintro e w' ⟨rfl, rfl⟩
  exact ⟨rfl, h.used _, (Below.refl B w).setCell (p := ⟨b, 0, none⟩) h.1 _⟩
 ·refine (copyCheck_used b w h.cell0).mono ?_
  rintro e w' ⟨rfl, rfl⟩
  exact ⟨rfl, h, Below.refl B _⟩
theorem copyCheck_f (B b : Nat) (bs : List Value) (w : World) (h : IsF B b bs w) :
  Calls Tryz.prog 238 #[.pointer (some ⟨b, 0, none⟩)] w fun e w' => e = .returned (.tuple #[]) /\ (AtF B b (.pointer (some ⟨b, 0, none⟩)) bs w' /\ Below B w w') := by
 rcases h with h | h
 ·refine (copyCheck_fresh b w h.cell0 h.shape h.frozen0).mono ?_
  rintro e w' ⟨rfl, rfl⟩
  exact ⟨rfl, h.used _, (Below.refl B w).setCell (p := ⟨b, 0, none⟩) h.1 _⟩
 ·refine (copyCheck_used b w h.cell0).mono ?_
  rintro e w' ⟨rfl, rfl⟩
  exact ⟨rfl, h, Below.refl B _⟩
set_option maxHeartbeats 2000000 in
set_option maxRecDepth 100000 in
theorem WriteByte (B b : Nat) (bs : List Value) (c : Int) (w : World) (h : Is B b bs w) (hlen : bs.length + 1 <= 140737488355328) (hBw : B <= w.heap.size) :
  Calls Tryz.prog 143 #[.pointer (some ⟨b, 0, none⟩), .int .u8 c] w fun e w' => e = .returned .nilIface /\ (At B b (.pointer (some ⟨b, 0, none⟩)) (bs ++ [.int .u8 c]) w' /\ Below B w w') := by
 obtain ⟨i0, hi, hz0, hz1, hz2⟩ := info_parts in8
 go_enter Tryz.func143, Tryz.ntmps143
 go_wp2_with (go_at_call 238; refine (copyCheck B b bs _ h).mono ?_)
 rintro e w1 ⟨rfl, h1, hb1⟩
 obtain ⟨hB, v, hbk, hown, hne⟩ := h1
 have c0 : w1.cell? ⟨b, 0, none⟩ = some (.pointer (some ⟨b, 0, none⟩)) := by rw [Lib.cell_of_heap hbk]; rfl
 have c1 : w1.cell? ⟨b, 1, none⟩ = some v := by rw [Lib.cell_of_heap hbk]; rfl
 go_wp2_with (at_builtin; refine wpList_append_own _ rfl _ _ 149 rfl B 5 i0 (.int .u8 0) 1 1 Tryz.underlying149 hi hz0 hz1 hz2 rfl (by decide) _ _ _ rfl (hown.alloc _) ⟨w1.heap.size, 0, none⟩ 1 1 [.int .u8 c] rfl rfl ?c1 ?c2 ?c3 ?c4 ?c5 ?_)
 case c1 =>
  intro j u hj
  match j, hj with
  | 0, hj => simp at hj; subst hj; simp [Addr.add]
 case c2 => intro u hu; simp at hu; subst hu; rfl
 case c3 => unfold maxLen; omega
 case c4 => omega
 case c5 => have := hb1.size; simp; omega
 intro v' w2 hown' hgrow _
 have hlt : b < w1.heap.size := by
  rcases Nat.lt_or_ge b w1.heap.size with h' | h'
  ·exact h'
  ·simp [Array.getElem?_eq_none h'] at hbk
 have hb2 : w2.heap[b]? = some (.cells #[.pointer (some ⟨b, 0, none⟩), v] 190 (0, 0)) := by
  rw [hgrow.block b (by simp; omega) (fun e => hne e.symm), Lib.alloc_old w1 _ b hlt]
  exact hbk
 have d0 : w2.cell? ⟨b, 0, none⟩ = some (.pointer (some ⟨b, 0, none⟩)) := by rw [Lib.cell_of_heap hb2]; rfl
 have d1 : w2.cell? ⟨b, 1, none⟩ = some v := by rw [Lib.cell_of_heap hb2]; rfl
 have f1 : w2.frozen? ⟨b, 1, none⟩ = false := Lib.frozen_of_heap hb2 1
 obtain ⟨g, cap, rfl⟩ : ∃ g cap, v' = .slice (some ⟨g, 0, none⟩) (bs.length + 1) cap := by
  rcases hown'.2 with ⟨_, h0⟩ | ⟨g, cap, cur, hv, _⟩
  ·omega
  ·exact ⟨g, cap, hv⟩
 go_wp2
 go_ret
 refine ⟨rfl, ?_, ?_⟩
 ·exact Lib.BuilderAt.put (T := 190) (e := 5) hB hb2 (bs' := bs ++ [.int .u8 c]) (by simpa using hown') (by decide)
 ·exact ((hb1.alloc (by have := hb1.size; omega) _).grown hgrow (by have := hb1.size; simp; omega) (fun k hk => (hown.lt k hk).1)).setCell (p := ⟨b, 1, none⟩) hB _
set_option maxHeartbeats 1000000 in
set_option maxRecDepth 100000 in
theorem String (B b : Nat) (l : List UInt8) (w : World) (h : IsF B b (Lib.byteCells l) w) (h0 : l ≠ []) :
  Calls Tryz.prog 144 #[.pointer (some ⟨b, 0, none⟩)] w fun e w' => e = .returned (.string ⟨l.toArray⟩) /\ (IsF B b (Lib.byteCells l) w' /\ Below B w w') := by
 obtain ⟨p, hp, hAt⟩ : ∃ p, (p = .pointer none \/ p = .pointer (some ⟨b, 0, none⟩)) /\ AtF B b p (Lib.byteCells l) w := by
  rcases h with h | h
  ·exact ⟨_, .inl rfl, h⟩
  ·exact ⟨_, .inr rfl, h⟩
 obtain ⟨hB, v, hbk, hown, hne⟩ := hAt
 have hl0 : l.length ≠ 0 := by simpa using h0
 rw [Lib.byteCells_length] at hown
 obtain ⟨g, cap, cur, fz, rfl, hbg, hg, hfz, hnc, hcm, hcs, htake⟩ : ∃ g cap cur fz, v = .slice (some ⟨g, 0, none⟩) l.length cap /\ B <= g /\ w.heap[g]? = some (.cells cur 5 fz) /\ fz.2 <= l.length * 1 /\ l.length <= cap /\ cap <= maxLen /\ cur.size = cap * 1 /\ cur.toList.take (l.length * 1) = Lib.byteCells l := by
  rcases hown.2 with ⟨_, hz⟩ | ⟨g, cap, cur, fz, hv, r⟩
  ·exact absurd hz hl0
  ·exact ⟨g, cap, cur, fz, hv, r⟩
 have c1 : w.drew.cell? ⟨b, 1, none⟩ = some (.slice (some ⟨g, 0, none⟩) l.length cap) := by
  have : w.drew.heap[b]? = some (.cells #[p, .slice (some ⟨g, 0, none⟩) l.length cap] 190 (0, 0)) := hbk
  rw [Lib.cell_of_heap this]; rfl
 have hSD : (Builtin.unsafeSliceData_ #[149] 273 #[.slice (some ⟨g, 0, none⟩) l.length cap]).run Tryz.prog w.drew = .ok (.pointer (some ⟨g, 0, none⟩)) w.drew :=
  Lib.run_unsafeSliceData_row _ _ _ _ _ _ (by omega)
 have hUS : (Builtin.unsafeString_ #[273, 3] 9 #[.pointer (some ⟨g, 0, none⟩), .int .i64 l.length]).run Tryz.prog w.drew = .ok (.string ⟨l.toArray⟩) (w.drew.freeze ⟨g, 0, none⟩ l.length) := by
  refine Lib.run_unsafeString_row w.drew 273 3 9 5 Tryz.underlying273 cl8 g cur.size (by have hg' : w.drew.heap[g]? = some (.cells cur 5 fz) := hg; simp [World.shape?, hg']) l h0 (by omega) (by unfold maxLen at hcm; omega) ?_
  intro j x hx
  have := hown.cells (g := g) rfl j (.int .u8 x.toNat) (by simp [Lib.byteCells, hx])
  exact this
 have hkeep : IsF B b (Lib.byteCells l) (w.drew.freeze ⟨g, 0, none⟩ l.length) := by
  have hA : AtF B b p (Lib.byteCells l) w.drew := ⟨hB, _, hbk, by rw [Lib.byteCells_length]; exact hown, hne⟩
  have hF := hA.froze (g := g) (cap := cap) (by rw [Lib.byteCells_length]; exact c1)
  rw [Lib.byteCells_length] at hF
  rcases hp with rfl | rfl
  ·exact .inl hF
  ·exact .inr hF
 go_enter Tryz.func144, Tryz.ntmps144
 go_wp2
 have mixed : Tryz.prog.follows Departure.mixedOrders = true := by kernel_rfl
 go_region_o
 all_goals (go_wp2; go_ret; exact ⟨rfl, hkeep, Lib.below_freeze (Below.drew (Below.refl B w)) (p := ⟨g, 0, none⟩) hbg _⟩)
end Go.Proofs.YtddaldghlinokaaGreatDoor.Bld
namespace Go.Proofs.YtddaldghlinokaaGreatDoor.Hx
open Go Go.RowKit R5 Scn Fms Exa
def hx (d : Nat) : UInt8 := ([48, 49, 50, 51, 52, 53, 54, 55, 56, 57, 97, 98, 99, 100, 101, 102] : List UInt8).getD d 0
def hexL (N : Nat) : Nat -> List UInt8
 | 0 => []
 | k + 1 => hx (N / 16 ^ k % 16) :: hexL N k
theorem hexL_len (N : Nat) : ∀ k, (hexL N k).length = k
 | 0 => rfl
 | k + 1 => by simp [hexL, hexL_len N k]
theorem hexL_take (N : Nat) : ∀ (k p : Nat), p + 1 <= k -> (hexL N k).take (k - p) = (hexL N k).take (k - (p + 1)) ++ [hx (N / 16 ^ p % 16)]
 | 0, p, h => by omega
 | k + 1, p, h => by
  rcases Nat.lt_or_ge p k with h1 | h1
  ·have e1 : k + 1 - p = (k - p) + 1 := by omega
   have e2 : k + 1 - (p + 1) = (k - (p + 1)) + 1 := by omega
   rw [e1, e2]
   simp only [hexL, List.take_succ_cons, List.cons_append]
   rw [hexL_take N k p h1]
  ·have e : p = k := by omega
   subst e
   simp [hexL]
theorem bit_step (M s : Nat) : M % 2 ^ (s + 1) = 2 * (M / 2 % 2 ^ s) + M % 2 := by
 rw [Nat.pow_succ, Nat.mul_comm (2 ^ s) 2, Nat.mod_mul]; omega
theorem dig (d : Nat) (h : d < (⟨#[48, 49, 50, 51, 52, 53, 54, 55, 56, 57, 97, 98, 99, 100, 101, 102]⟩ : ByteArray).size) : (⟨#[48, 49, 50, 51, 52, 53, 54, 55, 56, 57, 97, 98, 99, 100, 101, 102]⟩ : ByteArray)[d] = hx d :=
 (by decide : ∀ d : Fin 16, (⟨#[48, 49, 50, 51, 52, 53, 54, 55, 56, 57, 97, 98, 99, 100, 101, 102]⟩ : ByteArray)[d.val] = hx d.val) ⟨d, h⟩
theorem row_below {w w' : World} {base size n : Nat} {e : TypeId} {v : Value} {xs : List Value} (h : w.ownsRow base e size v n xs) (hb : Below w.heap.size w w') : w'.ownsRow base e size v n xs := by
 refine ⟨h.1, ?_⟩
 rcases h.2 with h | ⟨g, cap, cur, hv, hg, hc, r⟩
 ·exact Or.inl h
 ·exact Or.inr ⟨g, cap, cur, hv, hg, (hb.block g (Array.getElem?_eq_some_iff.1 hc).1).trans hc, r⟩
theorem is_below {B b : Nat} {bs : List Value} {w w' : World} (h : Bld.Is B b bs w) (hb : Below w.heap.size w w') : Bld.Is B b bs w' := by
 rcases h with ⟨hB, v, hk, ho, hn⟩ | ⟨hB, v, hk, ho, hn⟩
 ·exact Or.inl ⟨hB, v, (hb.block b (Array.getElem?_eq_some_iff.1 hk).1).trans hk, row_below ho hb, hn⟩
 ·exact Or.inr ⟨hB, v, (hb.block b (Array.getElem?_eq_some_iff.1 hk).1).trans hk, row_below ho hb, hn⟩
theorem Blk.under {B g : Nat} {w w' : World} {t : TypeId} {cs : List Value} (h : Blk w g t cs) (hb : Below B w w') (hg : g < B) : Blk w' g t cs := (hb.block g hg).trans h
def SxI (N k b n c : Nat) (A : Option Addr) (w : World) (i : Value) (wr : World) : Prop :=
 ∃ (z : Int) (p : Nat), i = .int .i64 z /\ z + 1 = p /\ p <= k /\ Bld.Is b b (Lib.byteCells ((hexL N k).take (k - p))) wr /\ w.heap.size < b /\ b <= wr.heap.size /\ Blk wr w.heap.size 28 [.slice A n c] /\ Below w.heap.size w wr
set_option maxRecDepth 100000 in
set_option maxHeartbeats 4000000 in
theorem sixteens (A : Option Addr) (n c N least : Nat) (w : World) (ha : Rd w A n c (toL N)) (hn : n <= 16384) (hl : 1 <= least) (hl2 : least <= 65536) :
  Calls Tryz.prog 56 #[natV A n c, .int .i64 (least : Int)] w fun e w' => e = .returned (.string ⟨(hexL N (max least ((bl N + 3) / 4))).toArray⟩) /\ Below w.heap.size w w' := by
 obtain ⟨w0, hw0⟩ := yx (w.alloc (.cells #[.slice A n c] 28))
 have hb : Below w.heap.size w w0 := by rw [hw0]; exact (Below.refl _ _).alloc (Nat.le_refl _) _
 have hQ : Blk w0 w.heap.size 28 [.slice A n c] := by rw [hw0]; exact Blk.made w 28 [.slice A n c]
 have hbl : bl N <= 524288 := by
  have h := ha.lt
  rw [val_toL, pow32] at h
  have := bl_le h
  omega
 have HBi := vv (Pnt.Bits A n c N w0 (ha.below hb rfl) hn)
 have HBt := vv fun i w' (h : Below w.heap.size w w') (hi : i <= 1048576) => Pnt.Bit A n c N i w' (ha.below h rfl) hn hi
 obtain ⟨s, hs⟩ := yx (bl N)
 rw [<- hs] at HBi hbl ⊢
 have hsi : (s : Int) <= 524288 := by omega
 have hli : (least : Int) <= 65536 := by omega
 have hl1 : (1 : Int) <= least := by omega
 obtain ⟨k, hk⟩ := yx (max least ((s + 3) / 4))
 rw [<- hk]
 have HK := vv hk
 have hk1 : 1 <= k := by omega
 have hk2 : k <= 200000 := by omega
 have hki : (k : Int) <= 200000 := by omega
 have HB := vv hb
 have HQ := vv hQ
 have HW := vv hw0
 have HK1 := vv (And.intro hk1 hk2)
 clear hb hQ hw0 ha hn hl hl2 hbl hs hk hk1 hk2
 go_enter Tryz.func56, Tryz.ntmps56
 go_wp2_with fail
 rw [<- HW.out]
 refine HBi.out.mono ?_
 rintro e w1 ⟨rfl, hB⟩
 have HQ1 := vv (HQ.out.below hB)
 have HB1 := vn HB hB
 clear hB
 have HKM : Hid (max (least : Int) (((s : Int) + 3) / 4) = (k : Int)) := vv (by have := HK.out; omega)
 go_wp2
 rw [HKM.out]
 have hI1 : SxI N k w1.heap.size n c A w (.int .i64 ((k : Int) - 1)) (w1.alloc (.cells #[.pointer none, .slice none 0 0] 190)) := by
  refine ⟨(k : Int) - 1, k, rfl, by omega, Nat.le_refl _, ?_, HQ1.out.lt, by simp, HQ1.out.alloc _, HB1.out.alloc HB1.out.size _⟩
  rw [Nat.sub_self, List.take_zero]
  exact Or.inl ⟨Nat.le_refl _, _, heap_alloc_new w1 _, World.ownsRow_nil _ _ _ _, by simp [Value.ownBlock]⟩
 have HI1 := vv hI1
 clear hI1
 go_loopw [9] (fun i wr => SxI N k w1.heap.size n c A w i wr) (fun i _ => (intOf i + 1).toNat)
 case atStart => exact HI1.out
 case round =>
  obtain ⟨z, q, rfl, hz, hq, hIs, hlt, hle, hBk, hBl⟩ := hrel
  by_cases h0 : q = 0
  ·subst h0
   have hz0 : z = -1 := by omega
   subst hz0
   rw [Nat.sub_zero, List.take_of_length_le (by rw [hexL_len]; exact Nat.le_refl _)] at hIs
   have hS := Bld.String w1.heap.size w1.heap.size (hexL N k) wr (by rcases hIs with h | h <;> exact Lib.IsBuilderF.of (by first | exact Or.inl h | exact Or.inr h)) (by
    intro h; have := hexL_len N k; rw [h] at this; have := HK1.out.1; simp at *; omega)
   have HS := vv hS
   have HBl := vv hBl
   clear hIs hBk hBl hS
   go_wp2_with fail
   refine HS.out.mono ?_
   rintro e w3 ⟨rfl, _, hB⟩
   have HB3 := vv (HBl.out.trans (hB.mono (Nat.le_of_lt hlt)))
   clear hB
   go_wp2
   go_ret
   exact ⟨rfl, HB3.out⟩
  ·obtain ⟨p, rfl⟩ : ∃ p, q = p + 1 := ⟨q - 1, by omega⟩
   have hzp : z = (p : Int) := by omega
   subst hzp
   have hpi : (p : Int) <= 200000 := by omega
   have HIs := vv hIs
   have HBk := vv hBk
   have HBl := vv hBl
   have HPk := vv hq
   have HLt := vv (And.intro hlt hle)
   clear hIs hBk hBl hz hq h0 hlt hle
   go_wp2
   go_loopw [10, 11] (fun d i wq => ∃ (z : Int) (j : Nat), i = .int .i64 z /\ z + 1 = j /\ j <= 4 /\ d = .int .i64 ((N / 2 ^ (4 * p + j) % 2 ^ (4 - j) : Nat) : Int) /\ SxI N k w1.heap.size n c A w (.int .i64 (p : Int)) wq) (fun _ i _ => (intOf i + 1).toNat)
   case atStart => exact ⟨3, 4, rfl, rfl, Nat.le_refl _, by rw [Nat.sub_self, Nat.pow_zero, Nat.mod_one]; rfl, (p : Int), p + 1, rfl, rfl, HPk.out, HIs.out, HLt.out.1, HLt.out.2, HBk.out, HBl.out⟩
   case round =>
    obtain ⟨z, j, rfl, hz, hj, rfl, _, p', he, hp', hq, hIs, hlt, hle, hBk, hBl⟩ := hrel
    injection he with _ he
    subst he
    have hp'' : p' = p + 1 := by omega
    subst hp''
    have hd : N / 2 ^ (4 * p + j) % 2 ^ (4 - j) < 16 := by
     have h1 := Nat.mod_lt (N / 2 ^ (4 * p + j)) (Nat.two_pow_pos (4 - j))
     have h2 : 2 ^ (4 - j) <= 2 ^ 4 := Nat.pow_le_pow_right (by decide) (by omega)
     omega
    by_cases h0 : j = 0
    ·subst h0
     have hz0 : z = -1 := by omega
     subst hz0
     have e16 : N / 2 ^ (4 * p + 0) % 2 ^ (4 - 0) = N / 16 ^ p % 16 := by
      rw [Nat.add_zero, Nat.pow_mul]
     rw [e16] at hd ⊢
     obtain ⟨d, hde⟩ := yx (N / 16 ^ p % 16)
     rw [<- hde] at hd ⊢
     have HW1 := vv (Bld.WriteByte w1.heap.size w1.heap.size _ ((hx d).toNat : Int) wr hIs (by rw [Lib.byteCells_length, List.length_take, hexL_len]; have := HK1.out.2; omega) hle)
     have hdi : (d : Int) <= 15 := by omega
     have HBl := vv hBl
     have HBk := vv hBk
     have HDe := vv hde
     have HPk := vv hq
     have HLt := vv (And.intro hlt hle)
     clear hIs hBl hBk hde hz hj hp' hd hq hlt hle
     go_wp2_with fail
     rw [dig]
     refine HW1.out.mono ?_
     rintro e w3 ⟨rfl, hAt, hB⟩
     have HAt := vv hAt
     have HBl3 := vv (HBl.out.trans (hB.mono (Nat.le_of_lt HLt.out.1)))
     have HBk3 := vv (Blk.under HBk.out hB HLt.out.1)
     have HLe := vv hB.size
     clear hAt hB
     go_wp2
     go_round
     case rel =>
      refine ⟨(p : Int) - 1, p, by go_num, by omega, Nat.le_of_succ_le HPk.out, Or.inr ?_, HLt.out.1, Nat.le_trans HLt.out.2 HLe.out, HBk3.out, HBl3.out⟩
      have h := HAt.out
      have e := hexL_take N k p HPk.out
      rw [<- HDe.out] at e
      rw [e, Lib.byteCells_append]
      exact h
     case measure => simp [intOf]
    ·obtain ⟨i, rfl⟩ : ∃ i, j = i + 1 := ⟨j - 1, by omega⟩
     have hzi : z = (i : Int) := by omega
     subst hzi
     have hii : (i : Int) <= 3 := by omega
     have hst : N / 2 ^ (4 * p + i) % 2 ^ (4 - i) = 2 * (N / 2 ^ (4 * p + (i + 1)) % 2 ^ (4 - (i + 1))) + N / 2 ^ (4 * p + i) % 2 := by
      have e : 4 - i = (4 - (i + 1)) + 1 := by omega
      rw [e, bit_step, Nat.div_div_eq_div_mul, <- Nat.pow_succ]
      rfl
     obtain ⟨d, hde⟩ := yx (N / 2 ^ (4 * p + (i + 1)) % 2 ^ (4 - (i + 1)))
     rw [<- hde] at hd hst ⊢
     have hdi : (d : Int) <= 15 := by omega
     have HT := HBt.out (4 * p + i) wr hBl (by have := HK1.out.2; omega)
     obtain ⟨t, ht⟩ := yx ((N / 2 ^ (4 * p + i) % 2 == 1))
     rw [<- ht] at HT
     have hic : (((4 * p + i : Nat) : Int)) = 4 * (p : Int) + (i : Int) := by omega
     rw [hic] at HT
     have HT := vv HT
     have HE := vv (And.intro hst (And.intro ht hde))
     have HIs := vv hIs
     have HBl := vv hBl
     have HBk := vv hBk
     have c0 := hBk.cell 0
     have cl := hBk.lt
     simp only [List.getElem?_cons_zero] at c0
     have HPk := vv hq
     have HLt := vv (And.intro hlt hle)
     clear hlt hle hIs hBl hBk hde hst ht hic hd hz hj hp' hq
     go_wp2_with fail
     refine HT.out.mono ?_
     rintro e w3 ⟨rfl, hB⟩
     have HBl3 := vn HBl hB
     have HBk3 := vv (HBk.out.below hB)
     have HLe := vv hB.size
     have HIs3 : Hid (Bld.Is w1.heap.size w1.heap.size (Lib.byteCells ((hexL N k).take (k - (p + 1)))) w3) := vv (is_below HIs.out hB)
     clear hB c0 cl
     cases t
     all_goals
      go_wp2
      go_round
      case rel =>
       have hE := HE.out
       refine ⟨(i : Int) - 1, i, by go_num, by omega, by omega, ?_, (p : Int), p + 1, rfl, rfl, HPk.out, HIs3.out, HLt.out.1, Nat.le_trans HLt.out.2 HLe.out, HBk3.out, HBl3.out⟩
       have h2 := hE.2.1
       have h3 : N / 2 ^ (4 * p + i) % 2 < 2 := Nat.mod_lt _ (by decide)
       rw [hE.1]
       obtain ⟨y, hy⟩ := yx (N / 2 ^ (4 * p + i) % 2)
       rw [<- hy] at h2 h3 ⊢
       rcases Nat.lt_or_ge y 1 with h | h
       ·obtain rfl : y = 0 := by omega
        first | (congr 1; omega) | simp at h2
       ·obtain rfl : y = 1 := by omega
        first | (congr 1; omega) | simp at h2
      case measure => simp [intOf]
end Go.Proofs.YtddaldghlinokaaGreatDoor.Hx
