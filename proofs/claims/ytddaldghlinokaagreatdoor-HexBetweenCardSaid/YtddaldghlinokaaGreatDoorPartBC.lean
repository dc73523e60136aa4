/- Lemmas. -/
import Derived.Test.YtddaldghlinokaaGreatDoorPartBB
import Derived.Laws.BytesArg
import Derived.Test.YtddaldghlinokaaGreatDoorPartAV
set_option linter.all false
namespace Go.Proofs.YtddaldghlinokaaGreatDoor.Scn
open Go Go.RowKit
theorem exponent_le (s : St) (p : List UInt8) : -68719476736 <= (s.exponent p).1 /\ (s.exponent p).1 <= 68719476736 := by
 unfold St.exponent
 split
 ·have := expo_le ((s.skip p.length).minus.2.must ten).1 0 (by decide)
  dsimp only
  split <;> omega
 ·constructor <;> (dsimp only; decide)
def txt (U : List Nat) : ByteArray := ⟨(U.map UInt8.ofNat).toArray⟩
theorem row_string {w : World} {base n : Nat} {v : Value} {U : List Nat} (h : w.ownsRow base 5 1 v n (u8s U)) (hU : ∀ x ∈ U, x < 256) :
  (convert 149 9 v).run Tryz.prog w = .ok (.string (txt U)) w := by
 have hl := row8_len h
 obtain ⟨h1, h2⟩ := h
 rcases h2 with ⟨rfl, rfl⟩ | ⟨g, cap, cur, rfl, hb, hg, hc, hm, hs, ht⟩
 ·have : U = [] := List.eq_nil_of_length_eq_zero hl
  subst this
  exact run_convert_bytes_nil w 149 5 Tryz.underlying149 Tryz.underlying5 0 0 _ Tryz.underlying9
 ·have e := run_convert_bytes_back (P := Tryz.prog) w 149 9 5 ⟨g, 0, none⟩ cap (U.map UInt8.ofNat) Tryz.underlying149 Tryz.underlying5 Tryz.underlying9 (fun j hj => by
   have hj2 : j < U.length := by simpa using hj
   have ea : Addr.add ⟨g, 0, none⟩ j = ⟨g, j, none⟩ := by cases j with | zero => rfl | succ j => simp [Addr.add]
   have e2 : (u8s U)[j]? = some (.int .u8 ((U[j] : Nat) : Int)) := by simp [u8s, List.getElem?_eq_getElem hj2]
   have hx := hU _ (List.getElem_mem hj2)
   rw [<- ht, List.getElem?_take, if_pos (by omega)] at e2
   rw [ea]
   simp only [World.cell?, hg]
   rw [List.getElem_map]
   have : (UInt8.ofNat U[j]).toNat = U[j] := by rw [UInt8.toNat_ofNat']; exact Nat.mod_eq_of_lt hx
   rw [this]
   simpa using e2)
  rw [List.length_map, hl] at e
  exact e
def numV (x : Num) (A : Option Addr) (m c : Nat) : Value :=
 .agg #[.int .u8 (x.kind : Int), .bool x.neg, .bool x.dneg, .string ⟨x.digits.toArray⟩, .int .i64 x.exp, .bool x.hneg, .slice A m c, .int .i64 x.hexp, .int .u64 (x.payload : Int)]
def NumP (b : Nat) (x : Num) (u : St) (w : World) (e : Ending) (w' : World) : Prop :=
 ∃ A m c, e = .returned (numV x A m c) /\ Rd w' A m c (toL x.mant) /\ Fr w.heap.size A /\ ScAt w' b u /\ w.grownBy w' (some b)
def figs (L : List Nat) (k : Nat) : List Nat := (L.take k).map (· + 48) ++ L.drop k
theorem figs_all (L : List Nat) : figs L L.length = L.map (· + 48) := by unfold figs; rw [List.take_length, List.drop_length, List.append_nil]
theorem figs_nth (L : List Nat) (k : Nat) (h : k < L.length) : nth (figs L k) k = nth L k := by
 unfold figs nth
 rw [List.getD_eq_getElem?_getD, List.getD_eq_getElem?_getD, List.getElem?_append_right (by simp; omega), List.length_map, List.length_take, Nat.min_eq_left (by omega), Nat.sub_self, List.getElem?_drop, Nat.add_zero]
theorem figs_set (L : List Nat) (k : Nat) (h : k < L.length) : (figs L k).set k (nth L k + 48) = figs L (k + 1) := by
 unfold figs
 rw [take_snoc' L k h, List.map_append, List.map_singleton, List.set_append_right _ _ (by simp; omega), List.length_map, List.length_take, Nat.min_eq_left (by omega), Nat.sub_self, List.append_assoc]
 congr 1
 rw [<- List.getElem_cons_drop h]
 rfl
theorem nth_mem {L : List Nat} {k : Nat} (h : k < L.length) : nth L k ∈ L := by
 unfold nth
 rw [List.getD_eq_getElem?_getD, List.getElem?_eq_getElem h]
 exact List.getElem_mem h
def Blk (w : World) (g : Nat) (t : TypeId) (cs : List Value) : Prop := w.heap[g]? = some (.cells cs.toArray t (0, 0))
theorem Blk.cell {w : World} {g : Nat} {t : TypeId} {cs : List Value} (h : Blk w g t cs) (j : Nat) : w.cell? ⟨g, j, none⟩ = cs[j]? := by
 simp only [World.cell?]
 rw [show w.heap[g]? = _ from h]
 simp
theorem Blk.fz {w : World} {g : Nat} {t : TypeId} {cs : List Value} (h : Blk w g t cs) (j : Nat) : w.frozen? ⟨g, j, none⟩ = false := by
 simp only [World.frozen?]
 rw [show w.heap[g]? = _ from h]
 simp
theorem Blk.lt {w : World} {g : Nat} {t : TypeId} {cs : List Value} (h : Blk w g t cs) : g < w.heap.size := (Array.getElem?_eq_some_iff.1 (show w.heap[g]? = _ from h)).1
theorem Blk.made (w : World) (t : TypeId) (cs : List Value) : Blk (w.alloc (.cells cs.toArray t)) w.heap.size t cs := heap_alloc_new w _
theorem Blk.grown {w w' : World} {g : Nat} {t : TypeId} {cs : List Value} (h : Blk w g t cs) {row : Option Nat} (hb : w.grownBy w' row) (hr : row ≠ some g) : Blk w' g t cs := (hb.block g h.lt (fun e => hr e.symm)).trans h
theorem Blk.below {w w' : World} {g : Nat} {t : TypeId} {cs : List Value} (h : Blk w g t cs) (hb : Below w.heap.size w w') : Blk w' g t cs := (hb.block g h.lt).trans h
theorem Blk.other {w : World} {g : Nat} {t : TypeId} {cs : List Value} (h : Blk w g t cs) {p : Addr} (hp : p.block ≠ g) (v : Value) : Blk (w.setCell p v) g t cs := (Below.heap_setCell w p v g (fun e => hp e.symm)).trans h
theorem wpList_store_blk {P : Program} {ops : Array Oper} {rest : List Oper} {o : Oper} {a : Act} {w : World} {Q : Exit -> Act -> World -> Prop} (hgd : o.guard = none) (ty : TypeId) (x y : Operand) (ho : o.op = .store ty x y)
  (g : Nat) (cells : List Value) (hx : a.eval x = .pointer (some ⟨g, 0, none⟩)) (hy : a.eval y = .agg cells.toArray)
  (t : TypeId) (old : List Value) (hg : Blk w g t old) (hi : (P.info? ty).map (·.size) = some cells.length)
  (hold : old.length = cells.length) (h1 : cells.all (·.oneCell') = true)
  (h : ∀ w', Blk w' g t cells -> w.grownBy w' (some g) -> wpList P ops Q rest (a.put o.dst undef) w') : wpList P ops Q (o :: rest) a w := by
 refine wpList_store_row hgd ty x y ho g cells.toArray hx hy t old.toArray hg (by simpa using hi) (by simpa using hold) (by simpa using h1) (h _ (setRow_heap w g _ _ t _ hg) ⟨rfl, rfl, rfl, by simp [World.setRow], fun i hi hne => ?_⟩)
 unfold World.setRow
 rw [Array.getElem?_modify, if_neg (fun e => hne (by rw [e]))]
def num0 : List Value := [.int .u8 0, .bool false, .bool false, .string ⟨#[]⟩, .int .i64 0, .bool false, .slice none 0 0, .int .i64 0, .int .u64 0]
theorem Blk.num {w : World} {g : Nat} {t : TypeId} {v0 v1 v2 v3 v4 v5 v6 v7 v8 : Value} (h : Blk w g t [v0, v1, v2, v3, v4, v5, v6, v7, v8]) :
  w.cell? ⟨g, 0, none⟩ = some v0 /\ w.cell? ⟨g, 1, none⟩ = some v1 /\ w.cell? ⟨g, 2, none⟩ = some v2 /\ w.cell? ⟨g, 3, none⟩ = some v3 /\ w.cell? ⟨g, 4, none⟩ = some v4 /\ w.cell? ⟨g, 5, none⟩ = some v5 /\ w.cell? ⟨g, 6, none⟩ = some v6 /\ w.cell? ⟨g, 7, none⟩ = some v7 /\ w.cell? ⟨g, 8, none⟩ = some v8 :=
 ⟨h.cell 0, h.cell 1, h.cell 2, h.cell 3, h.cell 4, h.cell 5, h.cell 6, h.cell 7, h.cell 8⟩
def DecInv (b : Nat) (L : List Nat) (v : St) (x : Value) (B : Nat) (w : World) (i : Value) (wr : World) : Prop :=
 ∃ q : Nat, q <= L.length /\ i = .int .i64 (q : Int) /\ wr.ownsRow B 5 1 x L.length (u8s (figs L q)) /\ ScAt wr b v /\ w.grownBy wr (some b) /\ Blk wr w.heap.size 33 num0 /\ B <= wr.heap.size
set_option maxRecDepth 100000 in
set_option maxHeartbeats 2000000 in
theorem decimal (b : Nat) (s : St) (neg : Bool) (w : World) (h : ScAt w b s) (hg : Bg w) :
  Calls Tryz.prog 285 #[.pointer (some ⟨b, 0, none⟩), .bool neg] w (NumP b (s.decimal neg).1 (s.decimal neg).2 w) := by
 obtain ⟨L, k, u, hm⟩ : ∃ L k u, s.mantissa ten = (L, k, u) := ⟨_, _, _, rfl⟩
 obtain ⟨x, v, hx⟩ : ∃ x v, u.exponent [101] = (x, v) := ⟨_, _, rfl⟩
 have hxl := exponent_le u [101]
 rw [hx] at hxl
 try dsimp only at hxl
 obtain ⟨T, hT⟩ := yx ((L.map fun d => UInt8.ofNat (d + 48)).dropWhile (· == 48))
 obtain ⟨S, hS⟩ := yx ((T.reverse.dropWhile (· == 48)).reverse)
 have HE : Hid (s.decimal neg = (⟨1, neg, neg, S, if S = [] then 0 else clip (x - k + T.length - S.length), false, 0, 0, 0⟩, v)) := vv (by
  unfold St.decimal
  rw [hm]
  dsimp only
  rw [hx, <- hT, <- hS])
 obtain ⟨Tb, hTb⟩ : ∃ Tb : ByteArray, Tb = ⟨T.toArray⟩ := ⟨_, rfl⟩
 obtain ⟨Sb, hSb⟩ : ∃ Sb : ByteArray, Sb = ⟨S.toArray⟩ := ⟨_, rfl⟩
 have hTs : Tb.size = T.length := by rw [hTb]; exact List.size_toArray ..
 have hSs : Sb.size = S.length := by rw [hSb]; exact List.size_toArray ..
 have HTx : Hid (∀ w, Calls Tryz.prog 342 #[.string (txt (L.map (· + 48))), .string ⟨#[48]⟩] w fun e w' => e = .returned (.string Tb) /\ w' = w) := vv fun w => by
  have := Tryz.strings_TrimLeft_one (txt (L.map (· + 48))) 48 (by decide) w
  have e : Lib.trimLeftB (txt (L.map (· + 48))).data.toList 48 = T := by
   rw [hT]
   unfold Lib.trimLeftB txt
   simp only [List.map_map]
   rfl
  rwa [e, <- hTb] at this
 have HSx : Hid (∀ w, T.length <= 131072 -> Calls Tryz.prog 343 #[.string Tb, .string ⟨#[48]⟩] w fun e w' => e = .returned (.string Sb) /\ w' = w) := vv fun w hl => by
  have := Tryz.strings_TrimRight_one Tb 48 (by decide) w (by rw [hTs]; omega)
  have e : Lib.trimRightB Tb.data.toList 48 = S := by
   rw [hS, hTb]; rfl
  rwa [e, <- hSb] at this
 have HSl : Hid (T.length <= L.length /\ S.length <= T.length) := vv (by
  refine ⟨?_, ?_⟩
  ·rw [hT]
   have := (List.dropWhile_sublist (fun (c : UInt8) => c == 48) (l := L.map fun d => UInt8.ofNat (d + 48))).length_le
   rwa [List.length_map] at this
  ·rw [hS, List.length_reverse]
   have := (List.dropWhile_sublist (fun (c : UInt8) => c == 48) (l := T.reverse)).length_le
   rwa [List.length_reverse] at this)
 have HX := vv hxl
 have HM := vv hm
 have HXe := vv hx
 have HH := vv h
 have HG := vv hg
 have HL := vv h.lt
 have HMa := vv fun w h hg => mantissa 282 ten kind_ten b s w h hg
 rw [hm] at HMa
 replace HMa : Hid (∀ w, ScAt w b s -> Bg w -> Calls Tryz.prog 335 #[.pointer (some ⟨b, 0, none⟩), .func (.func 282) #[] #[]] w (MantPost b L k u w)) := HMa
 have HEx := vv fun w h hg => exponent b u ⟨#[101]⟩ w h hg (by decide)
 rw [show (⟨#[101]⟩ : ByteArray).data.toList = [101] from rfl, hx] at HEx
 replace HEx : Hid (∀ w, ScAt w b u -> Bg w -> Calls Tryz.prog 337 #[.pointer (some ⟨b, 0, none⟩), .string ⟨#[101]⟩] w (ScP b v (.int .i64 x) w)) := HEx
 have HSz := vv (And.intro hTs hSs)
 have HSb := vv hSb
 clear hm hx hxl hT hS h hg hTs hSs hTb hSb
 go_enter Tryz.func285, Tryz.ntmps285
 go_wp2_with fail
 obtain ⟨w0, hw0⟩ := yx (w.alloc (.cells #[.int .u8 0, .bool false, .bool false, .string ⟨#[]⟩, .int .i64 0, .bool false, .slice none 0 0, .int .i64 0, .int .u64 0] 33))
 rw [<- hw0]
 have hg0 : w.grownBy w0 (some b) := by rw [hw0]; exact only_alloc (World.grownBy.refl w _) _
 have HR0 : Hid (Blk w0 w.heap.size 33 num0) := vv (by rw [hw0]; exact Blk.made w _ num0)
 have hsc0 : ScAt w0 b s := HH.out.grown (row := none) (by rw [hw0]; exact only_alloc (World.grownBy.refl w _) _) (fun k e => by cases e)
 have HBs : Hid (w0.heap.size = w.heap.size + 1) := vv (by rw [hw0]; simp)
 have HG0 := vv hg0
 have hne : b ≠ w.heap.size := by have := HL.out; omega
 have HNe := vv hne
 have HM0 := vv (HMa.out w0 hsc0 (HG.out.grown hg0 HH.out))
 clear hg0 hsc0 hw0 hne
 refine HM0.out.mono ?_
 rintro e w1 ⟨y, rfl, hrow, hsc, hgr, hle, hk, hsm⟩
 have HRow := vv hrow
 have HR1 := vv (HR0.out.grown hgr (fun e => HNe.out (by injection e)))
 have HG1 := vv (only_trans HG0.out hgr)
 have HSm := vv hsm
 have HE1 := vv (HEx.out w1 hsc (HG.out.grown HG1.out HH.out))
 have hs1 := hgr.size
 clear hrow hsc hgr hsm
 go_wp2_with fail
 refine HE1.out.mono ?_
 rintro e w2 ⟨rfl, hsc, hgr⟩
 obtain ⟨A, cap, hy⟩ := row8_any HRow.out
 subst hy
 have hxl1 := HX.out.1
 have hxl2 := HX.out.2
 have hki : (k : Int) <= 65536 := by omega
 have hLi : (L.length : Int) <= 131072 := by omega
 have hs2 := hgr.size
 have HD0 : Hid (DecInv b L v (.slice A L.length cap) w0.heap.size w (.int .i64 0) w2) := vv ⟨0, Nat.zero_le _, rfl, row_only HRow.out hgr (by have := HBs.out; have := HL.out; omega), hsc, only_trans HG1.out hgr, HR1.out.grown hgr (fun e => HNe.out (by injection e)), by omega⟩
 clear hsc hgr
 go_wp2
 go_loopw [23] (fun i wr => DecInv b L v (.slice A L.length cap) w0.heap.size w i wr) (fun i _ => L.length - (intOf i).toNat)
 case atStart => exact HD0.out
 case round =>
  clear HD0
  obtain ⟨q, hq, rfl, hrow, hsc, hgr, hR, hBs⟩ := hrel
  have HR := vv hR
  have HRw := vv hrow
  have HSc := vv hsc
  have HGr := vv hgr
  have HBq := vv hBs
  clear hsc hgr hR hBs
  by_cases hql : q < L.length
  ·obtain ⟨g, cap', e, hgb⟩ := row8_slice hrow (by omega)
   cases e
   obtain ⟨r1, r2, r3, r4⟩ := row8_cell hrow hql
   rw [figs_nth L q hql] at r1
   have hd16 : nth L q < 16 := HSm.out _ (nth_mem hql)
   obtain ⟨d, hd⟩ := yx (nth L q)
   have hdi : (d : Int) <= 15 := by omega
   have HS := vv (row8_set hrow q (d + 48))
   rw [hd, figs_set L q hql, <- hd, Int.natCast_add] at HS
   rw [<- hd] at r1
   have hqi : (q : Int) < (L.length : Int) := by omega
   have hgne : g ≠ b /\ g ≠ w.heap.size := by have := HBs.out; have := HL.out; omega
   have hset := only_setCell (World.grownBy.refl wr (some g)) (p := ⟨g, q, none⟩) (.inl rfl) (.int .u8 ((d : Int) + 48))
   have HSc2 := vv (HSc.out.grown hset (fun k e => by cases e; exact hgne.1))
   have HR2 := vv (HR.out.grown hset (fun e => hgne.2 (by injection e)))
   have HG2 := vv (only_grown HGr.out hset (fun k e => by cases e; have := HBs.out; omega))
   have hsz := hset.size
   clear hrow hd hd16 hset hgne
   go_wp2
   go_roundw
   case rel => exact ⟨q + 1, by omega, by go_num, HS.out, HSc2.out, HG2.out, HR2.out, by omega⟩
   case measure => simp [intOf]; omega
  ·have hqe : q = L.length := by omega
   subst hqe
   rw [figs_all] at hrow
   have hconv := row_string hrow (fun y hy => by
    obtain ⟨d, hd, rfl⟩ := List.mem_map.1 hy
    have := HSm.out d hd
    omega)
   have hsl := HSl.out
   have hTi : (Tb.size : Int) <= 131072 := by rw [HSz.out.1]; omega
   have hSi : (Sb.size : Int) <= 131072 := by rw [HSz.out.2]; omega
   have hRl := HR.out.lt
   have HTl : Hid (T.length <= 131072) := vv (by omega)
   clear hrow hsl
   by_cases hz : Sb.size = 0
   ·obtain rfl : Sb = ⟨#[]⟩ := ByteArray.ext (Array.eq_empty_of_size_eq_zero hz)
    have hS0 : S = [] := List.eq_nil_of_length_eq_zero (by rw [<- HSz.out.2]; rfl)
    have HE2 : Hid (s.decimal neg = (⟨1, neg, neg, S, 0, false, 0, 0, 0⟩, v)) := vv (by rw [HE.out, if_pos hS0])
    have HS0 := vv hS0
    clear hz hS0
    go_wp2_with fail
    refine (HTx.out _).mono ?_
    rintro e w' ⟨rfl, rfl⟩
    go_wp2_with fail
    refine (HSx.out _ HTl.out).mono ?_
    rintro e w' ⟨rfl, rfl⟩
    go_wp2_with (with_reducible refine wpList_store_blk rfl 33 (.tmp 4) (.tmp 54) rfl w.heap.size [.int .u8 1, .bool neg, .bool neg, .string ⟨#[]⟩, .int .i64 0, .bool false, .slice none 0 0, .int .i64 0, .int .u64 0] rfl rfl 33 num0 (HR.out.below ((Below.refl _ _).alloc (Nat.le_refl _) _)) (by kernel_rfl) rfl rfl ?_)
    intro w8 hB hg8
    have hga := only_trans (only_alloc (World.grownBy.refl _ (some w.heap.size)) _) hg8
    have HS8 := vv (HSc.out.grown hga (fun k e => by cases e; exact fun e => HNe.out e.symm))
    have HG8 := vv (only_grown HGr.out hga (fun k e => by cases e; exact Nat.le_refl _))
    have HB8 := vv hB
    clear hB hg8 hga
    go_wp2
    obtain ⟨k0, k1, k2, k3, k4, k5, k6, k7, k8⟩ := HB8.out.num
    rw [HE2.out]
    exact bodyPost_ret (v := numV ⟨1, neg, neg, S, 0, false, 0, 0, 0⟩ none 0 0) (by simp [results, Tryz.results285, go_sem, k0, k1, k2, k3, k4, k5, k6, k7, k8, numV, HS0.out]) rfl ⟨none, 0, 0, rfl, Rd.nil _, Fr.none_ _, HS8.out, HG8.out⟩
   ·have hne := str_some (s := Sb) (by omega)
    have HE2 : Hid (s.decimal neg = (⟨1, neg, neg, S, clip (x - (k : Int) + (Tb.size : Int) - (Sb.size : Int)), false, 0, 0, 0⟩, v)) := vv (by
     rw [HE.out, if_neg (fun e => hz (by rw [HSz.out.2, e]; rfl)), HSz.out.1, HSz.out.2])
    obtain ⟨cl, hcl⟩ := yx (clip (x - (k : Int) + (Tb.size : Int) - (Sb.size : Int)))
    have HCl := vv fun w => clip_ (x - (k : Int) + (Tb.size : Int) - (Sb.size : Int)) w
    rw [<- hcl] at HE2 HCl
    have HSe := vv HSb.out
    clear hz hcl
    go_wp2_with fail
    refine (HTx.out _).mono ?_
    rintro e w' ⟨rfl, rfl⟩
    go_wp2_with fail
    refine (HSx.out _ HTl.out).mono ?_
    rintro e w' ⟨rfl, rfl⟩
    go_wp2_with fail
    refine (HCl.out _).mono ?_
    rintro e w' ⟨rfl, rfl⟩
    go_wp2_with (with_reducible refine wpList_store_blk rfl 33 (.tmp 4) (.tmp 54) rfl w.heap.size [.int .u8 1, .bool neg, .bool neg, .string Sb, .int .i64 cl, .bool false, .slice none 0 0, .int .i64 0, .int .u64 0] rfl rfl 33 num0 (HR.out.below ((Below.refl _ _).alloc (Nat.le_refl _) _)) (by kernel_rfl) rfl rfl ?_)
    intro w8 hB hg8
    have hga := only_trans (only_alloc (World.grownBy.refl _ (some w.heap.size)) _) hg8
    have HS8 := vv (HSc.out.grown hga (fun k e => by cases e; exact fun e => HNe.out e.symm))
    have HG8 := vv (only_grown HGr.out hga (fun k e => by cases e; exact Nat.le_refl _))
    have HB8 := vv hB
    clear hB hg8 hga
    go_wp2
    obtain ⟨k0, k1, k2, k3, k4, k5, k6, k7, k8⟩ := HB8.out.num
    rw [HE2.out]
    exact bodyPost_ret (v := numV ⟨1, neg, neg, S, cl, false, 0, 0, 0⟩ none 0 0) (by simp [results, Tryz.results285, go_sem, k0, k1, k2, k3, k4, k5, k6, k7, k8, numV, HSe.out]) rfl ⟨none, 0, 0, rfl, Rd.nil _, Fr.none_ _, HS8.out, HG8.out⟩
end Go.Proofs.YtddaldghlinokaaGreatDoor.Scn
namespace Go.Proofs.YtddaldghlinokaaGreatDoor.Scn
open Go Go.RowKit R5 Rtp
set_option maxRecDepth 100000 in
set_option maxHeartbeats 2000000 in
theorem limbs (g o : Nat) (u : Int) (w : World) (h : IntAt w g o u) (sN : bl u.natAbs <= 4294967296) :
  Calls Tryz.prog 340 #[.pointer (some ⟨g, o, none⟩)] w fun e w' => ∃ A n, e = .returned (natV A n n) /\ Rd w' A n n (toL u.natAbs) /\ Fr w.heap.size A /\ Below w.heap.size w w' := by
 obtain ⟨w0, hw0⟩ := yx (w.alloc (.cells #[.slice none 0 0] 28))
 have b0 : Below w.heap.size w w0 := by rw [hw0]; exact (Below.refl _ w).alloc (Nat.le_refl _) _
 have c0 : NatCell w0 w.heap.size := by rw [hw0]; exact NatCell.made _ _
 have HBy := vv (A.Bytes g o u w0 (h.below b0) sN)
 have HWB := vv (words_bytes u.natAbs)
 obtain ⟨N, hN⟩ := yx (u.natAbs)
 rw [<- hN] at HBy HWB sN ⊢
 have HW0 := vv hw0
 have HB0 := vv b0
 have HC0 := vv c0
 have HSn := vv sN
 clear h hw0 b0 c0 sN hN
 go_enter Tryz.func340, Tryz.ntmps340
 go_wp2_with fail
 rw [<- HW0.out]
 refine HBy.out.mono ?_
 rintro e w1 ⟨B, m, rfl, hm, hBd, hB1⟩
 have HBd := vv hBd
 have HB1 := vv hB1
 have HC1 := vv (HC0.out.below hB1)
 have HL1 : Hid (w.heap.size < w1.heap.size) := vv HC1.out.lt
 obtain ⟨L, hL⟩ := yx ((m + 3) / 4)
 have HLw : Hid (L = words N) := vv (by rw [hL, hm]; exact HWB.out)
 have hmb : m <= 4294967296 := by have := HSn.out; omega
 have hLb : L <= 1099511627776 := by omega
 have hLi : (L : Int) <= 1099511627776 := by omega
 have hLq : ((m : Int) + 3) / 4 = (L : Int) := by omega
 have hmi : (m : Int) <= 4294967296 := by omega
 have hmk := A.mk L hLb
 have HL := vv hL
 have H1 : Hid (Own (w1.alloc (.cells (madeCells #[.int .u32 0] L) 34)) w1.heap.size 34 (List.replicate L 0)) := vv (Own.made w1 L 34)
 have H3 : Hid (Below w1.heap.size w1 (w1.alloc (.cells (madeCells #[.int .u32 0] L) 34))) := vv ((Below.refl _ w1).alloc (Nat.le_refl _) _)
 clear hBd hB1 hL hm
 go_wp2
 clear hLq
 go_loopw [17] (fun t wr => ∃ (i : Nat) (W : List Nat), t = .int .i64 i /\ i <= m /\ Own wr w1.heap.size 34 W /\ W.length = L /\ val W = hi N (m - i) /\ Below w1.heap.size w1 wr) (fun t _ => m - (intOf t).toNat)
 case atStart => exact ⟨0, List.replicate L 0, rfl, Nat.zero_le _, H1.out, List.length_replicate, by rw [val_replicate, Nat.sub_zero, hi_top HBd.out.lt], H3.out⟩
 case round =>
  obtain ⟨i, W, rfl, hil, hOwn, hlW, hvW, hB⟩ := hrel
  have HOwn := vv hOwn
  have HlW := vv hlW
  have HB := vv hB
  by_cases him : i < m
  ·obtain ⟨k, hk⟩ := yx (m - 1 - i)
   have hv1 : val W = hi N (k + 1) := by rw [hvW]; congr 1; omega
   have hki : (m : Int) - 1 - (i : Int) = (k : Int) := by omega
   obtain ⟨b, off, e, hbl, hcs⟩ := HBd.out.cell (by omega)
   subst e
   have hbc := (hB.cell (p := ⟨b, off + i, none⟩) hbl).trans (hcs i him)
   rw [<- hk] at hbc
   obtain ⟨q, hq⟩ := yx (k / 4)
   have hqL : q < L := by have := HL.out; omega
   have hqW : q < W.length := by omega
   have hq4 : (k : Int) / 4 = (q : Int) := by omega
   have hki2 : (k : Int) <= 4294967296 := by omega
   have hqLi : (q : Int) < (L : Int) := by omega
   obtain ⟨r, hr⟩ := yx (k % 4)
   have hr4 : (k : Int).tmod 4 = (r : Int) := by rw [Int.tmod_eq_emod_of_nonneg (by omega)]; omega
   have hwq : IntKind.i64.wrap (q : Int) = (q : Int) := by rw [IntKind.wrap_i64]; omega
   have hq0 : (0 : Int) <= (q : Int) := by omega
   obtain ⟨s1, s2, s3, s4⟩ := byte_step hOwn.2 hqW (show k = 4 * q + r by omega) (by omega) hv1
   have hwc := hOwn.cell hqW
   have hwf := hOwn.frozen q
   have hwl := hOwn.lt
   have HS := vv (hOwn.set (x := nth W q + bt N k * 256 ^ r) hqW s2 rfl)
   have hcl := bt_lt N k
   obtain ⟨C, hC⟩ := yx (bt N k)
   obtain ⟨x, hx⟩ := yx (nth W q)
   rw [<- hC, <- hx] at s1 s2 s4 HS
   rw [<- hC] at s3 hcl hbc
   rw [<- hx] at hwc
   have hwC : IntKind.u32.wrap (C : Int) = (C : Int) := by rw [IntKind.wrap_u32]; omega
   obtain ⟨D, hD⟩ := yx (C * 256 ^ r)
   rw [<- hD] at s1 s2 s3 s4 HS
   obtain ⟨s, hs⟩ := yx (8 * r)
   have hr8 : IntKind.i64.wrap (8 * (r : Int)) = (s : Int) := by rw [IntKind.wrap_i64]; omega
   have hs0 : (0 : Int) <= (s : Int) := by omega
   have hs32 : (s : Int) <= 32 := by omega
   have hsh : IntKind.u32.wrap ((C : Int) * 2 ^ s) = (D : Int) := by
    have e : (C : Int) * 2 ^ s = (D : Int) := by
     have e2 : (2 : Int) ^ s = ((256 ^ r : Nat) : Int) := by rw [hs, Int.natCast_pow, Int.pow_mul]; rfl
     rw [e2, hD, Int.natCast_mul]
    rw [e, IntKind.wrap_u32]; omega
   have HHi : Hid (hi N k = hi N (m - (i + 1))) := vv (by rw [hk]; congr 1; omega)
   have HS4 := vv s4
   clear hbl hcs hB hOwn hv1 hvW hlW hr hq hk hC hx hD hs s2 s3 s4
   go_wp2
   refine wp_region_sch (fun w' => w'.cell? ⟨w1.heap.size, q, none⟩ = some (.int .u32 (x : Int))) 13
    (.still 0 (.still 1 (.still 2 (.still 3 (.still 4 (.still 5 (.still 6 (.still 7 (.still 8 (.still 9 (.still 10 (.still 11 (.still 12 .done))))))))))))) (by kernel_rfl) (by kernel_rfl) (fun _ _ d _ _ h => by cases d <;> exact h) hwc (fun hS0 => ?_)
   iterate 13
    refine sch_still (v := ?_) rfl (by rfl) ?_ ?_
    rotate_left
    ·intro w hSw; go_simp; with_reducible rfl
    simp only [Act.put, List.setIfInBounds_toArray, List.set_cons_zero, List.set_cons_succ]
   refine sch_done ?_
   go_wp2
   go_roundw
   case rel => exact ⟨i + 1, W.set q (x + D), by go_num, by omega, HS.out, by rw [List.length_set]; exact HlW.out, HS4.out.trans HHi.out, (HB.out.drew).setCell (Nat.le_refl _) _⟩
   case measure => simp [intOf]; omega
  ·obtain rfl : i = m := by omega
   rw [Nat.sub_self, hi_zero] at hvW
   have HvW := vv hvW
   have hC9 := HC1.out.below hB
   have c1 := hC9.c0
   have l1 := hC9.lt
   have fz1 := hC9.fz
   have hil2 : (i : Int) <= (i : Int) := Int.le_refl _
   have HWe := vv (toL_of hOwn.2 hvW (by rw [hlW]; exact HLw.out))
   obtain ⟨w9, hw9⟩ := yx (wr.setCell ⟨w.heap.size, 0, none⟩ (.slice (some ⟨w1.heap.size, 0, none⟩) L L))
   have hcell : w9.cell? ⟨w.heap.size, 0, none⟩ = some (.slice (some ⟨w1.heap.size, 0, none⟩) L L) := by rw [hw9]; exact cell_eq c1
   have HR9 : Hid (Rd w9 (some ⟨w1.heap.size, 0, none⟩) L L (toL N)) := vv (by
    rw [<- HWe.out, hw9]
    exact (HOwn.out.setOther (by show w1.heap.size ≠ w.heap.size; have := HL1.out; omega) _).rd HlW.out.symm (Nat.le_refl _) hLb)
   have HB9 : Hid (Below w.heap.size w w9) := vv (by
    rw [hw9]
    exact (HB0.out.trans ((HB1.out.mono HB0.out.size).trans (HB.out.mono (by have := HL1.out; omega)))).setCell (Nat.le_refl _) _)
   have HW9 := vv hw9
   have HCl := vv hcell
   clear hOwn hvW hlW hB him hil hil2 hw9 hcell
   go_wp2
   rw [<- HW9.out]
   have hcell := HCl.out
   exact bodyPost_ret (v := natV (some ⟨w1.heap.size, 0, none⟩) L L) (by simp [results, Tryz.results340, go_sem, hcell]) rfl ⟨_, _, rfl, HR9.out, Fr.at_ (by show w.heap.size <= w1.heap.size; have := HL1.out; omega), HB9.out⟩
end Go.Proofs.YtddaldghlinokaaGreatDoor.Scn
