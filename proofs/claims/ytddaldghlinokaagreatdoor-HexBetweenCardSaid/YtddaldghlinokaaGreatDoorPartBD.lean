/- Lemmas. -/
import Derived.Test.YtddaldghlinokaaGreatDoorPartBC
import Derived.Test.YtddaldghlinokaaGreatDoorPartAW
import Derived.Deep.MidRow
import Derived.Test.YtddaldghlinokaaGreatDoorPartAJ
import Derived.Test.YtddaldghlinokaaGreatDoorPartAV
import Derived.Test.YtddaldghlinokaaGreatDoorPartAN
import Derived.Test.YtddaldghlinokaaGreatDoorPartAR
set_option linter.all false
namespace Go.Proofs.YtddaldghlinokaaGreatDoor
open Go Go.RowKit
theorem Fm.grown {g o : Nat} {w w' : World} (h : Fm g o w w') : w.grownBy w' (some g) := ⟨h.os, h.tape, h.output, h.size, fun i hi hne => h.block i hi (fun e => hne (by rw [e]))⟩
end Go.Proofs.YtddaldghlinokaaGreatDoor
namespace Go.Proofs.YtddaldghlinokaaGreatDoor.Scn
open Go Go.RowKit R5
theorem IntAt.of_blk {w : World} {g : Nat} {t : TypeId} (h : Blk w g t [.bool false, .slice none 0 0]) : IntAt w g 0 0 :=
 ⟨h.lt, ⟨false, h.cell 0⟩, h.fz, none, 0, 0, h.cell 0, h.cell 1, by
  have : toL (0 : Int).natAbs = [] := rfl
  rw [this]; exact Rd.nil _, fun a e => by cases e⟩
theorem Blk.alloc {w : World} {g : Nat} {t : TypeId} {cs : List Value} (h : Blk w g t cs) (o : Obj) : Blk (w.alloc o) g t cs := h.below ((Below.refl _ _).alloc (Nat.le_refl _) _)
theorem Blk.set {w : World} {g : Nat} {t : TypeId} {cs : List Value} (h : Blk w g t cs) (j : Nat) (v : Value) : Blk (w.setCell ⟨g, j, none⟩ v) g t (cs.set j v) := by
 unfold Blk
 have : w.heap[g]? = some (.cells cs.toArray t (0, 0)) := h
 simp [World.setCell, Array.getElem?_modify, this]
theorem wpList_load_blk {P : Program} {ops : Array Oper} {rest : List Oper} {o : Oper} {a : Act} {w : World} {Q : Exit -> Act -> World -> Prop} (hgd : o.guard = none) (ty : TypeId) (x : Operand) (ho : o.op = .load ty x)
  (g : Nat) (hx : a.eval x = .pointer (some ⟨g, 0, none⟩)) (t : TypeId) (cs : List Value) (d : TypeDesc) (hg : Blk w g t cs)
  (hu : P.underlying ty = some d) (hd : (match d with | .struct _ | .array _ _ => true | _ => false) = true) (hi : (P.info? ty).map (·.size) = some cs.length)
  (h : wpList P ops Q rest (a.put o.dst (.agg cs.toArray)) w) : wpList P ops Q (o :: rest) a w :=
 wpList_load_row hgd ty x ho g hx t cs.toArray (0, 0) d hg hu hd (by simpa using hi) h
theorem wpList_store_three {P : Program} {ops : Array Oper} {rest : List Oper} {op : Oper} {a : Act} {w : World} {Q : Exit -> Act -> World -> Prop} (hgd : op.guard = none) (ty : TypeId) (x y : Operand) (ho : op.op = .store ty x y)
  (b o : Nat) (v0 v1 v2 : Value) (hx : a.eval x = .pointer (some ⟨b, o, none⟩)) (hy : a.eval y = .agg #[v0, v1, v2])
  (t : TypeId) (cs : List Value) (hg : Blk w b t cs) (hl : o + 3 <= cs.length) (hi : (P.info? ty).map (·.size) = some 3) (h1 : v0.oneCell' = true /\ v1.oneCell' = true /\ v2.oneCell' = true)
  (h : ∀ w', Blk w' b t (((cs.set o v0).set (o + 1) v1).set (o + 2) v2) -> w.grownBy w' (some b) -> wpList P ops Q rest (a.put op.dst undef) w') : wpList P ops Q (op :: rest) a w := by
 refine wpList_store_mid hgd ty x y ho b o #[v0, v1, v2] hx hy (fun j hj => ⟨?_, hg.fz _⟩) hi (by simp [h1]) (h _ ?_ ?_)
 ·rw [hg.cell, List.getElem?_eq_getElem (by simp at hj; omega)]; rfl
 ·exact ((hg.set o v0).set (o + 1) v1).set (o + 2) v2
 ·exact only_setCell (only_setCell (only_setCell (World.grownBy.refl w (some b)) (p := ⟨b, o, none⟩) (.inl rfl) v0) (p := ⟨b, o + 1, none⟩) (.inl rfl) v1) (p := ⟨b, o + 2, none⟩) (.inl rfl) v2
def hfigs (L : List Nat) (k : Nat) : List Nat := (L.take k).map A.fig ++ L.drop k
theorem hfigs_all (L : List Nat) : hfigs L L.length = L.map A.fig := by unfold hfigs; rw [List.take_length, List.drop_length, List.append_nil]
theorem hfigs_nth (L : List Nat) (k : Nat) (h : k < L.length) : nth (hfigs L k) k = nth L k := by
 unfold hfigs nth
 rw [List.getD_eq_getElem?_getD, List.getD_eq_getElem?_getD, List.getElem?_append_right (by simp; omega), List.length_map, List.length_take, Nat.min_eq_left (by omega), Nat.sub_self, List.getElem?_drop, Nat.add_zero]
theorem hfigs_set (L : List Nat) (k : Nat) (h : k < L.length) : (hfigs L k).set k (A.fig (nth L k)) = hfigs L (k + 1) := by
 unfold hfigs
 rw [take_snoc' L k h, List.map_append, List.map_singleton, List.set_append_right _ _ (by simp; omega), List.length_map, List.length_take, Nat.min_eq_left (by omega), Nat.sub_self, List.append_assoc]
 congr 1
 rw [<- List.getElem_cons_drop h]
 rfl
theorem fig_lt {d : Nat} (h : d < 16) : A.fig d < 256 := by unfold A.fig; split <;> omega
theorem hexs_txt {L : List Nat} (h : ∀ d ∈ L, d < 16) : A.Hexs (txt (L.map A.fig)) L := by
 have hs : (txt (L.map A.fig)).size = L.length := by show (List.toArray _).size = _; simp
 refine ⟨hs, fun i hi => ?_, fun i => ?_⟩
 ·have hiL : i < L.length := by omega
  have e : (txt (L.map A.fig))[i]'hi = UInt8.ofNat (A.fig L[i]) := by
   show ((L.map A.fig).map UInt8.ofNat).toArray[i]'_ = _
   simp
  rw [e, UInt8.toNat_ofNat', Nat.mod_eq_of_lt (fig_lt (h _ (List.getElem_mem hiL))), List.getD_eq_getElem?_getD, List.getElem?_eq_getElem hiL]; rfl
 ·rw [List.getD_eq_getElem?_getD]
  rcases Nat.lt_or_ge i L.length with hi | hi
  ·rw [List.getElem?_eq_getElem hi]; exact h _ (List.getElem_mem hi)
  ·rw [List.getElem?_eq_none hi]; decide
def figT : ByteArray := ⟨#[48, 49, 50, 51, 52, 53, 54, 55, 56, 57, 97, 98, 99, 100, 101, 102]⟩
theorem figT_at : ∀ d : Fin 16, ∃ h : d.val < figT.size, (figT[d.val]'h).toNat = A.fig d.val := by decide
def HexInv (b : Nat) (L : List Nat) (v : St) (x : Value) (B Z : Nat) (w : World) (i : Value) (wr : World) : Prop :=
 ∃ q : Nat, q <= L.length /\ i = .int .i64 (q : Int) /\ wr.ownsRow B 5 1 x L.length (u8s (hfigs L q)) /\ ScAt wr b v /\ w.grownBy wr (some b) /\ Blk wr w.heap.size 33 num0 /\ Blk wr Z 209 [.bool false, .slice none 0 0] /\ B <= wr.heap.size
set_option maxRecDepth 100000 in
set_option maxHeartbeats 4000000 in
theorem hex (b : Nat) (s : St) (neg : Bool) (w : World) (h : ScAt w b s) (hg : Bg w) :
  Calls Tryz.prog 284 #[.pointer (some ⟨b, 0, none⟩), .bool neg] w (NumP b (s.hex neg).1 (s.hex neg).2 w) := by
 obtain ⟨L, k, u, hm⟩ : ∃ L k u, s.mantissa sixteen = (L, k, u) := ⟨_, _, _, rfl⟩
 obtain ⟨x, v, hx⟩ : ∃ x v, u.exponent [112] = (x, v) := ⟨_, _, rfl⟩
 have hxl := exponent_le u [112]
 rw [hx] at hxl
 try dsimp only at hxl
 have HE : Hid (s.hex neg = (if A.wv L = 0 then ⟨2, neg, false, [], 0, false, 0, 0, 0⟩ else ⟨2, neg, false, [], 0, neg, A.wv L / 2 ^ tz (A.wv L), clip (x - 4 * k + tz (A.wv L)), 0⟩, v)) := vv (by
  unfold St.hex
  rw [hm]
  dsimp only
  rw [hx]
  rfl)
 have HX := vv hxl
 have HM := vv hm
 have HXe := vv hx
 have HH := vv h
 have HG := vv hg
 have HL := vv h.lt
 have HMa := vv fun w h hg => mantissa 336 sixteen kind_sixteen b s w h hg
 rw [hm] at HMa
 replace HMa : Hid (∀ w, ScAt w b s -> Bg w -> Calls Tryz.prog 335 #[.pointer (some ⟨b, 0, none⟩), .func (.func 336) #[] #[]] w (MantPost b L k u w)) := HMa
 have HEx := vv fun w h hg => exponent b u ⟨#[112]⟩ w h hg (by decide)
 rw [show (⟨#[112]⟩ : ByteArray).data.toList = [112] from rfl, hx] at HEx
 replace HEx : Hid (∀ w, ScAt w b u -> Bg w -> Calls Tryz.prog 337 #[.pointer (some ⟨b, 0, none⟩), .string ⟨#[112]⟩] w (ScP b v (.int .i64 x) w)) := HEx
 clear hm hx hxl h hg
 go_enter Tryz.func284, Tryz.ntmps284
 go_wp2_with fail
 obtain ⟨w0, hw0⟩ := yx (w.alloc (.cells #[.int .u8 0, .bool false, .bool false, .string ⟨#[]⟩, .int .i64 0, .bool false, .slice none 0 0, .int .i64 0, .int .u64 0] 33))
 rw [<- hw0]
 have hg0 : w.grownBy w0 (some b) := by rw [hw0]; exact only_alloc (World.grownBy.refl w _) _
 have HR0 : Hid (Blk w0 w.heap.size 33 num0) := vv (by rw [hw0]; exact Blk.made w _ num0)
 have hsc0 : ScAt w0 b s := HH.out.grown (row := none) (by rw [hw0]; exact only_alloc (World.grownBy.refl w _) _) (fun k e => by cases e)
 have HBs : Hid (w0.heap.size = w.heap.size + 1) := vv (by rw [hw0]; simp)
 have HG0 := vv hg0
 have HNe : Hid (b ≠ w.heap.size) := vv (by have := HL.out; omega)
 have HM0 := vv (HMa.out w0 hsc0 (HG.out.grown hg0 HH.out))
 clear hg0 hsc0 hw0
 refine HM0.out.mono ?_
 rintro e w1 ⟨y, rfl, hrow, hsc, hgr, hle, hk, hsm⟩
 have HRow := vv hrow
 have HR1 := vv (HR0.out.grown hgr (fun e => HNe.out (by injection e)))
 have HG1 := vv (only_trans HG0.out hgr)
 have HSm := vv hsm
 have HE1 := vv (HEx.out w1 hsc (HG.out.grown HG1.out HH.out))
 have hs1 := hgr.size
 clear hrow hsc hgr hsm
 go_wp2_with fail
 refine HE1.out.mono ?_
 rintro e w2 ⟨rfl, hsc, hgr⟩
 obtain ⟨Aq, cap, hy⟩ := row8_any HRow.out
 subst hy
 have hxl1 := HX.out.1
 have hxl2 := HX.out.2
 have hki : (k : Int) <= 65536 := by omega
 have hLi : (L.length : Int) <= 131072 := by omega
 have hs2 := hgr.size
 obtain ⟨w3, hw3⟩ := yx (w2.alloc (.cells #[.bool false, .slice none 0 0] 209))
 have HRw2 := vv (row_only HRow.out hgr (by have := HBs.out; have := HL.out; omega))
 have HAg : Hid (∀ g, Aq = some ⟨g, 0, none⟩ -> g < w2.heap.size) := vv (fun g e => by
  subst e
  rcases HRw2.out.2 with ⟨h, _⟩ | ⟨g', cap', cur, hv, _, hg, _⟩
  ·cases h
  ·cases hv; exact (Array.getElem?_eq_some_iff.1 hg).1)
 have hb3 : Below w2.heap.size w2 w3 := by rw [hw3]; exact (Below.refl _ _).alloc (Nat.le_refl _) _
 have HD0 : Hid (HexInv b L v (.slice Aq L.length cap) w0.heap.size w2.heap.size w (.int .i64 0) w3) := vv ⟨0, Nat.zero_le _, rfl, row_keep HRw2.out (fun g _ hs => hb3.block g hs), hsc.below hb3 hsc.lt, only_trans (only_trans HG1.out hgr) (only_of_below hb3 _), (HR1.out.grown hgr (fun e => HNe.out (by injection e))).below hb3, by rw [hw3]; exact Blk.made w2 _ [.bool false, .slice none 0 0], by have := hb3.size; omega⟩
 have HW3 := vv hw3
 clear hsc hgr hb3 hw3
 go_wp2
 rw [<- HW3.out]
 go_loopw [27] (fun i wr => HexInv b L v (.slice Aq L.length cap) w0.heap.size w2.heap.size w i wr) (fun i _ => L.length - (intOf i).toNat)
 case atStart => exact HD0.out
 case round =>
  clear HD0
  obtain ⟨q, hq, rfl, hrow, hsc, hgr, hR, hZ, hBs⟩ := hrel
  have HR := vv hR
  have HZ := vv hZ
  have HRw := vv hrow
  have HSc := vv hsc
  have HGr := vv hgr
  have HBq := vv hBs
  clear hsc hgr hR hBs hZ
  by_cases hql : q < L.length
  ·obtain ⟨g, cap', e, hgb⟩ := row8_slice hrow (by omega)
   cases e
   obtain ⟨r1, r2, r3, r4⟩ := row8_cell hrow hql
   rw [hfigs_nth L q hql] at r1
   have hd16 : nth L q < 16 := HSm.out _ (nth_mem hql)
   obtain ⟨d, hd⟩ := yx (nth L q)
   obtain ⟨f, hf⟩ := yx (A.fig d)
   have hdi : (d : Int) <= 15 := by omega
   have HS := vv (row8_set hrow q (A.fig (nth L q)))
   rw [hfigs_set L q hql, <- hd, <- hf] at HS
   rw [<- hd] at r1 hd16
   obtain ⟨hin, hfv⟩ := figT_at ⟨d, hd16⟩
   have hqi : (q : Int) < (L.length : Int) := by omega
   have hgne : g ≠ b /\ g ≠ w.heap.size /\ g ≠ w2.heap.size := by have := HBs.out; have := HL.out; have := HAg.out g rfl; omega
   have hset := only_setCell (World.grownBy.refl wr (some g)) (p := ⟨g, q, none⟩) (.inl rfl) (.int .u8 (f : Int))
   have HSc2 := vv (HSc.out.grown hset (fun k e => by cases e; exact hgne.1))
   have HR2 := vv (HR.out.grown hset (fun e => hgne.2.1 (by injection e)))
   have HZ2 := vv (HZ.out.grown hset (fun e => hgne.2.2 (by injection e)))
   have HG2 := vv (only_grown HGr.out hset (fun k e => by cases e; have := HBs.out; omega))
   have hsz := hset.size
   have HFe : Hid (((⟨#[48, 49, 50, 51, 52, 53, 54, 55, 56, 57, 97, 98, 99, 100, 101, 102]⟩ : ByteArray)[d]'hin).toNat = f) := vv (hfv.trans hf.symm)
   clear hrow hd hf hfv hset hgne
   go_wp2
   go_roundw
   case rel => erw [HFe.out]; exact ⟨q + 1, by omega, by go_num, HS.out, HSc2.out, HG2.out, HR2.out, HZ2.out, by omega⟩
   case measure => simp [intOf]; omega
  ·have hqe : q = L.length := by omega
   subst hqe
   rw [hfigs_all] at HRw
   have hconv : ∀ o, (convert 149 9 (.slice Aq L.length cap)).run Tryz.prog (wr.alloc o) = .ok (.string (txt (L.map A.fig))) (wr.alloc o) := fun o => row_string (row_keep HRw.out fun g _ hs => Below.heap_alloc wr o g hs) (fun y hy => by
    obtain ⟨d, hd, rfl⟩ := List.mem_map.1 hy
    exact fig_lt (HSm.out d hd))
   obtain ⟨t, ht⟩ := yx (txt (L.map A.fig))
   have hts : t.size = L.length := by rw [ht]; show (List.toArray _).size = _; simp
   rw [<- ht] at hconv
   obtain ⟨w4, hw4⟩ := yx (wr.alloc (.cells #[.int .u8 2, .bool neg, .bool false, .string ⟨#[]⟩, .int .i64 0, .bool false, .slice none 0 0, .int .i64 0, .int .u64 0] 33))
   have hb4 : Below wr.heap.size wr w4 := by rw [hw4]; exact (Below.refl _ _).alloc (Nat.le_refl _) _
   have HN4 : Hid (Blk w4 wr.heap.size 33 [.int .u8 2, .bool neg, .bool false, .string ⟨#[]⟩, .int .i64 0, .bool false, .slice none 0 0, .int .i64 0, .int .u64 0]) := vv (by rw [hw4]; exact Blk.made wr _ [.int .u8 2, .bool neg, .bool false, .string ⟨#[]⟩, .int .i64 0, .bool false, .slice none 0 0, .int .i64 0, .int .u64 0])
   have HR4 := vv (HR.out.below hb4)
   have HZ4 := vv (HZ.out.below hb4)
   have HSc4 := vv (HSc.out.below hb4 HSc.out.lt)
   have HG4 := vv (only_trans HGr.out (only_of_below hb4 _))
   have hRlt := HR.out.lt
   have hZlt := HZ.out.lt
   have hcv := hconv (.cells #[.int .u8 2, .bool neg, .bool false, .string ⟨#[]⟩, .int .i64 0, .bool false, .slice none 0 0, .int .i64 0, .int .u64 0] 33)
   have HW4 := vv hw4
   have HT := vv ht
   clear hrow hb4 hw4 ht hconv
   by_cases hL0 : L.length = 0
   ·have hLn : L = [] := List.eq_nil_of_length_eq_zero hL0
    have HE2 : Hid (s.hex neg = (⟨2, neg, false, [], 0, false, 0, 0, 0⟩, v)) := vv (by rw [HE.out, if_pos (by rw [hLn]; rfl)])
    obtain rfl : t = ⟨#[]⟩ := ByteArray.ext (Array.eq_empty_of_size_eq_zero (by rw [<- hL0, <- hts]; rfl))
    have HSS := vv fun g w => A.SetString_nil g 0 w
    subst hLn
    simp only [List.length_nil] at hcv
    clear hts hL0
    go_wp2_with fail
    refine (HSS.out _ _).mono ?_
    rintro e w' ⟨rfl, rfl⟩
    rw [<- HW4.out]
    go_wp2_with (with_reducible first
     | refine wpList_store_blk rfl 33 (.tmp 4) (.tmp 55) rfl w.heap.size [.int .u8 2, .bool neg, .bool false, .string ⟨#[]⟩, .int .i64 0, .bool false, .slice none 0 0, .int .i64 0, .int .u64 0] rfl rfl 33 num0 HR4.out (by kernel_rfl) rfl rfl ?_
     | refine wpList_load_blk rfl 33 (.tmp 10) rfl wr.heap.size rfl 33 _ _ HN4.out Tryz.underlying33 rfl (by kernel_rfl) ?_)
    intro w8 hB hg8
    have HS8 := vv (HSc4.out.grown hg8 (fun k e => by cases e; exact fun e => HNe.out e.symm))
    have HG8 := vv (only_grown HG4.out hg8 (fun k e => by cases e; exact Nat.le_refl _))
    have HB8 := vv hB
    clear hB hg8
    go_wp2
    rw [HE2.out]
    exact bodyPost_ret (results_cell_row rfl _ _ _ _ _ _ _ rfl HB8.out Tryz.underlying33 rfl (by kernel_rfl)) rfl ⟨none, 0, 0, rfl, Rd.nil _, Fr.none_ _, HS8.out, HG8.out⟩
   ·have hhx : A.Hexs t L := by rw [HT.out]; exact hexs_txt HSm.out
    have h0t : 0 < t.size := by omega
    have hbl : bl (A.wv L) <= 4 * L.length := bl_le (by rw [Nat.pow_mul]; exact A.wv_lt hhx.mem)
    have HSS := vv (A.SetString w2.heap.size 0 0 t L w4 (IntAt.of_blk HZ4.out) hhx h0t (by omega))
    have HBl : Hid (bl (A.wv L) <= 524288) := vv (Nat.le_trans hbl (by omega))
    have hZR : w2.heap.size ≠ w.heap.size /\ w2.heap.size ≠ wr.heap.size /\ w2.heap.size ≠ b := by have := HBs.out; have := HL.out; omega
    have HZR := vv hZR
    obtain ⟨U, hU⟩ := yx (A.wv L)
    rw [<- hU] at HE HSS HBl
    clear hts hhx h0t hbl hL0 hU hZR
    go_wp2_with fail
    rw [<- HW4.out]
    refine HSS.out.mono ?_
    rintro e w5 ⟨rfl, hI, hFm⟩
    have hgf := hFm.grown
    have HI5 := vv hI
    have HR5 := vv (HR4.out.grown hgf (fun e => HZR.out.1 (by injection e)))
    have HN5 := vv (HN4.out.grown hgf (fun e => HZR.out.2.1 (by injection e)))
    have HSc5 := vv (HSc4.out.grown hgf (fun k e => by cases e; exact HZR.out.2.2))
    have HG5 := vv (only_grown HG4.out hgf (fun k e => by cases e; have := HBs.out; omega))
    have HSg := vv (A.Sign w2.heap.size 0 (U : Int) w5 hI)
    obtain ⟨sg, hsg⟩ := yx ((U : Int).sign)
    rw [<- hsg] at HSg
    clear hI hFm hgf
    by_cases hU0 : U = 0
    ·have t1 : (sg == 0) = true := by rw [hsg, hU0]; rfl
     have HE2 : Hid (s.hex neg = (⟨2, neg, false, [], 0, false, 0, 0, 0⟩, v)) := vv (by rw [HE.out, if_pos hU0])
     clear hU0 hsg
     go_wp2_with fail
     refine HSg.out.mono ?_
     rintro e w6 ⟨rfl, rfl⟩
     go_wp2_with (with_reducible first
      | refine wpList_store_blk rfl 33 (.tmp 4) (.tmp 55) rfl w.heap.size [.int .u8 2, .bool neg, .bool false, .string ⟨#[]⟩, .int .i64 0, .bool false, .slice none 0 0, .int .i64 0, .int .u64 0] rfl rfl 33 num0 HR5.out (by kernel_rfl) rfl rfl ?_
      | refine wpList_load_blk rfl 33 (.tmp 10) rfl wr.heap.size rfl 33 _ _ HN5.out Tryz.underlying33 rfl (by kernel_rfl) ?_)
     intro w8 hB hg8
     have HS8 := vv (HSc5.out.grown hg8 (fun k e => by cases e; exact fun e => HNe.out e.symm))
     have HG8 := vv (only_grown HG5.out hg8 (fun k e => by cases e; exact Nat.le_refl _))
     have HB8 := vv hB
     clear hB hg8
     go_wp2
     rw [HE2.out]
     exact bodyPost_ret (results_cell_row rfl _ _ _ _ _ _ _ rfl HB8.out Tryz.underlying33 rfl (by kernel_rfl)) rfl ⟨none, 0, 0, rfl, Rd.nil _, Fr.none_ _, HS8.out, HG8.out⟩
    ·have t1 : (sg == 0) = false := by rw [hsg, Int.sign_eq_one_of_pos (by omega)]; rfl
     obtain ⟨Z, hZ⟩ := yx (tz U)
     have hzb := HBl.out
     have hz1 := tz_lt_bl (n := U) (by omega)
     rw [<- hZ] at hz1
     have hzi : (Z : Int) <= 524288 := by omega
     have HT := vv (A.TrailingZeroBits w2.heap.size 0 (U : Int) w5 HI5.out (by omega) (HG.out.grown HG5.out HH.out).std)
     rw [Int.natAbs_natCast, <- hZ] at HT
     have HSh := vv (A.Rsh w2.heap.size 0 w2.heap.size 0 Z (U : Int) (U : Int) w5 HI5.out HI5.out (by omega) (by omega))
     have hUe : (U : Int) / 2 ^ Z = ((U / 2 ^ Z : Nat) : Int) := by rw [Int.natCast_ediv, Int.natCast_pow]; rfl
     rw [hUe] at HSh
     have HE2 : Hid (s.hex neg = (⟨2, neg, false, [], 0, neg, U / 2 ^ Z, clip (x - 4 * k + Z), 0⟩, v)) := vv (by rw [HE.out, if_neg hU0, <- hZ])
     have HMb : Hid (bl (U / 2 ^ Z) <= 524288) := vv (Nat.le_trans (bl_mono (Nat.div_le_self _ _)) HBl.out)
     obtain ⟨M, hM⟩ := yx (U / 2 ^ Z)
     rw [<- hM] at HSh HE2 HMb
     clear hU0 hsg hZ hUe hM hzb hz1
     go_wp2_with fail
     refine HSg.out.mono ?_
     rintro e w6 ⟨rfl, rfl⟩
     go_wp2_with fail
     refine HT.out.mono ?_
     rintro e w6 ⟨rfl, rfl⟩
     go_wp2_with fail
     refine HSh.out.mono ?_
     rintro e w6 ⟨rfl, hI, hFm⟩
     have hgf := hFm.grown
     have HR6 := vv (HR5.out.grown hgf (fun e => HZR.out.1 (by injection e)))
     have HN6 := vv (HN5.out.grown hgf (fun e => HZR.out.2.1 (by injection e)))
     have HSc6 := vv (HSc5.out.grown hgf (fun k e => by cases e; exact HZR.out.2.2))
     have HG6 := vv (only_grown HG5.out hgf (fun k e => by cases e; have := HBs.out; omega))
     have HLi := vv (limbs w2.heap.size 0 (M : Int) w6 hI (by rw [Int.natAbs_natCast]; have := HMb.out; omega))
     rw [Int.natAbs_natCast] at HLi
     clear hI hFm hgf
     go_wp2_with fail
     refine HLi.out.mono ?_
     rintro e w7 ⟨Am, n, rfl, hRd, hFr, hB7⟩
     have HRd := vv hRd
     have HFr := vv hFr
     have HR7 := vv (HR6.out.below hB7)
     have HN7 := vv (HN6.out.below hB7)
     have HSc7 := vv (HSc6.out.below hB7 HSc6.out.lt)
     have HG7 := vv (only_trans HG6.out (only_of_below hB7 _))
     obtain ⟨cl, hcl⟩ := yx (clip (x - 4 * (k : Int) + (Z : Int)))
     have HCl := vv fun w => clip_ (x - 4 * (k : Int) + (Z : Int)) w
     rw [<- hcl] at HE2 HCl
     clear hRd hFr hB7 hcl
     go_wp2_with fail
     refine (HCl.out _).mono ?_
     rintro e w8 ⟨rfl, rfl⟩
     have HFN : Hid (∀ a, Am = some a -> a.block ≠ wr.heap.size) := vv (fun a e => by have := (HFr.out a e).1; have := HN6.out.lt; omega)
     have HFR : Hid (∀ a, Am = some a -> a.block ≠ w.heap.size) := vv (fun a e => by have := (HFr.out a e).1; have := HR6.out.lt; omega)
     have HNR : Hid (wr.heap.size ≠ w.heap.size /\ wr.heap.size ≠ b /\ w.heap.size <= wr.heap.size) := vv (by have := HL.out; have := HSc.out.lt; omega)
     go_wp2_with (refine wpList_store_three rfl 30 (.tmp 71) (.tmp 70) rfl wr.heap.size 5 (.bool neg) (.slice Am n n) (.int .i64 cl) rfl rfl 33 _ HN7.out (Nat.le_of_ble_eq_true rfl) (by kernel_rfl) ⟨rfl, rfl, rfl⟩ ?_)
     intro w9 hB9 hg9
     have HN9 : Hid (Blk w9 wr.heap.size 33 [.int .u8 2, .bool neg, .bool false, .string ⟨#[]⟩, .int .i64 0, .bool neg, .slice Am n n, .int .i64 cl, .int .u64 0]) := vv hB9
     have HR9 := vv (HR7.out.grown hg9 (fun e => HNR.out.1 (by injection e)))
     have HSc9 := vv (HSc7.out.grown hg9 (fun k e => by cases e; exact HNR.out.2.1))
     have HG9 := vv (only_grown HG7.out hg9 (fun k e => by cases e; exact HNR.out.2.2))
     have HRd9 := vv (HRd.out.only hg9 HFN.out)
     clear hB9 hg9
     go_wp2_with (with_reducible first
      | refine wpList_store_blk rfl 33 (.tmp 4) (.tmp 72) rfl w.heap.size [.int .u8 2, .bool neg, .bool false, .string ⟨#[]⟩, .int .i64 0, .bool neg, .slice Am n n, .int .i64 cl, .int .u64 0] rfl rfl 33 num0 HR9.out (by kernel_rfl) rfl rfl ?_
      | refine wpList_load_blk rfl 33 (.tmp 10) rfl wr.heap.size rfl 33 _ _ HN9.out Tryz.underlying33 rfl (by kernel_rfl) ?_)
     intro w8 hB hg8
     have HS8 := vv (HSc9.out.grown hg8 (fun k e => by cases e; exact fun e => HNe.out e.symm))
     have HG8 := vv (only_grown HG9.out hg8 (fun k e => by cases e; exact Nat.le_refl _))
     have HB8 := vv hB
     have HRd8 := vv (HRd9.out.only hg8 HFR.out)
     have HFr8 := vv (HFr.out.mono (Nat.le_of_lt HR6.out.lt))
     clear hB hg8
     go_wp2
     rw [HE2.out]
     exact bodyPost_ret (results_cell_row rfl _ _ _ _ _ _ _ rfl HB8.out Tryz.underlying33 rfl (by kernel_rfl)) rfl ⟨Am, n, n, rfl, HRd8.out, HFr8.out, HS8.out, HG8.out⟩
end Go.Proofs.YtddaldghlinokaaGreatDoor.Scn
namespace Go.Proofs.YtddaldghlinokaaGreatDoor.Pnt
open Go Go.RowKit R5 Scn
theorem nat_ok {w : World} {A : Option Addr} {n c N : Nat} (h : Rd w A n c (toL N)) (hn : n <= 16384) : Nat_.natErr n (toL N) = 0 := Nat_.natErr_ok (natOk_toL h hn)
theorem Check_ok {A : Option Addr} {n c N : Nat} {w : World} (h : Rd w A n c (toL N)) (hn : n <= 16384) :
  Calls Tryz.prog 138 #[natV A n c] w fun e w' => e = .returned (.int .i64 0) /\ Below w.heap.size w w' := by
 have := Nat_.Check A n c _ w h
 rwa [nat_ok h hn] at this
set_option maxHeartbeats 1000000 in
theorem Bits (A : Option Addr) (n c N : Nat) (w : World) (ha : Rd w A n c (toL N)) (hn : n <= 16384) :
  Calls Tryz.prog 54 #[natV A n c] w fun e w' => e = .returned (.tuple #[.int .i64 ((bl N : Nat) : Int), .int .i64 0]) /\ Below w.heap.size w w' := by
 have hb : Below w.heap.size w (w.alloc (.cells #[.slice A n c] 28)) := (Below.refl _ _).alloc (Nat.le_refl _) _
 have hQ : Blk (w.alloc (.cells #[.slice A n c] 28)) w.heap.size 28 [.slice A n c] := Blk.made w 28 [.slice A n c]
 have HC := vv (Check_ok (ha.below hb rfl) hn)
 have HB := vv hb
 have HQ := vv hQ
 have hni : (n : Int) <= 16384 := by omega
 have hw := ha.words
 rcases Nat.eq_zero_or_pos n with rfl | hpos
 ·have h0 : N = 0 := words_eq_zero.1 hw
  subst h0
  clear hb hQ hw hn ha
  go_enter Tryz.func54, Tryz.ntmps54
  go_wp2_with fail
  refine HC.out.mono ?_
  rintro e w1 ⟨rfl, hB⟩
  have c0 := (HQ.out.below hB).cell 0
  have cl := (HQ.out.below hB).lt
  simp only [List.getElem?_cons_zero] at c0
  have HB1 := vn HB hB
  clear hB
  go_wp2
  go_ret2
  exact ⟨rfl, HB1.out⟩
 ·have h0 : 0 < N := by
   rcases Nat.eq_zero_or_pos N with h | h
   ·subst h; rw [words_zero] at hw; omega
   ·exact h
  obtain ⟨e1, _⟩ := bl_words h0
  rw [hw] at e1
  obtain ⟨m, rfl⟩ : ∃ m, n = m + 1 := ⟨n - 1, by omega⟩
  rw [Nat.add_sub_cancel] at e1
  obtain ⟨b, off, rfl, hbl, hc⟩ := ha.cell (by omega)
  have hx := hc m (by omega)
  have hl := ha.nth_lt m
  have HLz := vv fun w => Go.Proofs.YtddaldghlinokaaGreatDoor.A.lz32 (nth (toL N) m) w hl
  have hbl32 : bl (nth (toL N) m) <= 32 := bl_le (by omega)
  obtain ⟨y, hy⟩ := yx (nth (toL N) m)
  obtain ⟨L, hL⟩ := yx (bl y)
  rw [<- hy] at hx HLz hbl32 e1
  rw [<- hL] at HLz hbl32 e1
  have E1 : Hid (((bl N : Nat) : Int) = 32 * ((m : Int) + 1) - ((32 - L : Nat) : Int)) := vv (by rw [e1]; omega)
  have hz : ((32 - L : Nat) : Int) <= 32 := by omega
  have hm0 : ((m : Int) + 1 == 0) = false := by rw [beq_eq_false_iff_ne]; omega
  have hmi : (m : Int) <= 16383 := by omega
  obtain ⟨Z, hZ⟩ := yx (32 - L)
  rw [<- hZ] at HLz E1 hz
  have HX := vv hx
  have HBl := vv hbl
  clear hb hQ hw hn ha h0 e1 hc hl hbl32 hy hL hZ hx hbl hni
  go_enter Tryz.func54, Tryz.ntmps54
  go_wp2_with fail
  refine HC.out.mono ?_
  rintro e w1 ⟨rfl, hB⟩
  have c0 := (HQ.out.below hB).cell 0
  have cl := (HQ.out.below hB).lt
  simp only [List.getElem?_cons_zero] at c0
  have HB1 := vn HB hB
  have hx := (HB1.out.cell (p := ⟨b, off + m, none⟩) HBl.out).trans HX.out
  clear hB
  go_wp2_with fail
  refine (HLz.out _).mono ?_
  rintro e w' ⟨rfl, rfl⟩
  go_wp2
  go_ret2
  rw [E1.out]
  exact ⟨rfl, HB1.out⟩
theorem bit_high {N n i : Nat} (h : N < 4294967296 ^ n) (hi : n <= i / 32) : N / 2 ^ i % 2 = 0 := by
 rw [pow32] at h
 have h2 : 2 ^ (32 * n) <= 2 ^ i := Nat.pow_le_pow_right (by decide) (by omega)
 rw [Nat.div_eq_of_lt (by omega)]
set_option maxHeartbeats 1000000 in
theorem Bit (A : Option Addr) (n c N i : Nat) (w : World) (ha : Rd w A n c (toL N)) (hn : n <= 16384) (hi : i <= 1048576) :
  Calls Tryz.prog 142 #[natV A n c, .int .i64 (i : Int)] w fun e w' => e = .returned (.tuple #[.bool (N / 2 ^ i % 2 == 1), .int .i64 0]) /\ Below w.heap.size w w' := by
 have hb : Below w.heap.size w (w.alloc (.cells #[.slice A n c] 28)) := (Below.refl _ _).alloc (Nat.le_refl _) _
 have hQ : Blk (w.alloc (.cells #[.slice A n c] 28)) w.heap.size 28 [.slice A n c] := Blk.made w 28 [.slice A n c]
 have HC := vv (Check_ok (ha.below hb rfl) hn)
 have HB := vv hb
 have HQ := vv hQ
 have hni : (n : Int) <= 16384 := by omega
 have hii : (i : Int) <= 1048576 := by omega
 obtain ⟨q, hq⟩ := yx (i / 32)
 obtain ⟨s, hs⟩ := yx (i % 32)
 have hqi : (i : Int) / 32 = (q : Int) := by omega
 have hsi : (i : Int) % 32 = (s : Int) := by omega
 have hs31 : (s : Int) <= 31 := by omega
 have hq2 : (q : Int) <= 32768 := by omega
 by_cases hqn : n <= q
 ·have HE : Hid ((N / 2 ^ i % 2 == 1) = false) := vv (by
   have h := ha.lt
   rw [val_toL] at h
   rw [bit_high h (by omega)]; rfl)
  have t1 : (n : Int) <= (q : Int) := by omega
  clear hb hQ hn ha hq hs hqn hi
  go_enter Tryz.func142, Tryz.ntmps142
  go_wp2_with fail
  refine HC.out.mono ?_
  rintro e w1 ⟨rfl, hB⟩
  have c0 := (HQ.out.below hB).cell 0
  have cl := (HQ.out.below hB).lt
  simp only [List.getElem?_cons_zero] at c0
  have HB1 := vn HB hB
  clear hB
  go_wp2
  go_ret2
  rw [HE.out]
  exact ⟨rfl, HB1.out⟩
 ·obtain ⟨b, off, rfl, hbl, hc⟩ := ha.cell (by omega)
  have hx := hc q (by omega)
  have hl := ha.nth_lt q
  have hbit := and_one_eq (nth (toL N) q) s hl
  have hnb := nth_bit N i
  rw [<- hq, <- hs] at hnb
  rw [hnb] at hbit
  obtain ⟨y, hy⟩ := yx (nth (toL N) q)
  rw [<- hy] at hx hbit
  obtain ⟨v, hv⟩ := yx ((N / 2 ^ i % 2 == 1))
  have hd : decide (N / 2 ^ i % 2 = 1) = v := by
   rw [hv]
   rcases Nat.mod_two_eq_zero_or_one (N / 2 ^ i) with e | e <;> rw [e] <;> rfl
  rw [hd] at hbit
  rw [<- hv]
  have t1 : (q : Int) < (n : Int) := by omega
  have hsp : ((2 : Int) ^ s) = ((2 ^ s : Nat) : Int) := by rw [Int.natCast_pow]; rfl
  have HX := vv hx
  have HBl := vv hbl
  have HBit := vv hbit
  clear hb hQ hn ha hq hs hqn hi hc hl hnb hy hv hd hx hbl hsp hbit
  go_enter Tryz.func142, Tryz.ntmps142
  go_wp2_with fail
  refine HC.out.mono ?_
  rintro e w1 ⟨rfl, hB⟩
  have c0 := (HQ.out.below hB).cell 0
  have cl := (HQ.out.below hB).lt
  simp only [List.getElem?_cons_zero] at c0
  have HB1 := vn HB hB
  have hx := (HB1.out.cell (p := ⟨b, off + q, none⟩) HBl.out).trans HX.out
  clear hB
  have hbit := HBit.out
  go_wp2
  go_ret2
  exact ⟨rfl, HB1.out⟩
def NatP (N : Nat) (w : World) (e : Ending) (w' : World) : Prop :=
 ∃ A m, e = .returned (.tuple #[natV A m m, .int .i64 0]) /\ Rd w' A m m (toL N) /\ Fr w.heap.size A /\ Below w.heap.size w w'
set_option maxRecDepth 100000 in
set_option maxHeartbeats 2000000 in
theorem Down (A : Option Addr) (n c N k : Nat) (w : World) (ha : Rd w A n c (toL N)) (hn : n <= 16384) (hk : k <= 1048576) :
  Calls Tryz.prog 72 #[natV A n c, .int .i64 (k : Int)] w (NatP (N / 2 ^ k) w) := by
 obtain ⟨w0, hw0⟩ := yx ((w.alloc (.cells #[.slice A n c] 28)).alloc (.cells #[.slice none 0 0] 28))
 have hb : Below w.heap.size w w0 := by rw [hw0]; exact ((Below.refl _ _).alloc (Nat.le_refl _) _).alloc (by simp) _
 have hQ : Blk w0 w.heap.size 28 [.slice A n c] := by rw [hw0]; exact (Blk.made w 28 [.slice A n c]).alloc _
 have hR : Blk w0 (w.heap.size + 1) 28 [.slice none 0 0] := by
  rw [hw0]
  have := Blk.made (w.alloc (.cells #[.slice A n c] 28)) 28 [.slice none 0 0]
  rwa [World.size_alloc] at this
 have HC := vv (Check_ok (ha.below hb rfl) hn)
 have HB := vv hb
 have HQ := vv hQ
 have HR := vv hR
 have HW := vv hw0
 have hni : (n : Int) <= 16384 := by omega
 have hii : (k : Int) <= 1048576 := by omega
 obtain ⟨q, hq⟩ := yx (k / 32)
 obtain ⟨s, hs⟩ := yx (k % 32)
 have hqi : (k : Int) / 32 = (q : Int) := by omega
 have hsi : (k : Int) % 32 = (s : Int) := by omega
 have hs31 : (s : Int) <= 31 := by omega
 have hq2 : (q : Int) <= 32768 := by omega
 have hks : k = 32 * q + s := by omega
 by_cases hqn : n <= q
 ·have HE : Hid (N / 2 ^ k = 0) := vv (by
   have h := ha.lt
   rw [val_toL, pow32] at h
   have h2 : 2 ^ (32 * n) <= 2 ^ k := Nat.pow_le_pow_right (by decide) (by omega)
   exact Nat.div_eq_of_lt (by omega))
  have t1 : (n : Int) <= (q : Int) := by omega
  clear hb hQ hR hw0 hn ha hq hs hqn hk hks
  go_enter Tryz.func72, Tryz.ntmps72
  go_wp2_with fail
  rw [<- HW.out]
  refine HC.out.mono ?_
  rintro e w1 ⟨rfl, hB⟩
  have c0 := (HQ.out.below hB).cell 0
  have cl := (HQ.out.below hB).lt
  have d0 := (HR.out.below hB).cell 0
  have df := (HR.out.below hB).fz 0
  have dl := (HR.out.below hB).lt
  simp only [List.getElem?_cons_zero] at c0 d0
  have HB1 := vn HB hB
  clear hB
  have HB9 := vv (HB1.out.setCell (p := ⟨w.heap.size + 1, 0, none⟩) (Nat.le_succ _) (.slice none 0 0))
  have hk0 : (w1.setCell ⟨w.heap.size + 1, 0, none⟩ (.slice none 0 0)).cell? ⟨w.heap.size + 1, 0, none⟩ = some (.slice none 0 0) := cell_eq d0
  have HK := vv hk0
  clear hk0
  go_wp2
  have hk0 := HK.out
  rw [HE.out]
  exact bodyPost_ret (v := .tuple #[natV none 0 0, .int .i64 0]) (by simp [results, Tryz.results72, go_sem, hk0]) rfl ⟨none, 0, rfl, Rd.nil _, Fr.none_ _, HB9.out⟩
 ·have hv : val ((toL N).drop q) = N / 4294967296 ^ q := by rw [<- val_div_pow ha.lim, val_toL]
  have HE : Hid (val ((toL N).drop q) / 2 ^ s = N / 2 ^ k) := vv (by rw [hv, Nat.div_div_eq_div_mul, pow32, <- Nat.pow_add, <- hks])
  obtain ⟨b, off, rfl, hbl, hc⟩ := ha.cell (by omega)
  have t1 : (q : Int) < (n : Int) := by omega
  have HD := vv fun w' (h : Rd w' (some ⟨b, off, none⟩) n c (toL N)) => lowered _ _ _ _ s w' (h.drop (k := q) (by omega)) (by omega) (by omega)
  have hle : (n : Int) <= (c : Int) := by have := ha.le; omega
  have hnq : ((n - q : Nat) : Int) = (n : Int) - (q : Int) := by omega
  have hcq : ((c - q : Nat) : Int) = (c : Int) - (q : Int) := by have := ha.le; omega
  have HA := vv (ha.below hb rfl)
  clear hb hQ hR hw0 hn ha hq hs hqn hk hks hv hc hbl
  go_enter Tryz.func72, Tryz.ntmps72
  go_wp2_with fail
  rw [<- HW.out]
  refine HC.out.mono ?_
  rintro e w1 ⟨rfl, hB⟩
  have c0 := (HQ.out.below hB).cell 0
  have cl := (HQ.out.below hB).lt
  simp only [List.getElem?_cons_zero] at c0
  have HR1 := vv (HR.out.below hB)
  have HA1 := vv (HA.out.below hB rfl)
  have HB1 := vn HB hB
  clear hB
  go_wp2_with fail
  refine (HD.out _ HA1.out).mono ?_
  rintro e w3 ⟨V, rfl, hO, hVl, hVv, hB⟩
  have hs1 := hB.size
  have hs0 := HR1.out.lt
  have HR3 := vv (HR1.out.below hB)
  have HB3 := vn HB1 hB
  have HT := vv (Nat_.trimmed _ (n - q) (n - q) V w3 (hO.rd hVl.symm (Nat.le_refl _) (by omega)))
  rw [hVv, HE.out] at HT
  clear hO hVl hVv hB
  go_wp2_with fail
  refine HT.out.mono ?_
  rintro e w4 ⟨A4, m, rfl, hR4, hA4, hB4⟩
  have HFr : Hid (Fr (w.heap.size + 2) A4) := vv (fun a e => by have h := hA4 a e; cases h; exact ⟨by show w.heap.size + 2 <= w1.heap.size; omega, rfl⟩)
  have HR4 := vv (HR3.out.below hB4)
  have HB4 := vn HB3 hB4
  have d0 := HR4.out.cell 0
  have df := HR4.out.fz 0
  have dl := HR4.out.lt
  simp only [List.getElem?_cons_zero] at d0
  obtain ⟨w9, hw9⟩ := yx (w4.setCell ⟨w.heap.size + 1, 0, none⟩ (.slice A4 m m))
  have HRd9 : Hid (Rd w9 A4 m m (toL (N / 2 ^ k))) := vv (by rw [hw9]; exact hR4.other _ _ _ (fun a e => by have := (HFr.out a e).1; omega))
  have HB9 : Hid (Below w.heap.size w w9) := vv (by rw [hw9]; exact HB4.out.setCell (Nat.le_succ _) _)
  have hk0 : w9.cell? ⟨w.heap.size + 1, 0, none⟩ = some (.slice A4 m m) := by rw [hw9]; exact cell_eq d0
  have HK := vv hk0
  have HW9 := vv hw9
  clear hR4 hA4 hB4 hk0 hw9
  go_wp2
  rw [<- HW9.out]
  have hk0 := HK.out
  exact bodyPost_ret (v := .tuple #[natV A4 m m, .int .i64 0]) (by simp [results, Tryz.results72, go_sem, hk0]) rfl ⟨A4, m, rfl, HRd9.out, HFr.out.mono (by omega), HB9.out⟩
theorem own_row {w : World} {g base : Nat} {t : TypeId} {U : List Nat} (h : Own w g t U) (hb : base <= g) (hl : U.length <= 1000000000) : w.ownsRow base t 1 (.slice (some ⟨g, 0, none⟩) U.length U.length) U.length (u32s U) := by
 refine ⟨by simp [u32s], .inr ⟨g, U.length, (u32s U).toArray, rfl, hb, h.heap, Nat.le_refl _, by unfold maxLen; omega, by simp [u32s], ?_⟩⟩
 rw [Nat.mul_one]
 have : (u32s U).length = U.length := by simp [u32s]
 simp [<- this]
theorem row_len_any {w : World} {base : Nat} {e : TypeId} {v : Value} {n : Nat} {l : List Value} (h : w.ownsRow base e 1 v n l) : ∃ A cap, v = .slice A n cap := by
 rcases h.2 with ⟨h2, rfl⟩ | ⟨g, cap, cur, hv, _⟩
 ·exact ⟨none, 0, h2⟩
 ·exact ⟨_, _, hv⟩
theorem u32s_one (U : List Nat) : ∀ v ∈ u32s U, v.oneCell' = true := by
 intro v hv
 obtain ⟨x, _, rfl⟩ := List.mem_map.1 hv
 rfl
set_option maxRecDepth 100000 in
set_option maxHeartbeats 4000000 in
theorem Up (A : Option Addr) (n c N k : Nat) (w : World) (ha : Rd w A n c (toL N)) (hn : n <= 16384) (hk : k + bl N <= 524288) :
  Calls Tryz.prog 55 #[natV A n c, .int .i64 (k : Int)] w (NatP (N * 2 ^ k) w) := by
 obtain ⟨w0, hw0⟩ := yx ((w.alloc (.cells #[.slice A n c] 28)).alloc (.cells #[.slice none 0 0] 28))
 have hb : Below w.heap.size w w0 := by rw [hw0]; exact ((Below.refl _ _).alloc (Nat.le_refl _) _).alloc (by simp) _
 have hQ : Blk w0 w.heap.size 28 [.slice A n c] := by rw [hw0]; exact (Blk.made w 28 [.slice A n c]).alloc _
 have hR : Blk w0 (w.heap.size + 1) 28 [.slice none 0 0] := by
  rw [hw0]
  have := Blk.made (w.alloc (.cells #[.slice A n c] 28)) 28 [.slice none 0 0]
  rwa [World.size_alloc] at this
 have HC := vv (Bits A n c N w0 (ha.below hb rfl) hn)
 have HB := vv hb
 have HQ := vv hQ
 have HR := vv hR
 have HW := vv hw0
 have hni : (n : Int) <= 16384 := by omega
 have hii : (k : Int) <= 524288 := by omega
 obtain ⟨L, hL⟩ := yx (bl N)
 rw [<- hL] at HC hk
 have hLk : (k : Int) <= 524288 - (L : Int) := by omega
 have hLi : (L : Int) <= 524288 := by omega
 rcases Nat.eq_zero_or_pos N with h0 | h0
 ·subst h0
  have hL0 : L = 0 := by rw [hL]; rfl
  subst hL0
  clear hb hQ hR hw0 hn ha hk hL
  go_enter Tryz.func55, Tryz.ntmps55
  go_wp2_with fail
  rw [<- HW.out]
  refine HC.out.mono ?_
  rintro e w1 ⟨rfl, hB⟩
  have d0 := (HR.out.below hB).cell 0
  have df := (HR.out.below hB).fz 0
  have dl := (HR.out.below hB).lt
  simp only [List.getElem?_cons_zero] at d0
  have HB1 := vn HB hB
  clear hB
  have HB9 := vv (HB1.out.setCell (p := ⟨w.heap.size + 1, 0, none⟩) (Nat.le_succ _) (.slice none 0 0))
  have hk0 : (w1.setCell ⟨w.heap.size + 1, 0, none⟩ (.slice none 0 0)).cell? ⟨w.heap.size + 1, 0, none⟩ = some (.slice none 0 0) := cell_eq d0
  have HK := vv hk0
  clear hk0
  go_wp2
  have hk0 := HK.out
  exact bodyPost_ret (v := .tuple #[natV none 0 0, .int .i64 0]) (by simp [results, Tryz.results55, go_sem, hk0]) rfl ⟨none, 0, rfl, by rw [Nat.zero_mul]; exact Rd.nil _, Fr.none_ _, HB9.out⟩
 ·obtain ⟨q, hq⟩ := yx (k / 32)
  obtain ⟨s, hs⟩ := yx (k % 32)
  have hqi : (k : Int) / 32 = (q : Int) := by omega
  have hsi : (k : Int) % 32 = (s : Int) := by omega
  have hs31 : (s : Int) <= 31 := by omega
  have hq2 : (q : Int) <= 16384 := by omega
  have hL1 : ((L : Int) == 0) = false := by
   have := bl_mono (a := 1) h0
   have e : bl 1 = 1 := by decide
   rw [beq_eq_false_iff_ne]; omega
  have hks : k = 32 * q + s := by omega
  have HS := vv fun w' (h : Rd w' A n c (toL N)) => shifted A n c (toL N) s w' h (by omega) hn
  have hmk := Go.Proofs.YtddaldghlinokaaGreatDoor.A.mk q (by omega)
  have HA := vv (ha.below hb rfl)
  have HE : Hid (∀ V, val V = val (toL N) * 2 ^ s -> val (List.replicate q 0 ++ V) = N * 2 ^ k) := vv (fun V h => by
   rw [val_append, val_replicate, h, val_toL, List.length_replicate, hks, Nat.pow_add, <- pow32, Nat.mul_comm _ (2 ^ s), <- Nat.mul_assoc]
   rw [Nat.zero_add, Nat.mul_comm (4294967296 ^ q), Nat.mul_assoc, Nat.mul_comm (4294967296 ^ q) N, Nat.mul_left_comm])
  clear hb hQ hR hw0 hn ha hq hs hk hL h0 hks
  go_enter Tryz.func55, Tryz.ntmps55
  go_wp2_with fail
  rw [<- HW.out]
  refine HC.out.mono ?_
  rintro e w1 ⟨rfl, hB⟩
  have c0 := (HQ.out.below hB).cell 0
  have cl := (HQ.out.below hB).lt
  simp only [List.getElem?_cons_zero] at c0
  have HR1 := vv (HR.out.below hB)
  have HA1 := vv (HA.out.below hB rfl)
  have HB1 := vn HB hB
  clear hB
  go_wp2_with fail
  have hwq : IntKind.i64.wrap (q : Int) = (q : Int) := IntWalk.i64_in _ (by omega)
  have hdiv : (k : Int).tdiv 32 = (q : Int) := by rw [Int.tdiv_eq_ediv_of_nonneg (by omega)]; exact hqi
  have hmod : (k : Int).tmod 32 = (s : Int) := by rw [Int.tmod_eq_emod_of_nonneg (by omega)]; exact hsi
  refine wp_region_sch (fun w' => w'.cell? ⟨w.heap.size, 0, none⟩ = some (.slice A n c)) 8
   (.still 0 (.still 1 (.still 3 (.still 4 (.still 5 (.still 6 (.two 2 (.one 7 .done) 7 (.one 2 .done)))))))) (by kernel_rfl) (by kernel_rfl) (fun _ _ d _ _ h => by cases d <;> exact h) c0 (fun hS0 => ?_)
  obtain ⟨wd, hwd⟩ := yx (w1.drew)
  have HBd : Hid (Below w.heap.size w wd) := vv (by rw [hwd]; exact below_drew HB1.out)
  have HRd : Hid (Blk wd (w.heap.size + 1) 28 [.slice none 0 0]) := vv (by rw [hwd]; exact HR1.out)
  have HAd : Hid (Rd wd A n c (toL N)) := vv (by rw [hwd]; exact HA1.out.drew)
  have HCl : Hid (w.heap.size < wd.heap.size) := vv (by rw [hwd]; exact cl)
  have HC0 : Hid (wd.cell? ⟨w.heap.size, 0, none⟩ = some (.slice A n c)) := vv (by rw [hwd]; exact c0)
  have HNL : Hid (w.heap.size + 2 <= wd.heap.size) := vv (HRd.out.lt)
  obtain ⟨i0, hi, hz0, hz1, hz2⟩ := info_parts Go.Proofs.YtddaldghlinokaaGreatDoor.B.inf
  rw [<- hwd] at hS0 ⊢
  clear hwd c0 cl
  iterate 6
   refine sch_still (v := ?_) rfl (by rfl) ?_ ?_
   rotate_left
   ·intro w hSw; go_simp; with_reducible rfl
   simp only [Act.put, List.setIfInBounds_toArray, List.set_cons_zero, List.set_cons_succ]
  refine sch_two rfl (by rfl) rfl (by rfl) (fun K hK => ?_) (fun K hK => ?_)
  ·go_simp
   have hO := Own.made wd q 34
   have hB := (Below.refl wd.heap.size wd).alloc (o := .cells (madeCells #[.int .u32 0] q) 34) (Nat.le_refl _)
   obtain ⟨wm, hwm⟩ := yx (wd.alloc (.cells (madeCells #[.int .u32 0] q) 34))
   rw [<- hwm] at hO hB ⊢
   have HO := vv hO
   have HBm := vv hB
   clear hO hB hwm
   refine hK.out _ _ ((HBm.out.cell (p := ⟨w.heap.size, 0, none⟩) HCl.out).trans HC0.out) (fun hHeld => ?_)
   clear hK hS0
   refine sch_one rfl (by rfl) (fun K hK => ?_)
   go_simp
   refine (HS.out _ (HAd.out.below HBm.out rfl)).mono ?_
   rintro e wz ⟨V, rfl, hO2, hVl, hVv, hB2⟩
   have hMr := own_row (base := w.heap.size + 2) (HO.out.below hB2 HO.out.lt) HNL.out (by rw [List.length_replicate]; omega)
   rw [List.length_replicate] at hMr
   have hVr := own_row (base := w.heap.size + 2) hO2 (Nat.le_trans HNL.out HBm.out.size) (by rw [hVl]; omega)
   rw [hVl] at hVr
   have HM := vv hMr
   have HV := vv hVr
   have HVl := vv (And.intro hVv hO2.2)
   have HBz := vv (HBd.out.trans ((HBm.out.trans (hB2.mono HBm.out.size)).mono HBd.out.size))
   have HRz := vv ((HRd.out.below HBm.out).below hB2)
   have HSz : Hid (w.heap.size + 2 <= wz.heap.size) := vv (Nat.le_trans HNL.out (Nat.le_trans HBm.out.size hB2.size))
   have hcz := ((HBm.out.trans (hB2.mono HBm.out.size)).cell (p := ⟨w.heap.size, 0, none⟩) HCl.out).trans HC0.out
   clear hMr hVr hO2 hVl hVv hB2 hHeld
   refine hK.out _ _ hcz (fun hHeld => ?_)
   clear hK hcz hHeld
   refine sch_done ?_
   simp only [List.drop_succ_cons, List.drop_zero]
   go_wp2_with (at_builtin; refine wpList_append_rows rfl _ _ 26 rfl (w.heap.size + 2) (w.heap.size + 2) 34 i0 (.int .u32 0) 4 Tryz.underlying26 hi hz0 hz1 hz2 rfl _ q (u32s (List.replicate q 0)) rfl HM.out _ (n + 1) (u32s V) rfl HV.out (u32s_one V) (by unfold maxLen; omega) (by omega) (by have := HSz.out; omega) ?_)
   intro v' w5 hown hgrow
   have HB2 : Hid (Below w.heap.size w w5) := vv (HBz.out.grown hgrow HBz.out.size (fun k e => by have := (HM.out.lt k e).1; omega))
   have HR3 : Hid (Blk w5 (w.heap.size + 1) 28 [.slice none 0 0]) := vv (HRz.out.grown hgrow (fun e => by have := (HM.out.lt _ e).1; omega))
   have HB3 := HB2
   have hown2 : w5.ownsRow (w.heap.size + 2) 34 1 v' (q + (n + 1)) (u32s (List.replicate q 0 ++ V)) := by
    have e : u32s (List.replicate q 0 ++ V) = u32s (List.replicate q 0) ++ u32s V := by simp [u32s]
    rw [e]; exact hown
   obtain ⟨Av, cap, rfl⟩ := row_len_any hown2
   have hrd := Go.Proofs.YtddaldghlinokaaGreatDoor.A.row_rd hown2 (Lim_append.2 ⟨Lim_replicate q, HVl.out.2⟩) (by omega)
   have HFv : Hid (Fr (w.heap.size + 2) Av) := vv hrd.2
   have HT := vv (Nat_.trimmed _ _ _ _ w5 hrd.1)
   rw [HE.out V HVl.out.1] at HT
   clear hown hgrow hown2 hrd
   go_wp2_with fail
   refine HT.out.mono ?_
   rintro e w4 ⟨A4, m, rfl, hR4, hA4, hB4⟩
   have HFr : Hid (Fr (w.heap.size + 2) A4) := vv (fun a e => by have h := hA4 a e; subst h; exact HFv.out a rfl)
   have HR4 := vv (HR3.out.below hB4)
   have HB4 := vn HB3 hB4
   have d0 := HR4.out.cell 0
   have df := HR4.out.fz 0
   have dl := HR4.out.lt
   simp only [List.getElem?_cons_zero] at d0
   obtain ⟨w9, hw9⟩ := yx (w4.setCell ⟨w.heap.size + 1, 0, none⟩ (.slice A4 m m))
   have HRd9 : Hid (Rd w9 A4 m m (toL (N * 2 ^ k))) := vv (by rw [hw9]; exact hR4.other _ _ _ (fun a e => by have := (HFr.out a e).1; omega))
   have HB9 : Hid (Below w.heap.size w w9) := vv (by rw [hw9]; exact HB4.out.setCell (Nat.le_succ _) _)
   have hk0 : w9.cell? ⟨w.heap.size + 1, 0, none⟩ = some (.slice A4 m m) := by rw [hw9]; exact cell_eq d0
   have HK := vv hk0
   have HW9 := vv hw9
   clear hR4 hA4 hB4 hk0 hw9
   go_wp2
   rw [<- HW9.out]
   have hk0 := HK.out
   exact bodyPost_ret (v := .tuple #[natV A4 m m, .int .i64 0]) (by simp [results, Tryz.results55, go_sem, hk0]) rfl ⟨A4, m, rfl, HRd9.out, HFr.out.mono (by omega), HB9.out⟩
  ·go_simp
   refine (HS.out _ HAd.out).mono ?_
   rintro e wy ⟨V, rfl, hO2, hVl, hVv, hB2⟩
   have HO2 := vv hO2
   have HVv := vv hVv
   have HVn := vv hVl
   have HB2 := vv hB2
   have hcy := (hB2.cell (p := ⟨w.heap.size, 0, none⟩) HCl.out).trans HC0.out
   have HCy := vv hcy
   have HCly : Hid (w.heap.size < wy.heap.size) := vv (Nat.lt_of_lt_of_le HCl.out hB2.size)
   refine hK.out _ _ hcy (fun hHeld => ?_)
   clear hK hS0 hcy hHeld hO2 hVl hVv hB2
   refine sch_one rfl (by rfl) (fun K hK => ?_)
   go_simp
   have hO := Own.made wy q 34
   have hB := (Below.refl wy.heap.size wy).alloc (o := .cells (madeCells #[.int .u32 0] q) 34) (Nat.le_refl _)
   obtain ⟨wz, hwm⟩ := yx (wy.alloc (.cells (madeCells #[.int .u32 0] q) 34))
   rw [<- hwm] at hO hB ⊢
   have hMr := own_row (base := w.heap.size + 2) hO (Nat.le_trans HNL.out HB2.out.size) (by rw [List.length_replicate]; omega)
   rw [List.length_replicate] at hMr
   have hVr := own_row (base := w.heap.size + 2) (HO2.out.below hB HO2.out.lt) HNL.out (by rw [HVn.out]; omega)
   rw [HVn.out] at hVr
   have HM := vv hMr
   have HV := vv hVr
   have HVl := vv (And.intro HVv.out HO2.out.2)
   have HBz := vv (HBd.out.trans ((HB2.out.trans (hB.mono HB2.out.size)).mono HBd.out.size))
   have HRz := vv ((HRd.out.below HB2.out).below hB)
   have HSz : Hid (w.heap.size + 2 <= wz.heap.size) := vv (Nat.le_trans HNL.out (Nat.le_trans HB2.out.size hB.size))
   have hcz := (hB.cell (p := ⟨w.heap.size, 0, none⟩) HCly.out).trans HCy.out
   clear hMr hVr hO hB hwm
   refine hK.out _ _ hcz (fun hHeld => ?_)
   clear hK hcz hHeld
   refine sch_done ?_
   simp only [List.drop_succ_cons, List.drop_zero]
   go_wp2_with (at_builtin; refine wpList_append_rows rfl _ _ 26 rfl (w.heap.size + 2) (w.heap.size + 2) 34 i0 (.int .u32 0) 4 Tryz.underlying26 hi hz0 hz1 hz2 rfl _ q (u32s (List.replicate q 0)) rfl HM.out _ (n + 1) (u32s V) rfl HV.out (u32s_one V) (by unfold maxLen; omega) (by omega) (by have := HSz.out; omega) ?_)
   intro v' w5 hown hgrow
   have HB2 : Hid (Below w.heap.size w w5) := vv (HBz.out.grown hgrow HBz.out.size (fun k e => by have := (HM.out.lt k e).1; omega))
   have HR3 : Hid (Blk w5 (w.heap.size + 1) 28 [.slice none 0 0]) := vv (HRz.out.grown hgrow (fun e => by have := (HM.out.lt _ e).1; omega))
   have HB3 := HB2
   have hown2 : w5.ownsRow (w.heap.size + 2) 34 1 v' (q + (n + 1)) (u32s (List.replicate q 0 ++ V)) := by
    have e : u32s (List.replicate q 0 ++ V) = u32s (List.replicate q 0) ++ u32s V := by simp [u32s]
    rw [e]; exact hown
   obtain ⟨Av, cap, rfl⟩ := row_len_any hown2
   have hrd := Go.Proofs.YtddaldghlinokaaGreatDoor.A.row_rd hown2 (Lim_append.2 ⟨Lim_replicate q, HVl.out.2⟩) (by omega)
   have HFv : Hid (Fr (w.heap.size + 2) Av) := vv hrd.2
   have HT := vv (Nat_.trimmed _ _ _ _ w5 hrd.1)
   rw [HE.out V HVl.out.1] at HT
   clear hown hgrow hown2 hrd
   go_wp2_with fail
   refine HT.out.mono ?_
   rintro e w4 ⟨A4, m, rfl, hR4, hA4, hB4⟩
   have HFr : Hid (Fr (w.heap.size + 2) A4) := vv (fun a e => by have h := hA4 a e; subst h; exact HFv.out a rfl)
   have HR4 := vv (HR3.out.below hB4)
   have HB4 := vn HB3 hB4
   have d0 := HR4.out.cell 0
   have df := HR4.out.fz 0
   have dl := HR4.out.lt
   simp only [List.getElem?_cons_zero] at d0
   obtain ⟨w9, hw9⟩ := yx (w4.setCell ⟨w.heap.size + 1, 0, none⟩ (.slice A4 m m))
   have HRd9 : Hid (Rd w9 A4 m m (toL (N * 2 ^ k))) := vv (by rw [hw9]; exact hR4.other _ _ _ (fun a e => by have := (HFr.out a e).1; omega))
   have HB9 : Hid (Below w.heap.size w w9) := vv (by rw [hw9]; exact HB4.out.setCell (Nat.le_succ _) _)
   have hk0 : w9.cell? ⟨w.heap.size + 1, 0, none⟩ = some (.slice A4 m m) := by rw [hw9]; exact cell_eq d0
   have HK := vv hk0
   have HW9 := vv hw9
   clear hR4 hA4 hB4 hk0 hw9
   go_wp2
   rw [<- HW9.out]
   have hk0 := HK.out
   exact bodyPost_ret (v := .tuple #[natV A4 m m, .int .i64 0]) (by simp [results, Tryz.results55, go_sem, hk0]) rfl ⟨A4, m, rfl, HRd9.out, HFr.out.mono (by omega), HB9.out⟩
end Go.Proofs.YtddaldghlinokaaGreatDoor.Pnt
namespace Go.Proofs.YtddaldghlinokaaGreatDoor.Fms
open Go Go.RowKit R5 Scn
def fitsErr (E F : Int) (b : Nat) : Int := if R3.formOk E F then (if 1 + E + F < (bl b : Int) then 6 else 0) else 5
theorem lenV (b : Nat) (w : World) (h : b < 18446744073709551616) : Calls Tryz.prog 152 #[.int .u64 (b : Int)] w fun e w' => e = .returned (.int .i64 ((bl b : Nat) : Int)) /\ w = w' :=
 (Tryz.bits_Len64 (b : Int) w (by omega) (by omega)).mono fun e w' ⟨h1, h2⟩ => ⟨by rw [h1, Int.toNat_natCast, lib_bl h], h2.symm⟩
set_option maxHeartbeats 1000000 in
theorem Fits (E F : Int) (b : Nat) (w : World) (hb : b < 18446744073709551616) :
  Calls Tryz.prog 66 #[fm E F, .int .u64 (b : Int)] w fun e w' => e = .returned (.int .i64 (fitsErr E F b)) /\ Below w.heap.size w w' := by
 have HC := vv fun w => Check E F w
 have HLn := vv fun w => lenV b w hb
 have hbl : bl b <= 64 := bl_le (by rw [show (2 : Nat) ^ 64 = 18446744073709551616 from rfl]; exact hb)
 obtain ⟨L, hL⟩ := yx (bl b)
 rw [<- hL] at HLn hbl
 have hb0 : Below w.heap.size w (w.alloc (.cells #[.int .i64 E, .int .i64 F] 23)) := (Below.refl _ _).alloc (Nat.le_refl _) _
 have HB0 := vv hb0
 cases hok : R3.formOk E F with
 | false =>
  have HE : Hid (fitsErr E F b = 5) := vv (by unfold fitsErr; rw [hok]; rfl)
  rw [R3.chk_no hok] at HC
  clear hb hbl hL hb0 hok
  go_enter Tryz.func66, Tryz.ntmps66
  go_wp2_with fail
  refine (HC.out _).mono ?_
  rintro e w1 ⟨rfl, hB⟩
  have HB := vn HB0 hB
  clear hB
  go_wp2
  go_ret
  exact ⟨retI HE.out.symm, HB.out⟩
 | true =>
  have HE : Hid (fitsErr E F b = if 1 + E + F < (L : Int) then 6 else 0) := vv (by unfold fitsErr; rw [hok, <- hL]; rfl)
  obtain ⟨ne, nf, rfl, rfl, h1, h2, h3, h4⟩ := R3.formOk_nat hok
  rw [R3.chk_ok hok] at HC
  have h2i : (ne : Int) <= 11 := by omega
  have h4i : (nf : Int) <= 52 := by omega
  have hLi : (L : Int) <= 64 := by omega
  have hw1 : IntKind.i64.wrap (1 + (ne : Int)) = 1 + (ne : Int) := IntWalk.i64_in _ (by omega)
  have hw2 : IntKind.i64.wrap (1 + (ne : Int) + (nf : Int)) = 1 + (ne : Int) + (nf : Int) := IntWalk.i64_in _ (by omega)
  have HW := vv (And.intro hw1 hw2)
  clear hb hbl hL hb0 hok h1 h2 h3 h4 hw1 hw2
  go_enter Tryz.func66, Tryz.ntmps66
  go_wp2_with fail
  refine (HC.out _).mono ?_
  rintro e w1 ⟨rfl, hB⟩
  have c0 := (hB.cell (p := ⟨w.heap.size, 0, none⟩) (by simp)).trans (show _ = some (Value.int .i64 (ne : Int)) by simp only [World.cell?]; rw [heap_alloc_new]; rfl)
  have c1 := (hB.cell (p := ⟨w.heap.size, 1, none⟩) (by simp)).trans (show _ = some (Value.int .i64 (nf : Int)) by simp only [World.cell?]; rw [heap_alloc_new]; rfl)
  have hl : w.heap.size < w1.heap.size := Nat.lt_of_lt_of_le (by simp) hB.size
  have HB := vn HB0 hB
  clear hB
  go_wp2_with fail
  refine wp_region_sch (fun w' => w'.cell? ⟨w.heap.size, 0, none⟩ = some (.int .i64 (ne : Int)) /\ w'.cell? ⟨w.heap.size, 1, none⟩ = some (.int .i64 (nf : Int))) 9
   (.still 0 (.still 2 (.still 3 (.still 4 (.still 5 (.still 6 (.still 7 (.one 1 (.still 8 .done))))))))) (by kernel_rfl) (by kernel_rfl) (fun _ _ d _ _ h => by cases d <;> exact h) ⟨c0, c1⟩ (fun hS0 => ?_)
  obtain ⟨hw1, hw2⟩ := HW.out
  iterate 7
   refine sch_still (v := ?_) rfl (by rfl) ?_ ?_
   rotate_left
   ·intro w hSw; go_simp; with_reducible rfl
   simp only [Act.put, List.setIfInBounds_toArray, List.set_cons_zero, List.set_cons_succ]
  refine sch_one rfl (by rfl) (fun K hK => ?_)
  go_simp
  refine (HLn.out _).mono ?_
  rintro e w' ⟨rfl, rfl⟩
  go_wp2_with fail
  refine hK.out _ _ hS0 (fun hHeld => ?_)
  clear hK
  iterate 1
   refine sch_still (v := ?_) rfl (by rfl) ?_ ?_
   rotate_left
   ·intro w hSw; go_simp; with_reducible rfl
   simp only [Act.put, List.setIfInBounds_toArray, List.set_cons_zero, List.set_cons_succ]
  refine sch_end rfl ?_
  clear hHeld hS0 hw1 hw2
  have HB2 : Hid (Below w.heap.size w w1.drew) := vv (below_drew HB.out)
  by_cases hgt : 1 + (ne : Int) + (nf : Int) < (L : Int)
  ·have HE2 := vv (show fitsErr (ne : Int) (nf : Int) b = 6 by rw [HE.out, if_pos hgt])
   have t1 : ¬ (L : Int) <= 1 + (ne : Int) + (nf : Int) := by omega
   go_wp2
   go_ret
   exact ⟨retI HE2.out.symm, HB2.out⟩
  ·have HE2 := vv (show fitsErr (ne : Int) (nf : Int) b = 0 by rw [HE.out, if_neg hgt])
   have t1 : (L : Int) <= 1 + (ne : Int) + (nf : Int) := by omega
   clear hgt
   go_wp2
   go_ret
   exact ⟨retI HE2.out.symm, HB2.out⟩
theorem and_mask (x sz : Nat) (h : sz <= 63) (hx : x < 18446744073709551616) : bits .and .u64 (x : Int) ((R3.tw sz - 1 : Nat) : Int) = ((x % 2 ^ sz : Nat) : Int) := by
 have h1 : 2 ^ sz <= 2 ^ 63 := Nat.pow_le_pow_right (by omega) h
 have h2 : (2 : Nat) ^ 63 = 9223372036854775808 := rfl
 unfold R3.tw
 have key : (BitVec.ofInt 64 (x : Int) &&& BitVec.ofInt 64 ((2 ^ sz - 1 : Nat) : Int)).toNat = x % 2 ^ sz := by
  have e1 : (BitVec.ofInt 64 (x : Int)).toNat = x := by rw [BitVec.toNat_ofInt]; omega
  have e2 : (BitVec.ofInt 64 ((2 ^ sz - 1 : Nat) : Int)).toNat = 2 ^ sz - 1 := by rw [BitVec.toNat_ofInt]; omega
  rw [BitVec.toNat_and, e1, e2, Nat.and_two_pow_sub_one_eq_mod]
 show IntKind.u64.wrap ((BitVec.ofInt 64 (x : Int) &&& BitVec.ofInt 64 ((2 ^ sz - 1 : Nat) : Int)).toNat : Nat) = _
 have h3 : x % 2 ^ sz <= x := Nat.mod_le _ _
 rw [key, IntKind.wrap_u64]
 omega
theorem take (p sz b : Nat) (w : World) (hs : sz <= 63) (hp : p <= 63) (hb : b < 18446744073709551616) :
  Calls Tryz.prog 198 #[.agg #[.int .i64 (p : Int), .int .i64 (sz : Int)], .int .u64 (b : Int)] w fun e w' => e = .returned (.int .u64 ((b / 2 ^ p % 2 ^ sz : Nat) : Int)) /\ Below w.heap.size w w' := by
 have HM := vv fun w => mask sz w hs
 have hq : b / 2 ^ p < 18446744073709551616 := Nat.lt_of_le_of_lt (Nat.div_le_self _ _) hb
 have HA := vv (and_mask (b / 2 ^ p) sz hs hq)
 have HSh := vv (nat_shr b p)
 have hpi : (p : Int) <= 63 := by omega
 clear hs hp hb hq
 go_enter Tryz.func198, Tryz.ntmps198
 go_wp2_with fail
 refine (HM.out _).mono ?_
 rintro e w' ⟨rfl, rfl⟩
 go_wp2
 go_ret
 exact ⟨retI (by rw [HSh.out]; exact HA.out), (Below.refl _ _).alloc (Nat.le_refl _) _⟩
def negOf (E F b : Nat) : Bool := b / 2 ^ (F + E) % 2 == 1
def expOf (E F b : Nat) : Nat := b / 2 ^ F % 2 ^ E
def fracOf (F b : Nat) : Nat := b % 2 ^ F
abbrev partsV (neg : Bool) (x f : Nat) : Value := .agg #[.bool neg, .int .i64 (x : Int), .int .u64 (f : Int)]
theorem blk3 {w : World} {g : Nat} {t : TypeId} {v0 v1 v2 : Value} (h : Blk w g t [v0, v1, v2]) : w.cell? ⟨g, 0, none⟩ = some v0 /\ w.cell? ⟨g, 1, none⟩ = some v1 /\ w.cell? ⟨g, 2, none⟩ = some v2 := ⟨h.cell 0, h.cell 1, h.cell 2⟩
set_option maxRecDepth 100000 in
set_option maxHeartbeats 2000000 in
theorem Split (E F b : Nat) (w : World) (h1 : 2 <= E) (h2 : E <= 11) (h3 : 1 <= F) (h4 : F <= 52) (hb : b < 2 ^ (1 + E + F)) :
  Calls Tryz.prog 90 #[fm E F, .int .u64 (b : Int)] w fun e w' => e = .returned (.tuple #[partsV (negOf E F b) (expOf E F b) (fracOf F b), .int .i64 0]) /\ Below w.heap.size w w' := by
 have hb64 : b < 18446744073709551616 := Nat.lt_of_lt_of_le hb (by rw [show (18446744073709551616 : Nat) = 2 ^ 64 from rfl]; exact Nat.pow_le_pow_right (by decide) (by omega))
 have hbl := bl_le hb
 have hfit : fitsErr E F b = 0 := by
  unfold fitsErr
  rw [formOk_in h1 h2 h3 h4, if_pos rfl, if_neg (by omega)]
 have HF := vv fun w => Fits E F b w hb64
 rw [hfit] at HF
 have HLy := vv fun w => layout E F w h2 h4
 have HT2 := vv fun w => take (F + E) 1 b w (by omega) (by omega) hb64
 have HT1 := vv fun w => take F E b w (by omega) (by omega) hb64
 have HT0 := vv fun w => take 0 F b w (by omega) (by omega) hb64
 rw [show ((F + E : Nat) : Int) = (F : Int) + (E : Int) from Int.natCast_add _ _] at HT2
 simp only [Nat.pow_zero, Nat.div_one, Nat.pow_one] at HT0 HT2
 obtain ⟨x, hx⟩ := yx (expOf E F b)
 obtain ⟨f, hf⟩ := yx (fracOf F b)
 obtain ⟨s, hs⟩ := yx (b / 2 ^ (F + E) % 2)
 obtain ⟨neg, hneg⟩ := yx (negOf E F b)
 have hx2 : x < 2 ^ 11 := by rw [hx]; exact Nat.lt_of_lt_of_le (Nat.mod_lt _ (Nat.two_pow_pos _)) (Nat.pow_le_pow_right (by decide) h2)
 have hx3 : (x : Int) <= 2047 := by omega
 have hwx : IntKind.i64.wrap (x : Int) = (x : Int) := IntWalk.i64_in _ (by omega)
 have hsn : ((s : Int) != 0) = neg := by
  rw [hneg, hs]
  unfold negOf
  rcases Nat.mod_two_eq_zero_or_one (b / 2 ^ (F + E)) with e | e <;> rw [e] <;> rfl
 rw [show b / 2 ^ F % 2 ^ E = x from hx.symm] at HT1
 rw [show b % 2 ^ F = f from hf.symm] at HT0
 rw [<- hs] at HT2
 rw [<- hx, <- hf, <- hneg]
 have HX := vv (And.intro hwx hsn)
 obtain ⟨w0, hw0⟩ := yx ((w.alloc (.cells #[.int .i64 (E : Int), .int .i64 (F : Int)] 23)).alloc (.cells #[.bool false, .int .i64 0, .int .u64 0] 100))
 have hB : Below w.heap.size w w0 := by rw [hw0]; exact ((Below.refl _ _).alloc (Nat.le_refl _) _).alloc (by simp) _
 have hP : Blk w0 (w.heap.size + 1) 100 [.bool false, .int .i64 0, .int .u64 0] := by
  rw [hw0]
  have := Blk.made (w.alloc (.cells #[.int .i64 (E : Int), .int .i64 (F : Int)] 23)) 100 [.bool false, .int .i64 0, .int .u64 0]
  rwa [World.size_alloc] at this
 have hQ : Blk w0 w.heap.size 23 [.int .i64 (E : Int), .int .i64 (F : Int)] := by
  rw [hw0]
  exact (Blk.made w 23 [.int .i64 (E : Int), .int .i64 (F : Int)]).alloc _
 have HW := vv hw0
 have HB := vv hB
 have HP := vv hP
 have HQ := vv hQ
 clear h1 h2 h3 h4 hb hb64 hbl hfit hx hf hs hneg hx2 hx3 hwx hsn hw0 hB hP hQ
 go_enter Tryz.func90, Tryz.ntmps90
 go_wp2_with fail
 rw [<- HW.out]
 refine (HF.out _).mono ?_
 rintro e w1 ⟨rfl, hB⟩
 have HP1 := vv (HP.out.below hB)
 have HQ1 := vv (HQ.out.below hB)
 have HB1 := vn HB hB
 have c0 := HQ1.out.cell 0
 have c1 := HQ1.out.cell 1
 have cl := HQ1.out.lt
 simp only [List.getElem?_cons_zero, List.getElem?_cons_succ] at c0 c1
 clear hB
 go_wp2_with fail
 refine (HLy.out _).mono ?_
 rintro e w2 ⟨rfl, hB⟩
 have HP2 := vv (HP1.out.below hB)
 have HB2 := vn HB1 hB
 have o2 := (Below.refl w2.heap.size w2).alloc (o := .cells #[.int .i64 0, .int .i64 (F : Int), .int .i64 (F : Int), .int .i64 (E : Int), .int .i64 ((F : Int) + (E : Int)), .int .i64 1] 245) (Nat.le_refl _)
 have hL := LayBox.made w2 (E : Int) (F : Int) 245
 clear hB c0 c1 cl
 go_wp2_with fail
 obtain ⟨w3, hw3⟩ := yx (w2.alloc (.cells #[.int .i64 0, .int .i64 (F : Int), .int .i64 (F : Int), .int .i64 (E : Int), .int .i64 ((F : Int) + (E : Int)), .int .i64 1] 245))
 rw [<- hw3] at o2 hL ⊢
 have HLB := vv hL
 have HB := vn HB2 o2
 have HP := vv (HP2.out.below o2)
 clear o2 hL hw3
 refine wp_region_sch (fun w' => w'.cell? ⟨w2.heap.size, 0, none⟩ = some (.int .i64 0) /\ w'.cell? ⟨w2.heap.size, 1, none⟩ = some (.int .i64 (F : Int)) /\ w'.cell? ⟨w2.heap.size, 2, none⟩ = some (.int .i64 (F : Int)) /\ w'.cell? ⟨w2.heap.size, 3, none⟩ = some (.int .i64 (E : Int)) /\ w'.cell? ⟨w2.heap.size, 4, none⟩ = some (.int .i64 ((F : Int) + (E : Int))) /\ w'.cell? ⟨w2.heap.size, 5, none⟩ = some (.int .i64 1)) 14
  (.still 0 (.still 1 (.still 2 (.still 5 (.still 6 (.still 7 (.still 10 (.still 11 (.still 12 (.one 3 (.still 4 (.one 8 (.still 9 (.one 13 .done)))))))))))))) (by kernel_rfl) (by kernel_rfl) (fun _ _ d _ _ h => by cases d <;> exact h) ⟨HLB.out.c0, HLB.out.c1, HLB.out.c2, HLB.out.c3, HLB.out.c4, HLB.out.c5⟩ (fun hS0 => ?_)
 iterate 9
  refine sch_still (v := ?_) rfl (by rfl) ?_ ?_
  rotate_left
  ·intro w hSw; go_simp; with_reducible rfl
  simp only [Act.put, List.setIfInBounds_toArray, List.set_cons_zero, List.set_cons_succ]
 obtain ⟨wd, hwd⟩ := yx (w3.drew)
 have HLB : Hid (LayBox wd w2.heap.size E F) := vv (by rw [hwd]; exact ⟨HLB.out.c0, HLB.out.c1, HLB.out.c2, HLB.out.c3, HLB.out.c4, HLB.out.c5, HLB.out.lt⟩)
 have HB : Hid (Below w.heap.size w wd) := vv (by rw [hwd]; exact below_drew HB.out)
 have HP : Hid (Blk wd (w.heap.size + 1) 100 [.bool false, .int .i64 0, .int .u64 0]) := vv (by rw [hwd]; exact HP.out)
 rw [<- hwd] at hS0 ⊢
 clear hwd
 refine sch_one rfl (by rfl) (fun K hK => ?_)
 go_simp
 refine (HT2.out _).mono ?_
 rintro e w4 ⟨rfl, hB4⟩
 have HLB := vv (HLB.out.below hB4)
 have HP := vv (HP.out.below hB4)
 have HB := vn HB hB4
 clear hB4
 go_wp2_with fail
 refine hK.out _ _ ⟨HLB.out.c0, HLB.out.c1, HLB.out.c2, HLB.out.c3, HLB.out.c4, HLB.out.c5⟩ (fun hHeld => ?_)
 clear hK
 have hsn := HX.out.2
 iterate 1
  refine sch_still (v := ?_) rfl (by rfl) ?_ ?_
  rotate_left
  ·intro w hSw; go_simp; with_reducible rfl
  simp only [Act.put, List.setIfInBounds_toArray, List.set_cons_zero, List.set_cons_succ]
 refine sch_one rfl (by rfl) (fun K hK => ?_)
 go_simp
 refine (HT1.out _).mono ?_
 rintro e w5 ⟨rfl, hB4⟩
 have HLB := vv (HLB.out.below hB4)
 have HP := vv (HP.out.below hB4)
 have HB := vn HB hB4
 clear hB4
 go_wp2_with fail
 refine hK.out _ _ ⟨HLB.out.c0, HLB.out.c1, HLB.out.c2, HLB.out.c3, HLB.out.c4, HLB.out.c5⟩ (fun hHeld => ?_)
 clear hK
 have hwx := HX.out.1
 iterate 1
  refine sch_still (v := ?_) rfl (by rfl) ?_ ?_
  rotate_left
  ·intro w hSw; go_simp; with_reducible rfl
  simp only [Act.put, List.setIfInBounds_toArray, List.set_cons_zero, List.set_cons_succ]
 refine sch_one rfl (by rfl) (fun K hK => ?_)
 go_simp
 refine (HT0.out _).mono ?_
 rintro e w6 ⟨rfl, hB4⟩
 have HP := vv (HP.out.below hB4)
 have HLB := vv (HLB.out.below hB4)
 have HB := vn HB hB4
 clear hB4
 go_wp2_with fail
 refine hK.out _ _ ⟨HLB.out.c0, HLB.out.c1, HLB.out.c2, HLB.out.c3, HLB.out.c4, HLB.out.c5⟩ (fun hHeld => ?_)
 clear hK
 refine sch_done ?_
 clear hHeld hS0
 go_wp2_with (with_reducible refine wpList_store_blk rfl 100 (.tmp 4) (.tmp 31) rfl (w.heap.size + 1) [.bool neg, .int .i64 (x : Int), .int .u64 (f : Int)] rfl rfl 100 _ HP.out (by kernel_rfl) rfl rfl ?_)
 intro w8 hB hg8
 have HB8 := vv (only_below HB.out hg8 HB.out.size (Nat.le_succ _))
 obtain ⟨k0, k1, k2⟩ := blk3 hB
 have K := vv (And.intro k0 (And.intro k1 k2))
 clear hB hg8 k0 k1 k2
 go_wp2
 obtain ⟨k0, k1, k2⟩ := K.out
 exact bodyPost_ret (v := .tuple #[partsV neg x f, .int .i64 0]) (by simp [results, Tryz.results90, go_sem, k0, k1, k2, partsV]) rfl ⟨rfl, HB8.out⟩
def clsOf (E x f : Nat) : Nat := if x = 0 then (if f = 0 then 1 else 2) else if x = R3.tw E - 1 then (if f = 0 then 4 else 5) else 3
set_option maxHeartbeats 1000000 in
theorem Class (E F b : Nat) (w : World) (h1 : 2 <= E) (h2 : E <= 11) (h3 : 1 <= F) (h4 : F <= 52) (hb : b < 2 ^ (1 + E + F)) :
  Calls Tryz.prog 91 #[fm E F, .int .u64 (b : Int)] w fun e w' => e = .returned (.tuple #[.int .u8 ((clsOf E (expOf E F b) (fracOf F b) : Nat) : Int), .int .i64 0]) /\ Below w.heap.size w w' := by
 have HF := vv fun w => Split E F b w h1 h2 h3 h4 hb
 have HM := vv fun w => mask E w (by omega)
 have hx2 : expOf E F b < 2 ^ 11 := Nat.lt_of_lt_of_le (Nat.mod_lt _ (Nat.two_pow_pos _)) (Nat.pow_le_pow_right (by decide) h2)
 have hm2 : 3 <= R3.tw E - 1 := by have := R3.tw_le h1; unfold R3.tw at *; omega
 obtain ⟨x, hx⟩ := yx (expOf E F b)
 obtain ⟨f, hf⟩ := yx (fracOf F b)
 obtain ⟨neg, hneg⟩ := yx (negOf E F b)
 obtain ⟨m, hm⟩ := yx (R3.tw E - 1)
 have HC : Hid (clsOf E x f = if x = 0 then (if f = 0 then 1 else 2) else if x = m then (if f = 0 then 4 else 5) else 3) := vv (by unfold clsOf; rw [hm])
 rw [<- hx] at HF hx2 ⊢
 rw [<- hf] at HF ⊢
 rw [<- hneg] at HF
 rw [<- hm] at HM hm2
 have hxi : (x : Int) <= 2047 := by omega
 have hB : Below w.heap.size w (w.alloc (.cells #[.int .i64 (E : Int), .int .i64 (F : Int)] 23)) := (Below.refl _ _).alloc (Nat.le_refl _) _
 have hQ : Blk (w.alloc (.cells #[.int .i64 (E : Int), .int .i64 (F : Int)] 23)) w.heap.size 23 [.int .i64 (E : Int), .int .i64 (F : Int)] := Blk.made w 23 [.int .i64 (E : Int), .int .i64 (F : Int)]
 have HB := vv hB
 have HQ := vv hQ
 have hcase : (x = 0 /\ f = 0) \/ (x = 0 /\ f ≠ 0) \/ (x ≠ 0 /\ x = m /\ f = 0) \/ (x ≠ 0 /\ x = m /\ f ≠ 0) \/ (x ≠ 0 /\ x ≠ m) := by omega
 clear h1 h2 h3 h4 hb hx2 hx hf hneg hm hB hQ
 rcases hcase with ⟨a, c⟩ | ⟨a, c⟩ | ⟨a, c, d⟩ | ⟨a, c, d⟩ | ⟨a, c⟩
 ·have HR : Hid (clsOf E x f = 1) := vv (by rw [HC.out, if_pos a, if_pos c])
  subst a c
  go_enter Tryz.func91, Tryz.ntmps91
  go_wp2_with fail
  refine (HF.out _).mono ?_
  rintro e w1 ⟨rfl, hB⟩
  have HB1 := vn HB hB
  clear hB
  go_wp2
  go_ret2
  rw [HR.out]
  exact ⟨rfl, HB1.out.alloc HB1.out.size _⟩
 ·have HR : Hid (clsOf E x f = 2) := vv (by rw [HC.out, if_pos a, if_neg c])
  subst a
  have t1 : ((f : Int) == 0) = false := by rw [beq_eq_false_iff_ne]; omega
  clear c
  go_enter Tryz.func91, Tryz.ntmps91
  go_wp2_with fail
  refine (HF.out _).mono ?_
  rintro e w1 ⟨rfl, hB⟩
  have HB1 := vn HB hB
  clear hB
  go_wp2
  go_ret2
  rw [HR.out]
  exact ⟨rfl, HB1.out.alloc HB1.out.size _⟩
 ·have HR : Hid (clsOf E x f = 4) := vv (by rw [HC.out, if_neg a, if_pos c, if_pos d])
  subst d
  have t1 : ((x : Int) == 0) = false := by rw [beq_eq_false_iff_ne]; omega
  have t2 : ((x : Int) == (m : Int)) = true := by rw [beq_iff_eq]; omega
  clear a c
  go_enter Tryz.func91, Tryz.ntmps91
  go_wp2_with fail
  refine (HF.out _).mono ?_
  rintro e w1 ⟨rfl, hB⟩
  have HB1 := vn HB hB
  have c0 := (HQ.out.below hB).cell 0
  have cl := (HQ.out.below hB).lt
  simp only [List.getElem?_cons_zero, List.getElem?_cons_succ] at c0
  clear hB
  go_wp2_with fail
  refine (HM.out _).mono ?_
  rintro e w' ⟨rfl, rfl⟩
  go_wp2
  go_ret2
  rw [HR.out]
  exact ⟨rfl, HB1.out.alloc HB1.out.size _⟩
 ·have HR : Hid (clsOf E x f = 5) := vv (by rw [HC.out, if_neg a, if_pos c, if_neg d])
  have t1 : ((x : Int) == 0) = false := by rw [beq_eq_false_iff_ne]; omega
  have t2 : ((x : Int) == (m : Int)) = true := by rw [beq_iff_eq]; omega
  have t3 : ((f : Int) == 0) = false := by rw [beq_eq_false_iff_ne]; omega
  clear a c d
  go_enter Tryz.func91, Tryz.ntmps91
  go_wp2_with fail
  refine (HF.out _).mono ?_
  rintro e w1 ⟨rfl, hB⟩
  have HB1 := vn HB hB
  have c0 := (HQ.out.below hB).cell 0
  have cl := (HQ.out.below hB).lt
  simp only [List.getElem?_cons_zero, List.getElem?_cons_succ] at c0
  clear hB
  go_wp2_with fail
  refine (HM.out _).mono ?_
  rintro e w' ⟨rfl, rfl⟩
  go_wp2
  go_ret2
  rw [HR.out]
  exact ⟨rfl, HB1.out.alloc HB1.out.size _⟩
 ·have HR : Hid (clsOf E x f = 3) := vv (by rw [HC.out, if_neg a, if_neg c])
  have t1 : ((x : Int) == 0) = false := by rw [beq_eq_false_iff_ne]; omega
  have t2 : ((x : Int) == (m : Int)) = false := by rw [beq_eq_false_iff_ne]; omega
  clear a c
  go_enter Tryz.func91, Tryz.ntmps91
  go_wp2_with fail
  refine (HF.out _).mono ?_
  rintro e w1 ⟨rfl, hB⟩
  have HB1 := vn HB hB
  have c0 := (HQ.out.below hB).cell 0
  have cl := (HQ.out.below hB).lt
  simp only [List.getElem?_cons_zero, List.getElem?_cons_succ] at c0
  clear hB
  go_wp2_with fail
  refine (HM.out _).mono ?_
  rintro e w' ⟨rfl, rfl⟩
  go_wp2
  go_ret2
  rw [HR.out]
  exact ⟨rfl, HB1.out.alloc HB1.out.size _⟩
end Go.Proofs.YtddaldghlinokaaGreatDoor.Fms
namespace Go.Proofs.YtddaldghlinokaaGreatDoor.Pnt
open Go Go.RowKit R5 Scn
theorem Of (n : Nat) (w : World) (hn : n < 18446744073709551616) :
  Calls Tryz.prog 69 #[.int .u64 (n : Int)] w fun e w' => ∃ A m, e = .returned (natV A m m) /\ Rd w' A m m (toL n) /\ Fr w.heap.size A /\ Below w.heap.size w w' := by
 obtain ⟨lo, hlo⟩ := yx (n % 4294967296)
 obtain ⟨hi, hhi⟩ := yx (n / 4294967296)
 have h1 : (n : Int) % 4294967296 = (lo : Int) := by omega
 have h2 : (n : Int) / 4294967296 = (hi : Int) := by omega
 have h3 : (hi : Int) % 4294967296 = (hi : Int) := by omega
 have hv : val [lo, hi] = n := by simp [val]; omega
 have hlo2 : lo < 4294967296 := by omega
 have hhi2 : hi < 4294967296 := by omega
 obtain ⟨o1, o2⟩ := R1.two_words (w.alloc (.cells #[.slice none 0 0] 28)) lo hi hlo2 hhi2 34
 have hs : (w.alloc (.cells #[.slice none 0 0] 28)).heap.size = w.heap.size + 1 := by simp
 have hN : Blk (w.alloc (.cells #[.slice none 0 0] 28)) w.heap.size 28 [.slice none 0 0] := Blk.made w 28 [.slice none 0 0]
 have hB := (Below.refl w.heap.size w).alloc (o := .cells #[.slice none 0 0] 28) (Nat.le_refl _)
 have HN := vv (hN.below o2)
 have HB := vv (hB.trans (o2.mono (by simp)))
 rw [hs] at o1
 have HT := vv (Nat_.trimmed (some ⟨w.heap.size + 1, 0, none⟩) 2 2 [lo, hi] _ o1)
 rw [hv] at HT
 clear hlo hhi hn hv hlo2 hhi2 o1 o2 hs hN hB
 go_enter Tryz.func69, Tryz.ntmps69
 go_wp2_with fail
 refine HT.out.mono ?_
 rintro e w1 ⟨A', m, rfl, hR, hA, hB1⟩
 have HN1 := vv (HN.out.below hB1)
 have HB1 := vn HB hB1
 have c0 := HN1.out.cell 0
 have fz := HN1.out.fz 0
 have lt := HN1.out.lt
 simp only [List.getElem?_cons_zero] at c0
 have HFr : Hid (Fr (w.heap.size + 1) A') := vv (fun a e => by have := hA a e; cases this; exact ⟨Nat.le_refl _, rfl⟩)
 have HFin : Hid (Rd (w1.setCell ⟨w.heap.size, 0, none⟩ (.slice A' m m)) A' m m (toL n)) := vv (hR.other _ _ _ (fun a e => by have := (HFr.out a e).1; omega))
 have HBel : Hid (Below w.heap.size w (w1.setCell ⟨w.heap.size, 0, none⟩ (.slice A' m m))) := vv (HB1.out.setCell (Nat.le_refl _) _)
 have hcell : (w1.setCell ⟨w.heap.size, 0, none⟩ (.slice A' m m)).cell? ⟨w.heap.size, 0, none⟩ = some (.slice A' m m) := cell_eq c0
 clear hB1 hR hA
 go_wp2
 exact bodyPost_ret (v := natV A' m m) (by simp [results, Tryz.results69, go_sem, hcell]) rfl ⟨A', m, rfl, HFin.out, HFr.out.mono (Nat.le_succ _), HBel.out⟩
end Go.Proofs.YtddaldghlinokaaGreatDoor.Pnt
namespace Go.Proofs.YtddaldghlinokaaGreatDoor.Exa
open Go Go.RowKit R5 Scn
theorem even (A : Option Addr) (n c N : Nat) (w : World) (ha : Rd w A n c (toL N)) (h0 : 0 < N) (hs : Std w) (hn : n <= 16384) :
  Calls Tryz.prog 200 #[natV A n c] w fun e w' => e = .returned (.int .i64 ((tz N : Nat) : Int)) /\ Below w.heap.size w w' := by
 have hb : Below w.heap.size w (w.alloc (.cells #[.slice A n c] 28)) := (Below.refl _ _).alloc (Nat.le_refl _) _
 have HB := vv hb
 have hni : (n : Int) <= 16384 := by omega
 have HLT : Hid (N < 4294967296 ^ n) := vv (by have := ha.lt; rwa [val_toL] at this)
 have hpos : 0 < n := by
  rcases Nat.eq_zero_or_pos n with rfl | h
  ·have := HLT.out; rw [Nat.pow_zero] at this; omega
  ·exact h
 obtain ⟨b, off, rfl, hbl, hcell⟩ := ha.cell hpos
 have HC := vv hcell
 have HA := vv ha
 clear ha hcell hb
 go_enter Tryz.func200, Tryz.ntmps200
 go_wp2
 go_loop [3] (fun t => ∃ k : Nat, k < n /\ t = .int .i64 (32 * (k : Int)) /\ N % 4294967296 ^ k = 0) (fun t => 32 * n - (intOf t).toNat)
 case atStart => exact ⟨0, hpos, rfl, by rw [Nat.pow_zero, Nat.mod_one]⟩
 case round =>
  obtain ⟨k, hk, rfl, hz⟩ := hrel
  have HZ := vv hz
  clear hz
  have hx := HC.out k hk
  have hl := HA.out.nth_lt k
  have HNN := vv (nth_toL N k)
  have hkk : 32 * (k : Int) / 32 = (k : Int) := by omega
  have hki : (k : Int) < (n : Int) := by omega
  obtain ⟨y, hy⟩ := yx (nth (toL N) k)
  rw [<- hy] at hx hl HNN
  by_cases h0 : y = 0
  ·have h1 : ((y : Int) == 0) = true := by rw [h0]; rfl
   have HN : Hid (N % 4294967296 ^ (k + 1) = 0) := vv (by
    rw [Nat.pow_succ, Nat.mod_mul, HZ.out, <- HNN.out, h0]; simp)
   have hk1 : k + 1 < n := by
    rcases Nat.lt_or_ge (k + 1) n with h | h
    ·exact h
    ·exfalso
     have e : k + 1 = n := by omega
     have := HN.out
     rw [e, Nat.mod_eq_of_lt HLT.out] at this
     omega
   clear h0 hy
   go_wp2
   go_round
   case rel => exact ⟨k + 1, hk1, by go_num, HN.out⟩
   case measure => simp [intOf]; omega
  ·have h1 : ((y : Int) == 0) = false := by rw [beq_eq_false_iff_ne]; omega
   have HT := vv (tz_word HZ.out (by rw [<- HNN.out]; exact h0))
   have HBd : Hid (tz y <= 31) := vv (by
    have := tz_lt_bl (Nat.pos_of_ne_zero h0)
    have h2 : bl y <= 32 := bl_le (by omega)
    omega)
   have HE := vv (ctz32 (Nat.pos_of_ne_zero h0) hl)
   have HTZ := vv (tz32 y _ hl (Nat.pos_of_ne_zero h0) (hs.below HB.out))
   have HY := vv hy
   clear h0 hy
   go_wp2_with fail
   refine HTZ.out.mono ?_
   rintro e w' ⟨rfl, rfl⟩
   rw [HE.out]
   have hb31 := HBd.out
   go_wp2
   go_ret
   exact ⟨retI (by rw [HT.out, <- HNN.out]; omega), HB.out⟩
def DyP (neg : Bool) (N : Nat) (x : Int) (w : World) (e : Ending) (w' : World) : Prop :=
 ∃ A m, e = .returned (.tuple #[dyadV neg A m m x, .int .i64 0]) /\ Rd w' A m m (toL N) /\ Fr w.heap.size A /\ Below w.heap.size w w'
set_option maxRecDepth 100000 in
set_option maxHeartbeats 2000000 in
theorem Make0 (neg : Bool) (A : Option Addr) (c : Nat) (x : Int) (w : World) (ha : Rd w A 0 c (toL 0)) :
  Calls Tryz.prog 92 #[.bool neg, natV A 0 c, .int .i64 x] w (DyP false 0 0 w) := by
 obtain ⟨w0, hw0⟩ := yx ((w.alloc (.cells #[.slice A 0 c] 28)).alloc (.cells #[.bool false, .slice none 0 0, .int .i64 0] 30))
 have hb : Below w.heap.size w w0 := by rw [hw0]; exact ((Below.refl _ _).alloc (Nat.le_refl _) _).alloc (by simp) _
 have hQ : Blk w0 w.heap.size 28 [.slice A 0 c] := by rw [hw0]; exact (Blk.made w 28 [.slice A 0 c]).alloc _
 have hR : Blk w0 (w.heap.size + 1) 30 [.bool false, .slice none 0 0, .int .i64 0] := by
  rw [hw0]
  have := Blk.made (w.alloc (.cells #[.slice A 0 c] 28)) 30 [.bool false, .slice none 0 0, .int .i64 0]
  rwa [World.size_alloc] at this
 have HC := vv (Pnt.Check_ok (ha.below hb rfl) (Nat.zero_le _))
 have HNo := vv fun w => none_0 A c w
 have HB := vv hb
 have HQ := vv hQ
 have HR := vv hR
 have HW := vv hw0
 clear hb hQ hR hw0 ha
 go_enter Tryz.func92, Tryz.ntmps92
 go_wp2_with fail
 rw [<- HW.out]
 refine HC.out.mono ?_
 rintro e w1 ⟨rfl, hB⟩
 have HR1 := vv (HR.out.below hB)
 have HB1 := vn HB hB
 have c0 := (HQ.out.below hB).cell 0
 have cl := (HQ.out.below hB).lt
 simp only [List.getElem?_cons_zero] at c0
 clear hB
 go_wp2_with fail
 refine (HNo.out _).mono ?_
 rintro e w2 ⟨rfl, hB⟩
 have HR2 := vv (HR1.out.below hB)
 have HB2 := vn HB1 hB
 clear hB c0 cl
 go_wp2_with (with_reducible refine wpList_store_blk rfl 30 (.tmp 6) (.tmp 20) rfl (w.heap.size + 1) [.bool false, .slice none 0 0, .int .i64 0] rfl rfl 30 _ HR2.out (by kernel_rfl) rfl rfl ?_)
 intro w8 hB hg8
 have HB8 := vv (only_below HB2.out hg8 HB2.out.size (Nat.le_succ _))
 obtain ⟨k0, k1, k2⟩ := Fms.blk3 hB
 have K := vv (And.intro k0 (And.intro k1 k2))
 clear hB hg8 k0 k1 k2
 go_wp2
 obtain ⟨k0, k1, k2⟩ := K.out
 exact bodyPost_ret (v := .tuple #[dyadV false none 0 0 0, .int .i64 0]) (by simp [results, Tryz.results92, go_sem, k0, k1, k2]) rfl ⟨none, 0, rfl, Rd.nil _, Fr.none_ _, HB8.out⟩
set_option maxRecDepth 100000 in
set_option maxHeartbeats 2000000 in
theorem Make (neg : Bool) (A : Option Addr) (n c N : Nat) (x : Int) (w : World) (ha : Rd w A n c (toL N)) (h0 : 0 < N) (hs : Std w) (hn : n <= 16384) (hx : -1073741824 <= x) (hx2 : x + (tz N : Int) <= 1073741824) :
  Calls Tryz.prog 92 #[.bool neg, natV A n c, .int .i64 x] w (DyP neg (N / 2 ^ tz N) (x + (tz N : Int)) w) := by
 obtain ⟨w0, hw0⟩ := yx ((w.alloc (.cells #[.slice A n c] 28)).alloc (.cells #[.bool false, .slice none 0 0, .int .i64 0] 30))
 have hb : Below w.heap.size w w0 := by rw [hw0]; exact ((Below.refl _ _).alloc (Nat.le_refl _) _).alloc (by simp) _
 have hQ : Blk w0 w.heap.size 28 [.slice A n c] := by rw [hw0]; exact (Blk.made w 28 [.slice A n c]).alloc _
 have hR : Blk w0 (w.heap.size + 1) 30 [.bool false, .slice none 0 0, .int .i64 0] := by
  rw [hw0]
  have := Blk.made (w.alloc (.cells #[.slice A n c] 28)) 30 [.bool false, .slice none 0 0, .int .i64 0]
  rwa [World.size_alloc] at this
 have HC := vv (Pnt.Check_ok (ha.below hb rfl) hn)
 have HB := vv hb
 have HQ := vv hQ
 have HR := vv hR
 have HW := vv hw0
 have hpos : 0 < n := by
  rcases Nat.eq_zero_or_pos n with rfl | h
  ·have := ha.lt; rw [val_toL, Nat.pow_zero] at this; omega
  ·exact h
 have hbl : bl N <= 524288 := by
  have h := ha.lt
  rw [val_toL, pow32] at h
  have := bl_le h
  omega
 have htz := tz_lt_bl h0
 have HNo := vv fun w => none_pos A n c w hpos
 have HEv := vv fun w' (h : Below w.heap.size w w') => even A n c N w' (ha.below h rfl) h0 (hs.below h) hn
 have HDn := vv fun w' (h : Below w.heap.size w w') => Pnt.Down A n c N (tz N) w' (ha.below h rfl) hn (by omega)
 obtain ⟨z, hz⟩ := yx (tz N)
 rw [<- hz] at HEv HDn htz hx2 ⊢
 have hzi : (z : Int) <= 524288 := by omega
 have HFa := vv fun w => far (x + (z : Int)) w
 have hfar : Dec.farB (x + (z : Int)) = false := by unfold Dec.farB; rw [decide_eq_false (by omega), decide_eq_false (by omega)]; rfl
 rw [hfar] at HFa
 clear hb hQ hR hw0 ha h0 hs hpos hbl htz hz hfar hn
 go_enter Tryz.func92, Tryz.ntmps92
 go_wp2_with fail
 rw [<- HW.out]
 refine HC.out.mono ?_
 rintro e w1 ⟨rfl, hB⟩
 have HQ1 := vv (HQ.out.below hB)
 have HR1 := vv (HR.out.below hB)
 have HB1 := vn HB hB
 have c0 := HQ1.out.cell 0
 have cl := HQ1.out.lt
 simp only [List.getElem?_cons_zero] at c0
 clear hB
 go_wp2_with fail
 refine (HNo.out _).mono ?_
 rintro e w2 ⟨rfl, hB⟩
 have HQ2 := vv (HQ1.out.below hB)
 have HR2 := vv (HR1.out.below hB)
 have HB2 := vn HB1 hB
 have c0 := HQ2.out.cell 0
 have cl := HQ2.out.lt
 simp only [List.getElem?_cons_zero] at c0
 clear hB
 go_wp2_with fail
 refine (HEv.out _ HB2.out).mono ?_
 rintro e w3 ⟨rfl, hB⟩
 have HQ3 := vv (HQ2.out.below hB)
 have HR3 := vv (HR2.out.below hB)
 have HB3 := vn HB2 hB
 have c0 := HQ3.out.cell 0
 have cl := HQ3.out.lt
 simp only [List.getElem?_cons_zero] at c0
 clear hB
 go_wp2_with fail
 refine (HFa.out _).mono ?_
 rintro e w' ⟨rfl, rfl⟩
 go_wp2_with fail
 refine (HDn.out _ HB3.out).mono ?_
 rintro e w4 ⟨A4, m, rfl, hR4, hF4, hB⟩
 have hb5 : Below w4.heap.size w4 (w4.alloc (.cells #[.slice A4 m m] 28)) := (Below.refl _ _).alloc (Nat.le_refl _) _
 have HR5 := vv ((HR3.out.below hB).below hb5)
 have HB5 := vv (HB3.out.trans ((hB.trans (hb5.mono hB.size)).mono HB3.out.size))
 have HRd5 := vv (hR4.below hb5 rfl)
 have HFr : Hid (Fr (w.heap.size + 2) A4) := vv (hF4.mono HR3.out.lt)
 clear hR4 hF4 hB hb5
 go_wp2_with (with_reducible refine wpList_store_blk rfl 30 (.tmp 6) (.tmp 52) rfl (w.heap.size + 1) [.bool neg, .slice A4 m m, .int .i64 (x + (z : Int))] rfl rfl 30 _ HR5.out (by kernel_rfl) rfl rfl ?_)
 intro w8 hB hg8
 have HB8 := vv (only_below HB5.out hg8 HB5.out.size (Nat.le_succ _))
 have HRd8 := vv (HRd5.out.only hg8 (fun a e => by have := (HFr.out a e).1; omega))
 obtain ⟨k0, k1, k2⟩ := Fms.blk3 hB
 have K := vv (And.intro k0 (And.intro k1 k2))
 clear hB hg8 k0 k1 k2
 go_wp2
 obtain ⟨k0, k1, k2⟩ := K.out
 exact bodyPost_ret (v := .tuple #[dyadV neg A4 m m (x + (z : Int)), .int .i64 0]) (by simp [results, Tryz.results92, go_sem, k0, k1, k2]) rfl ⟨A4, m, rfl, HRd8.out, HFr.out.mono (by omega), HB8.out⟩
end Go.Proofs.YtddaldghlinokaaGreatDoor.Exa
namespace Go.Proofs.YtddaldghlinokaaGreatDoor.Exa
open Go Go.RowKit R5 Scn Fms
def mantOf (F x f : Nat) : Nat := if x = 0 then f else f + 2 ^ F
def powOf (E F x : Nat) : Int := 2 - (2 ^ (E - 1) : Nat) - F + (if x = 0 then 0 else (x : Int) - 1)
def ValP (neg : Bool) (M : Nat) (p : Int) (w : World) (e : Ending) (w' : World) : Prop :=
 if M = 0 then DyP false 0 0 w e w' else DyP neg (M / 2 ^ tz M) (p + (tz M : Int)) w e w'
set_option maxRecDepth 100000 in
set_option maxHeartbeats 4000000 in
theorem Value (E F b : Nat) (w : World) (h1 : 2 <= E) (h2 : E <= 11) (h3 : 1 <= F) (h4 : F <= 52) (hb : b < 2 ^ (1 + E + F)) (hf : expOf E F b ≠ R3.tw E - 1) (hs : Std w) :
  Calls Tryz.prog 22 #[fm E F, .int .u64 (b : Int)] w (ValP (negOf E F b) (mantOf F (expOf E F b) (fracOf F b)) (powOf E F (expOf E F b)) w) := by
 have HSp := vv fun w => Split E F b w h1 h2 h3 h4 hb
 have HCl := vv fun w => Class E F b w h1 h2 h3 h4 hb
 have hx2 : expOf E F b < 2 ^ 11 := Nat.lt_of_lt_of_le (Nat.mod_lt _ (Nat.two_pow_pos _)) (Nat.pow_le_pow_right (by decide) h2)
 have hf2 : fracOf F b < 2 ^ F := Nat.mod_lt _ (Nat.two_pow_pos _)
 obtain ⟨x, hx⟩ := yx (expOf E F b)
 obtain ⟨f, hfe⟩ := yx (fracOf F b)
 obtain ⟨neg, hneg⟩ := yx (negOf E F b)
 rw [<- hx] at HSp HCl hx2 hf ⊢
 rw [<- hfe] at HSp HCl hf2 ⊢
 rw [<- hneg] at HSp ⊢
 obtain ⟨Po, hPo⟩ := yx (ValP neg (mantOf F x f) (powOf E F x) w)
 rw [<- hPo]
 have HPoE := vv hPo
 clear hPo
 have hF52 : 2 ^ F <= 2 ^ 52 := Nat.pow_le_pow_right (by decide) h4
 have hP10 : 2 ^ (E - 1) <= 2 ^ 10 := Nat.pow_le_pow_right (by decide) (by omega)
 obtain ⟨P, hP⟩ := yx (2 ^ (E - 1))
 rw [<- hP] at hP10
 have hxi : (x : Int) <= 2047 := by omega
 have hEi : (E : Int) <= 11 := by omega
 have hE1 : (2 : Int) <= (E : Int) := by omega
 have hFi : (F : Int) <= 52 := by omega
 have hPi : (P : Int) <= 1024 := by omega
 obtain ⟨w0, hw0⟩ := yx ((w.alloc (.cells #[.int .i64 (E : Int), .int .i64 (F : Int)] 23)).alloc (.cells #[.bool false, .slice none 0 0, .int .i64 0] 30))
 have hB : Below w.heap.size w w0 := by rw [hw0]; exact ((Below.refl _ _).alloc (Nat.le_refl _) _).alloc (by simp) _
 have hR : Blk w0 (w.heap.size + 1) 30 [.bool false, .slice none 0 0, .int .i64 0] := by
  rw [hw0]
  have := Blk.made (w.alloc (.cells #[.int .i64 (E : Int), .int .i64 (F : Int)] 23)) 30 [.bool false, .slice none 0 0, .int .i64 0]
  rwa [World.size_alloc] at this
 have hQ : Blk w0 w.heap.size 23 [.int .i64 (E : Int), .int .i64 (F : Int)] := by
  rw [hw0]
  exact (Blk.made w 23 [.int .i64 (E : Int), .int .i64 (F : Int)]).alloc _
 have HW := vv hw0
 have HB := vv hB
 have HR := vv hR
 have HQ := vv hQ
 have HS := vv hs
 have hw1 : IntKind.i64.wrap ((E : Int) - 1) = (E : Int) - 1 := IntWalk.i64_in _ (by omega)
 have hw2 : IntKind.i64.wrap (2 - (P : Int)) = 2 - (P : Int) := IntWalk.i64_in _ (by omega)
 have hw3 : IntKind.i64.wrap (2 - (P : Int) - (F : Int)) = 2 - (P : Int) - (F : Int) := IntWalk.i64_in _ (by omega)
 have HWr := vv (And.intro hw1 (And.intro hw2 hw3))
 have HX := vv hx
 have HPe := vv hP
 have HHs := vv (And.intro hf (And.intro hf2 hF52))
 have HH := vv (And.intro h1 (And.intro h2 (And.intro h3 h4)))
 clear hx hfe hneg hb hw0 hB hR hQ hs hw1 hw2 hw3 hP h1 h2 h3 h4 hf hf2 hF52 hx2 hP10
 go_enter Tryz.func22, Tryz.ntmps22
 go_wp2_with fail
 rw [<- HW.out]
 refine (HSp.out _).mono ?_
 rintro e w1 ⟨rfl, hB⟩
 have hb2 : Below w1.heap.size w1 (w1.alloc (.cells #[.bool neg, .int .i64 (x : Int), .int .u64 (f : Int)] 100)) := (Below.refl _ _).alloc (Nat.le_refl _) _
 obtain ⟨w2, hw2⟩ := yx (w1.alloc (.cells #[.bool neg, .int .i64 (x : Int), .int .u64 (f : Int)] 100))
 have hP2 : Blk w2 w1.heap.size 100 [.bool neg, .int .i64 (x : Int), .int .u64 (f : Int)] := by rw [hw2]; exact Blk.made w1 100 [.bool neg, .int .i64 (x : Int), .int .u64 (f : Int)]
 rw [<- hw2] at hb2
 have HW2 := vv hw2
 have HP2 := vv hP2
 have HR2 := vv ((HR.out.below hB).below hb2)
 have HQ2 := vv ((HQ.out.below hB).below hb2)
 have HB2 := vv (HB.out.trans ((hB.trans (hb2.mono hB.size)).mono HB.out.size))
 have c0 := (HQ.out.below hB).cell 0
 have c1 := (HQ.out.below hB).cell 1
 have cl := (HQ.out.below hB).lt
 simp only [List.getElem?_cons_zero, List.getElem?_cons_succ] at c0 c1
 clear hB hb2 hw2 hP2
 go_wp2_with fail
 rw [<- HW2.out]
 refine (HCl.out _).mono ?_
 rintro e w3 ⟨rfl, hB⟩
 have HP3 := vv (HP2.out.below hB)
 have HR3 := vv (HR2.out.below hB)
 have HQ3 := vv (HQ2.out.below hB)
 have HB3 := vn HB2 hB
 obtain ⟨p0, p1, p2⟩ := blk3 HP3.out
 have c0 := HQ3.out.cell 0
 have c1 := HQ3.out.cell 1
 have cl := HQ3.out.lt
 have pl := HP3.out.lt
 simp only [List.getElem?_cons_zero, List.getElem?_cons_succ] at c0 c1
 clear hB
 go_wp2_with fail
 refine wp_region_sch (fun w' => w'.cell? ⟨w.heap.size, 0, none⟩ = some (.int .i64 (E : Int)) /\ w'.cell? ⟨w.heap.size, 1, none⟩ = some (.int .i64 (F : Int)) /\ w'.cell? ⟨w1.heap.size, 2, none⟩ = some (.int .u64 (f : Int))) 12
  (.still 0 (.still 1 (.still 2 (.still 3 (.still 4 (.still 5 (.still 6 (.still 7 (.still 8 (.still 9 (.still 10 (.still 11 .done)))))))))))) (by kernel_rfl) (by kernel_rfl) (fun _ _ d _ _ h => by cases d <;> exact h) ⟨c0, c1, p2⟩ (fun hS0 => ?_)
 obtain ⟨hw1, hw2, hw3⟩ := HWr.out
 iterate 12
  refine sch_still (v := ?_) rfl (by rfl) ?_ ?_
  rotate_left
  ·intro w hSw; go_simp; with_reducible rfl
  simp only [Act.put, List.setIfInBounds_toArray, List.set_cons_zero, List.set_cons_succ]
 refine sch_end rfl ?_
 have hp : IntKind.i64.wrap ((2 : Int) ^ (E - 1)) = (P : Int) := by
  rw [show ((2 : Int) ^ (E - 1)) = ((2 ^ (E - 1) : Nat) : Int) by simp, <- HPe.out]
  exact IntWalk.i64_in _ (by omega)
 rw [hp, hw2, hw3]
 clear hw1 hw2 hw3 hp HWr hS0 c0 c1 cl pl p0 p1 p2
 obtain ⟨B, hBv⟩ := yx (2 - (P : Int) - (F : Int))
 have hB1 : -2000 <= B := by omega
 have hB2 : B <= 2 := by omega
 rw [<- hBv]
 have HBv := vv hBv
 have HP4 := vv (HP3.out.below (below_drew (Below.refl _ _)))
 have HR4 := vv (HR3.out.below (below_drew (Below.refl _ _)))
 have HQ4 := vv (HQ3.out.below (below_drew (Below.refl _ _)))
 have HB4 : Hid (Below w.heap.size w w3.drew) := vv (below_drew HB3.out)
 obtain ⟨w4, hw4⟩ := yx (w3.drew)
 rw [<- hw4] at HP4 HR4 HQ4 HB4 ⊢
 clear hw4 hBv HP3 HR3 HQ3 HB3 HP2 HR2 HQ2 HB2 HR HQ HB
 obtain ⟨p0, p1, p2⟩ := blk3 HP4.out
 have c0 := HQ4.out.cell 0
 have c1 := HQ4.out.cell 1
 have cl := HQ4.out.lt
 have pl := HP4.out.lt
 simp only [List.getElem?_cons_zero, List.getElem?_cons_succ] at c0 c1
 obtain ⟨c, hc⟩ := yx (clsOf E x f)
 rw [<- hc]
 have hcc : (x = 0 /\ f = 0 /\ c = 1) \/ (x = 0 /\ f ≠ 0 /\ c = 2) \/ (x ≠ 0 /\ c = 3) := by
  have := HHs.out.1
  rw [hc]; unfold clsOf
  by_cases h : x = 0
  ·by_cases h' : f = 0
   ·exact Or.inl ⟨h, h', by rw [if_pos h, if_pos h']⟩
   ·exact Or.inr (Or.inl ⟨h, h', by rw [if_pos h, if_neg h']⟩)
  ·exact Or.inr (Or.inr ⟨h, by rw [if_neg h, if_neg this]⟩)
 clear hc
 obtain ⟨M, hM⟩ := yx (mantOf F x f)
 obtain ⟨p, hp⟩ := yx (powOf E F x)
 have hV : M < 2 ^ 53 /\ -2000 <= p /\ p <= 2050 := by
  have h := HHs.out
  unfold mantOf at hM
  unfold powOf at hp
  rw [<- HPe.out, <- HBv.out] at hp
  split at hM
  next e => rw [if_pos e] at hp; omega
  next e => rw [if_neg e] at hp; omega
 rcases hcc with ⟨hx0, hf0, rfl⟩ | ⟨hx0, hf0, rfl⟩ | ⟨hx0, rfl⟩
 case' inr.inr =>
  have h1 : IntKind.i64.wrap ((x : Int) - 1) = (x : Int) - 1 := IntWalk.i64_in _ (by omega)
  have h2 : IntKind.i64.wrap (B + ((x : Int) - 1)) = p := by
   rw [hp]; unfold powOf; rw [if_neg hx0, <- HPe.out, <- HBv.out]; exact IntWalk.i64_in _ (by omega)
  have H3 : Hid (IntKind.u64.wrap ((2 : Int) ^ F) = ((2 ^ F : Nat) : Int)) := vv (R5.wu_pow (by omega))
  have HOr : Hid (bits .or .u64 (f : Int) ((2 ^ F : Nat) : Int) = (M : Int)) := vv (by
   have h := HHs.out
   rw [u64_or_nat _ _ (by omega) (by omega), hM]
   unfold mantOf
   rw [if_neg hx0, Nat.or_comm]
   have h := Nat.two_pow_add_eq_or_of_lt (i := F) (b := f) (by omega) 1
   rw [Nat.mul_one] at h
   rw [<- h, Nat.add_comm])
  clear hx0
  have HM := vv hM
  have HP := vv hp
  have HV := vv hV
  clear hM hp hV
  go_wp2_with fail
  rw [H3.out, HOr.out]
  clear h1 h2 H3 HOr
 case' inl =>
  have e1 : f = M := by rw [hM]; unfold mantOf; rw [if_pos hx0]
  have e2 : B = p := by rw [hp]; unfold powOf; rw [if_pos hx0, HBv.out, HPe.out]; omega
  rw [e1, e2]
  clear hx0 hf0
  have HM := vv hM
  have HP := vv hp
  have HV := vv hV
  clear hM hp hV e1 e2
  go_wp2_with fail
 case' inr.inl =>
  have e1 : f = M := by rw [hM]; unfold mantOf; rw [if_pos hx0]
  have e2 : B = p := by rw [hp]; unfold powOf; rw [if_pos hx0, HBv.out, HPe.out]; omega
  rw [e1, e2]
  clear hx0 hf0
  have HM := vv hM
  have HP := vv hp
  have HV := vv hV
  clear hM hp hV e1 e2
  go_wp2_with fail
 all_goals
  have HPoE : Hid (∀ e w', ValP neg M p w e w' -> Po e w') := vv (by rw [HPoE.out, <- HM.out, <- HP.out]; exact fun _ _ h => h)
  have HOf := vv fun w => Pnt.Of M w (by have := HV.out.1; omega)
  have HSt := vv (HS.out.below HB4.out)
  clear c0 c1 cl p1 p2 HP HX HHs HBv HM HCl HSp
  refine wp_region_sch (fun w' => w'.cell? ⟨w1.heap.size, 0, none⟩ = some (.bool neg)) 8
   (.still 0 (.still 1 (.still 2 (.still 4 (.one 3 (.one 5 (.still 6 (.still 7 .done)))))))) (by kernel_rfl) (by kernel_rfl) (fun _ _ d _ _ h => by cases d <;> exact h) p0 (fun hS0 => ?_)
  iterate 4
   refine sch_still (v := ?_) rfl (by rfl) ?_ ?_
   rotate_left
   ·intro w hSw; go_simp; with_reducible rfl
   simp only [Act.put, List.setIfInBounds_toArray, List.set_cons_zero, List.set_cons_succ]
  refine sch_one rfl (by rfl) (fun K hK => ?_)
  go_simp
  refine (HOf.out _).mono ?_
  rintro e w5 ⟨A, m, rfl, hA, hF, hB⟩
  have hB : Below w4.heap.size w4 w5 := ⟨hB.os, hB.tape, hB.output, hB.size, hB.block⟩
  have HP5 := vv (HP4.out.below hB)
  have HR5 := vv (HR4.out.below hB)
  have HB5 := vn HB4 hB
  have HSt5 := vv (HSt.out.below hB)
  have HF5 := vv (hF.mono (Nat.le_trans HB4.out.size (Nat.le_refl _)))
  have HA5 := vv hA
  clear hB hF hA
  go_wp2_with fail
  refine hK.out _ _ (HP5.out.cell 0) (fun hHeld => ?_)
  clear hK
  have HMk : Hid (∃ ng N2 x2, Calls Tryz.prog 92 #[.bool neg, natV A m m, .int .i64 p] w5 (DyP ng N2 x2 w5) /\ ∀ e w', DyP ng N2 x2 w e w' -> Po e w') := vv (by
   have hA := HA5.out
   have hm : m <= 2 := hA.bound (by have := HV.out.1; omega)
   by_cases h0 : M = 0
   ·refine ⟨false, 0, 0, ?_, fun e w' h => HPoE.out e w' (by unfold ValP; rw [if_pos h0]; exact h)⟩
    rw [h0, toL_zero] at hA
    have : m = 0 := hA.len.symm
    subst this
    exact Make0 neg A 0 p w5 (by rw [toL_zero]; exact hA)
   ·have ht := tz_lt_bl (Nat.pos_of_ne_zero h0)
    have hb := bl_le HV.out.1
    have hv := HV.out
    exact ⟨neg, _, _, Make neg A m m M p w5 hA (Nat.pos_of_ne_zero h0) HSt5.out (by omega) (by omega) (by omega), fun e w' h => HPoE.out e w' (by unfold ValP; rw [if_neg h0]; exact h)⟩)
  obtain ⟨ng, N2, x2, hMk, hPo⟩ := HMk.out
  have HMk := vv hMk
  have HPo := vv hPo
  clear hMk hPo HA5 HV
  refine sch_one rfl (by rfl) (fun K hK => ?_)
  go_simp
  refine HMk.out.mono ?_
  rintro e w6 ⟨A6, m6, rfl, hA6, hF6, hB⟩
  have HP6 := vv (HP5.out.below hB)
  have HR6 := vv (HR5.out.below hB)
  have HB6 := vn HB5 hB
  have HF6 := vv (hF6.mono HR5.out.lt)
  have HA6 := vv hA6
  clear hB hF6 hA6
  go_wp2_with fail
  refine hK.out _ _ (HP6.out.cell 0) (fun hHeld => ?_)
  clear hK
  iterate 2
   refine sch_still (v := ?_) rfl (by rfl) ?_ ?_
   rotate_left
   ·intro w hSw; go_simp; with_reducible rfl
   simp only [Act.put, List.setIfInBounds_toArray, List.set_cons_zero, List.set_cons_succ]
  refine sch_done ?_
  simp only [List.drop_succ_cons, List.drop_zero]
  go_wp2_with (with_reducible refine wpList_store_blk rfl 30 (.tmp 4) (.tmp 63) rfl (w.heap.size + 1) [.bool ng, .slice A6 m6 m6, .int .i64 x2] rfl rfl 30 _ HR6.out (by kernel_rfl) rfl rfl ?_)
  all_goals
   intro w8 hB hg8
   have HB8 := vv (only_below HB6.out hg8 HB6.out.size (Nat.le_succ _))
   have HRd8 := vv (HA6.out.only hg8 (fun a e => by have := (HF6.out a e).1; omega))
   obtain ⟨k0, k1, k2⟩ := Fms.blk3 hB
   have K := vv (And.intro k0 (And.intro k1 k2))
   clear hB hg8 k0 k1 k2
   go_wp2
   obtain ⟨k0, k1, k2⟩ := K.out
   exact bodyPost_ret (v := .tuple #[dyadV ng A6 m6 m6 x2, .int .i64 0]) (by simp [results, Tryz.results22, go_sem, k0, k1, k2]) rfl (HPo.out _ _ ⟨A6, m6, rfl, HRd8.out, HF6.out.mono (by omega), HB8.out⟩)
end Go.Proofs.YtddaldghlinokaaGreatDoor.Exa
namespace Go.Proofs.YtddaldghlinokaaGreatDoor.Pnt
open Go Go.RowKit R5 Scn
theorem ncmp (A B : Option Addr) (n m c d : Nat) (xs ys : List Nat) (w : World) (ha : Rd w A n c xs) (hb : Rd w B m d ys) (hx : xs = toL (val xs)) (hy : ys = toL (val ys)) :
  Calls Tryz.prog 203 #[.slice A n c, .slice B m d] w fun e w' => e = .returned (.int .i64 (cmpI (val xs) (val ys))) /\ Below w.heap.size w w' := by
 have hsm := ha.sm
 have hsm' := hb.sm
 have hwx : words (val xs) = n := by unfold words; rw [<- hx, ha.len]
 have hwy : words (val ys) = m := by unfold words; rw [<- hy, hb.len]
 have HX := vv hwx
 have HY := vv hwy
 clear hwx hwy
 clear hx hy
 rcases Nat.lt_trichotomy n m with h | h | h
 ·have C := vv (cmpI_lt (lt_of_words (a := val xs) (b := val ys) (by rw [HX.out, HY.out]; exact h)))
  go_enter Tryz.func203, Tryz.ntmps203
  go_wp2
  go_ret
  exact ⟨retI C.out.symm, Below.refl _ _⟩
 ·subst h
  go_enter Tryz.func203, Tryz.ntmps203
  go_wp2
  go_loopw [5] (fun i wr => ∃ (z : Int) (k : Nat), i = .int .i64 z /\ z + 1 = k /\ k <= n /\ val (xs.drop k) = val (ys.drop k) /\ Below w.heap.size w wr) (fun i _ => (intOf i + 1).toNat)
  case atStart => exact ⟨_, n, rfl, by omega, Nat.le_refl _, by rw [List.drop_of_length_le (by rw [ha.len]; omega), List.drop_of_length_le (by rw [hb.len]; omega)], Below.refl _ _⟩
  case round =>
   obtain ⟨z, k, rfl, hz, hk, hval, hbel⟩ := hrel
   have HV := vv hval
   clear hval
   rcases Nat.eq_zero_or_pos k with rfl | hpos
   ·obtain rfl : z = -1 := by omega
    have C := vv (cmpI_eq (a := val xs) (b := val ys) (by have := HV.out; simpa using this))
    clear hz
    go_wp2
    go_ret
    exact ⟨retI C.out.symm, hbel⟩
   ·obtain ⟨j, rfl⟩ : ∃ j, k = j + 1 := ⟨k - 1, by omega⟩
    obtain rfl : z = (j : Int) := by omega
    clear hz
    obtain ⟨b, off, rfl, hbl, hcell⟩ := ha.cell (by omega)
    have hxc : wr.cell? ⟨b, off + j, none⟩ = some (.int .u32 ((nth xs j : Nat) : Int)) := (hbel.cell (p := ⟨b, off + j, none⟩) hbl).trans (hcell j (by omega))
    clear hcell
    obtain ⟨b', off', rfl, hbl', hcell'⟩ := hb.cell (by omega)
    have hyc : wr.cell? ⟨b', off' + j, none⟩ = some (.int .u32 ((nth ys j : Nat) : Int)) := (hbel.cell (p := ⟨b', off' + j, none⟩) hbl').trans (hcell' j (by omega))
    clear hcell'
    have i1 : (j : Int) < (n : Int) := by omega
    have i2 : (0 : Int) <= (j : Int) := by omega
    rcases Nat.lt_trichotomy (nth xs j) (nth ys j) with hlt | heq | hgt
    ·have C := vv (cmpI_lt (lt_of_top ha.lim (by rw [ha.len]; omega) (by rw [hb.len]; omega) HV.out hlt))
     go_wp2_with fail
     go_quiet (fail)
     go_wp2
     go_ret
     exact ⟨retI C.out.symm, below_drewN hbel _⟩
    ·have d1 : decide (nth xs j < nth ys j) = false := by simp; omega
     have d2 : decide (nth ys j < nth xs j) = false := by simp; omega
     have HQ : Hid (val (xs.drop j) = val (ys.drop j)) := vv (by rw [val_drop_nth xs, val_drop_nth ys, HV.out, heq])
     clear heq
     go_wp2_with fail
     go_quiet (fail)
     go_wp2_with fail
     go_quiet (fail)
     go_wp2
     go_roundw
     case rel => exact ⟨_, j, rfl, by omega, by omega, HQ.out, below_drewN hbel _⟩
     case measure => simp [intOf]
    ·have C := vv (cmpI_gt (lt_of_top hb.lim (by rw [hb.len]; omega) (by rw [ha.len]; omega) HV.out.symm hgt))
     have d1 : decide (nth xs j < nth ys j) = false := by simp; omega
     go_wp2_with fail
     go_quiet (fail)
     go_wp2_with fail
     go_quiet (fail)
     go_wp2
     go_ret
     exact ⟨retI C.out.symm, below_drewN (below_drewN hbel _) _⟩
 ·have C := vv (cmpI_gt (lt_of_words (a := val ys) (b := val xs) (by rw [HX.out, HY.out]; exact h)))
  go_enter Tryz.func203, Tryz.ntmps203
  go_wp2
  go_ret
  exact ⟨retI C.out.symm, Below.refl _ _⟩
theorem cmp_ (A B : Option Addr) (n m c d N M : Nat) (w : World) (ha : Rd w A n c (toL N)) (hb : Rd w B m d (toL M)) :
  Calls Tryz.prog 203 #[.slice A n c, .slice B m d] w fun e w' => e = .returned (.int .i64 (cmpI N M)) /\ Below w.heap.size w w' := by
 have h := ncmp A B n m c d (toL N) (toL M) w ha hb (by rw [val_toL]) (by rw [val_toL])
 rwa [val_toL, val_toL] at h
set_option maxHeartbeats 1000000 in
theorem checks2 (A B : Option Addr) (n m c d N M g : Nat) (w : World) (ha : Rd w A n c (toL N)) (hb : Rd w B m d (toL M)) (hn : n <= 16384) (hm : m <= 16384) (hQ : Blk w g 28 [.slice A n c, .slice B m d]) :
  Calls Tryz.prog 202 #[.slice (some ⟨g, 0, none⟩) 2 2] w fun e w' => e = .returned (.int .i64 0) /\ Below w.heap.size w w' := by
 have HA := vv fun w' (h : Below w.heap.size w w') => Check_ok (ha.below h rfl) hn
 have HB := vv fun w' (h : Below w.heap.size w w') => Check_ok (hb.below h rfl) hm
 have HQ := vv hQ
 clear ha hb hn hm hQ
 go_enter Tryz.func202, Tryz.ntmps202
 go_wp2_with fail
 go_loopw [8] (fun i wr => ∃ k : Nat, k <= 2 /\ i = .int .i64 (k : Int) /\ Below w.heap.size w wr) (fun i _ => (2 - intOf i).toNat)
 case atStart => exact ⟨0, by decide, rfl, Below.refl _ _⟩
 case round =>
  obtain ⟨k, hk, rfl, hbel⟩ := hrel
  have HBe := vv hbel
  have c0 := (HQ.out.below hbel).cell 0
  have c1 := (HQ.out.below hbel).cell 1
  have cl := (HQ.out.below hbel).lt
  simp only [List.getElem?_cons_zero, List.getElem?_cons_succ] at c0 c1
  clear hbel
  rcases (by omega : k = 0 \/ k = 1 \/ k = 2) with rfl | rfl | rfl
  ·go_wp2_with fail
   have hb2 := HBe.out.alloc HBe.out.size (.cells #[.slice A n c] 28)
   refine (HA.out _ hb2).mono ?_
   rintro e w2 ⟨rfl, hB⟩
   have HB2 := vv (hb2.trans (hB.mono hb2.size))
   clear hB c0 c1 cl hb2
   go_wp2
   go_roundw
   case rel => exact ⟨1, by decide, rfl, HB2.out⟩
   case measure => simp [intOf]
  ·go_wp2_with fail
   have hb2 := HBe.out.alloc HBe.out.size (.cells #[.slice B m d] 28)
   refine (HB.out _ hb2).mono ?_
   rintro e w2 ⟨rfl, hB⟩
   have HB2 := vv (hb2.trans (hB.mono hb2.size))
   clear hB c0 c1 cl hb2
   go_wp2
   go_roundw
   case rel => exact ⟨2, by decide, rfl, HB2.out⟩
   case measure => simp [intOf]
  ·go_wp2
   go_ret
   exact ⟨rfl, HBe.out⟩
set_option maxHeartbeats 1000000 in
theorem Cmp (A B : Option Addr) (n m c d N M : Nat) (w : World) (ha : Rd w A n c (toL N)) (hb : Rd w B m d (toL M)) (hn : n <= 16384) (hm : m <= 16384) :
  Calls Tryz.prog 96 #[natV A n c, natV B m d] w fun e w' => e = .returned (.tuple #[.int .i64 (cmpI N M), .int .i64 0]) /\ Below w.heap.size w w' := by
 have HK := vv fun g w' (h : Below w.heap.size w w') (hQ : Blk w' g 28 [.slice A n c, .slice B m d]) => checks2 A B n m c d N M g w' (ha.below h rfl) (hb.below h rfl) hn hm hQ
 have HM := vv fun w' (h : Below w.heap.size w w') => cmp_ A B n m c d N M w' (ha.below h rfl) (hb.below h rfl)
 obtain ⟨w0, hw0⟩ := yx (((w.alloc (.cells #[.slice A n c] 28)).alloc (.cells #[.slice B m d] 28)))
 have hB : Below w.heap.size w w0 := by rw [hw0]; exact ((Below.refl _ _).alloc (Nat.le_refl _) _).alloc (by simp) _
 have hA : Blk w0 w.heap.size 28 [.slice A n c] := by rw [hw0]; exact (Blk.made w 28 [.slice A n c]).alloc _
 have hD : Blk w0 (w.heap.size + 1) 28 [.slice B m d] := by
  rw [hw0]
  have := Blk.made (w.alloc (.cells #[.slice A n c] 28)) 28 [.slice B m d]
  rwa [World.size_alloc] at this
 have HW := vv hw0
 have HB := vv hB
 have HA := vv hA
 have HD := vv hD
 have HSz : Hid (w0.heap.size = w.heap.size + 1 + 1) := vv (by rw [hw0]; simp)
 have c0 := hA.cell 0
 have cl := hA.lt
 have d0 := hD.cell 0
 have dl := hD.lt
 simp only [List.getElem?_cons_zero] at c0 d0
 clear ha hb hn hm hw0 hB hA hD
 go_enter Tryz.func96, Tryz.ntmps96
 go_wp2_with fail
 rw [<- HW.out]
 go_wp2_with fail
 have hb2 := HB.out.alloc HB.out.size (.cells #[.slice A n c, .slice B m d] 28)
 have hQ : Blk (w0.alloc (.cells #[.slice A n c, .slice B m d] 28)) (w.heap.size + 1 + 1) 28 [.slice A n c, .slice B m d] := by
  rw [<- HSz.out]
  exact Blk.made w0 28 [.slice A n c, .slice B m d]
 refine (HK.out _ _ hb2 hQ).mono ?_
 rintro e w1 ⟨rfl, hB⟩
 have HB1 := vv (hb2.trans (hB.mono hb2.size))
 have hA1 := (HA.out.alloc (.cells #[.slice A n c, .slice B m d] 28)).below hB
 have hD1 := (HD.out.alloc (.cells #[.slice A n c, .slice B m d] 28)).below hB
 clear hB c0 cl d0 dl hb2 hQ
 have c0 := hA1.cell 0
 have cl := hA1.lt
 have d0 := hD1.cell 0
 have dl := hD1.lt
 simp only [List.getElem?_cons_zero] at c0 d0
 clear hA1 hD1
 go_wp2_with fail
 refine (HM.out _ HB1.out).mono ?_
 rintro e w2 ⟨rfl, hB⟩
 have HB2 := vn HB1 hB
 clear hB
 go_wp2
 go_ret2
 exact ⟨rfl, HB2.out⟩
end Go.Proofs.YtddaldghlinokaaGreatDoor.Pnt
