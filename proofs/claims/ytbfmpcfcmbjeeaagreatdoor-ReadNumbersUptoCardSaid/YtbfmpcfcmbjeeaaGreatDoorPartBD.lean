/- Lemmas for ReadNumbers. -/
import Derived.Test.YtbfmpcfcmbjeeaaGreatDoorPartBC
import Derived.Laws.AppendOwnNone
set_option linter.all false
namespace Go.Proofs.YtbfmpcfcmbjeeaaGreatDoor
open Go Go.RowKit R5
theorem wpList_append_fresh {P : Program} {w : World} {ops : Array Oper} {rest : List Oper} {o : Oper} {a : Act} {Q : Exit -> Act -> World -> Prop} (hgd : o.guard = none) (s x : Operand) (t : TypeId)
  (ho : o.op = .call { callee := .builtin .append, args := #[s, x], argTypes := #[t, t] })
  (base : Nat) (e : TypeId) (i : TypeInfo) (z : Value) (size bytes : Nat) (ht : P.underlying t = some (.slice e)) (hi : P.info? e = some i) (hz : i.zero = some z)
  (hsize : i.size = size) (hby : i.bytes = bytes) (hzs : z.cells.size = size) (hsz : 0 < size)
  (hs : a.eval s = .slice none 0 0)
  (ao : Option Addr) (m c : Nat) (news : List Value) (hx : a.eval x = .slice ao m c) (hl : news.length = m * size) (hnone : ao = none -> m = 0 /\ c = 0) (hnews : ∀ ad, ao = some ad -> ∀ j u, news[j]? = some u -> w.cell? (ad.add j) = some u) (h1 : ∀ u ∈ news, u.oneCell' = true)
  (h63 : m <= maxLen) (hbytes : m * bytes <= 140737488355328) (hbase : base <= w.heap.size)
  (h : ∀ v' w', w'.ownsRow base e size v' m news -> w.grownBy w' none -> wpList P ops Q rest (a.put o.dst v') w') : wpList P ops Q (o :: rest) a w := by
 cases ao with
 | none =>
  obtain ⟨rfl, rfl⟩ := hnone rfl
  have hn : news = [] := List.eq_nil_of_length_eq_zero (by simpa using hl)
  subst hn
  exact wpList_append_own_none hgd s x t ho base e i size ht hi _ 0 [] hs (World.ownsRow_nil _ _ _ _) hx (h _ _ (World.ownsRow_nil _ _ _ _) (World.grownBy.refl _ _))
 | some ad =>
  refine wpList_append_own w hgd s x t ho base e i z size bytes ht hi hz hsize hby hzs hsz _ 0 [] hs (World.ownsRow_nil _ _ _ _) ad m c news hx hl (hnews ad rfl) h1 (by omega) (by rw [Nat.zero_add]; exact hbytes) hbase ?_
  intro v' w' h2 h3 _
  rw [Nat.zero_add, List.nil_append] at h2
  exact h v' w' h2 h3
theorem NumBox.belowLt {B : Nat} {w w' : World} {g kind : Nat} {neg dneg : Bool} {s : ByteArray} {x : Int} {hneg : Bool} {A : Option Addr} {n c : Nat} {hx : Int} {p : Nat} (h : NumBox w g kind neg dneg s x hneg A n c hx p) (hb : Below B w w') (hl : g < B) : NumBox w' g kind neg dneg s x hneg A n c hx p := by
 have ne : ∀ j, w'.cell? ⟨g, j, none⟩ = w.cell? ⟨g, j, none⟩ := fun j => hb.cell (p := ⟨g, j, none⟩) hl
 exact ⟨(ne 0).trans h.c0, (ne 1).trans h.c1, (ne 2).trans h.c2, (ne 3).trans h.c3, (ne 4).trans h.c4, (ne 5).trans h.c5, (ne 6).trans h.c6, (ne 7).trans h.c7, (ne 8).trans h.c8, Nat.lt_of_lt_of_le h.lt hb.size⟩
namespace Law
set_option maxRecDepth 100000 in
set_option maxHeartbeats 4000000 in
theorem ReadNumbers (E F : Int) (kind : Nat) (neg dneg : Bool) (s : ByteArray) (x : Int) (hneg : Bool) (Ad : Option Addr) (n c : Nat) (xs : List Nat) (hx : Int) (p mode : Nat) (w : World) (hr : Rd w Ad n c xs) (hnil : Ad = none -> c = 0) (hn : n <= 4000000000) (hmax : (s.size : Int) <= 4611686018427387904) (hst : Std w) :
  Calls Tryz.prog 3 #[fm E F, numV kind neg dneg s x hneg Ad n c hx p, .int .u8 (mode : Int)] w fun e w' => e = .returned (.bool true) /\ Below w.heap.size w w' := by
 have hl0 : Ad = none -> n = 0 /\ c = 0 := by
  intro h
  refine ⟨?_, hnil h⟩
  rcases Nat.eq_zero_or_pos n with e | e
  ·exact e
  ·obtain ⟨b, off, e2, _⟩ := hr.cell e
   rw [h] at e2; cases e2
 obtain ⟨i0, hi, hz0, hz1, hz2⟩ := info_parts B.inf
 obtain ⟨w0, hw0⟩ := yx (w.alloc (.cells #[.int .i64 E, .int .i64 F] 23))
 obtain ⟨w1, hw1⟩ := yx (w0.alloc (.cells #[.int .u8 (kind : Int), .bool neg, .bool dneg, .string s, .int .i64 x, .bool hneg, .slice Ad n c, .int .i64 hx, .int .u64 (p : Int)] 33))
 have hB0 : Below w.heap.size w w0 := by rw [hw0]; exact (Below.refl _ w).alloc (Nat.le_refl _) _
 have hB1 : Below w0.heap.size w0 w1 := by rw [hw1]; exact (Below.refl _ w0).alloc (Nat.le_refl _) _
 have hsz1 : w0.heap.size = w.heap.size + 1 := by rw [hw0]; simp
 have hF0 : FmAt w1 w.heap.size E F := (show FmAt w0 w.heap.size E F by rw [hw0]; exact FmAt.made w _ _ _).below hB1
 have hX0 : NumBox w1 (w.heap.size + 1) kind neg dneg s x hneg Ad n c hx p := by rw [<- hsz1, hw1]; exact NumBox.made w0 _ _ _ _ _ _ _ _ _ _ _ _
 have hB : Below w.heap.size w w1 := hB0.trans (hB1.mono hB0.size)
 have HF := vv hF0
 have HX := vv hX0
 have HB := vv hB
 have HW1 : Hid (w1 = (w.alloc (.cells #[.int .i64 E, .int .i64 F] 23)).alloc (.cells #[.int .u8 (kind : Int), .bool neg, .bool dneg, .string s, .int .i64 x, .bool hneg, .slice Ad n c, .int .i64 hx, .int .u64 (p : Int)] 33)) := vv (by rw [hw1, hw0])
 have HST := vv hst
 have HR := vv hr
 have HL0 := vv hl0
 have HN := vv hn
 have HLim := vv hr.lim
 have HLen := vv hr.len
 have HDoc := vv fun w' (h : Below w.heap.size w w') => R16.Number E F kind neg dneg s x hneg Ad n c xs hx p mode w' (hr.below h rfl) (hst.fs (Fs.of_nil h))
 have HOur := vv fun w' A' c' (h : Below w.heap.size w w') (hr' : Rd w' A' n c' xs) => Rea.Number E F kind neg dneg s x hneg A' n c' xs hx p mode w' hr' hmax (hst.fs (Fs.of_nil h))
 obtain ⟨O, hO⟩ := yx (numAns E F kind neg dneg s x hneg n xs hx p mode)
 rw [<- hO] at HDoc
 simp only [<- hO] at HOur
 have f0 := hF0.c0
 have f1 := hF0.c1
 have fl := hF0.lt
 have k0 := hX0.c0
 have k1 := hX0.c1
 have k2 := hX0.c2
 have k3 := hX0.c3
 have k4 := hX0.c4
 have k5 := hX0.c5
 have k6 := hX0.c6
 have k7 := hX0.c7
 have k8 := hX0.c8
 have kl := hX0.lt
 have hni : (n : Int) <= 4000000000 := by omega
 have HRc : Hid (∀ w' : World, Below w.heap.size w w' -> ∀ ad, Ad = some ad -> ∀ j u, (u32s xs)[j]? = some u -> w'.cell? (ad.add j) = some u) := vv (fun w' h ad ha j u hu => by
  have hj : j < (u32s xs).length := (List.getElem?_eq_some_iff.1 hu).1
  have hj2 : j < n := by rw [<- hr.len]; simpa [u32s] using hj
  obtain ⟨b, off, e, hb, hc⟩ := (hr.below h rfl).cell (by omega)
  rw [ha] at e
  cases e
  rw [u32s_get xs (by rw [hr.len]; exact hj2)] at hu
  cases hu
  have ea : (⟨b, off, none⟩ : Addr).add j = ⟨b, off + j, none⟩ := by unfold Addr.add; split <;> simp_all
  rw [ea]; exact hc j hj2)
 clear hw0 hw1 hB0 hB1 hF0 hX0 hB hst hr hl0 hO hn hnil hsz1
 go_enter Tryz.func3, Tryz.ntmps3
 go_wp2_with (first | rw [<- HW1.out] | (at_builtin; refine wpList_append_fresh rfl _ _ 26 rfl (w.heap.size + 2) 34 i0 (.int .u32 0) 1 4 Tryz.underlying26 hi hz0 hz1 hz2 rfl (by decide) rfl Ad n c (u32s xs) rfl (by simp [u32s, HLen.out]) HL0.out (HRc.out _ HB.out) (u32s_one xs) (by have := HN.out; unfold maxLen; omega) (by have := HN.out; omega) (by have := HX.out.lt; omega) ?_))
 intro v1 w2 hown hgrow
 have hb2 : Below (w.heap.size + 2) w1 w2 := (Below.refl _ w1).grown hgrow (by have := HX.out.lt; omega) (fun k h => by cases h)
 have HRow := vv hown
 have HF := vv (HF.out.belowLt hb2 (by omega))
 have HX := vv (HX.out.belowLt hb2 (by omega))
 have HB := vv (HB.out.trans (hb2.mono (by omega)))
 clear hown hgrow hb2 f0 f1 fl k0 k1 k2 k3 k4 k5 k6 k7 k8 kl
 have hsm : w.heap.size + 2 <= w2.heap.size := by have := HX.out.lt; omega
 have HSm := vv hsm
 clear hsm
 go_wp2_with (at_builtin; refine wpList_append_own _ rfl _ _ 26 rfl (w.heap.size + 2) 34 i0 (.int .u32 0) 1 4 Tryz.underlying26 hi hz0 hz1 hz2 rfl (by decide) _ n (u32s xs) rfl (HRow.out.alloc _) ⟨w2.heap.size, 0, none⟩ 1 1 [.int .u32 77] rfl rfl (cell_one_new _ _ _) (by simp [Value.oneCell']) (by have := HN.out; unfold maxLen; omega) (by have := HN.out; omega) (by have := HSm.out; simp; omega) ?_)
 intro v2 w3 hown hgrow _
 have hrow : w3.ownsRow (w.heap.size + 2) 34 1 v2 (n + 1) (u32s (xs ++ [77])) := by
  have e : u32s (xs ++ [77]) = u32s xs ++ [.int .u32 77] := by simp [u32s]
  rw [e]; exact hown
 have hgb := HRow.out.lt
 have hb3 : Below (w.heap.size + 2) w2 w3 := ((Below.refl (w.heap.size + 2) w2).alloc HSm.out _).grown hgrow (by have := HSm.out; simp; omega) (fun k h => (hgb k h).1)
 obtain ⟨g, cap, rfl, hgl⟩ := row_slice hrow (by omega)
 obtain ⟨A', c', e, hRd, -⟩ := rd_of_row hrow (Lim_append.2 ⟨HLim.out, by intro y hy; simp at hy; omega⟩) (by have := HN.out; omega)
 cases e
 have HRow := vv hrow
 have hRd1 := hRd.take (k := n) (by omega)
 rw [List.take_left' HLen.out] at hRd1
 have HR1 := vv hRd1
 obtain ⟨hcn, -, -, hgs⟩ := row_cell hrow (i := n) (by omega)
 have enth : nth (xs ++ [77]) n = 77 := by
  unfold nth
  rw [List.getD_eq_getElem?_getD, List.getElem?_append_right (by rw [HLen.out]; exact Nat.le_refl _), HLen.out, Nat.sub_self]; rfl
 rw [enth] at hcn
 have HCn := vv (show w3.cell? ⟨g, n, none⟩ = some (.int .u32 77) from hcn)
 have HGs := vv hgs
 have HGl := vv hgl
 have HF := vv (HF.out.belowLt hb3 (by omega))
 have HX := vv (HX.out.belowLt hb3 (by omega))
 have HB := vv (HB.out.trans (hb3.mono (by omega)))
 have hncap := hRd1.le
 have hncap2 := hRd.le
 obtain ⟨k0, k1, k2, k3, k4, k5, k6, k7, k8, kl⟩ := HX.out
 obtain ⟨f0, f1, fl⟩ := HF.out
 obtain ⟨h, hh⟩ := yx (w3.heap.size)
 obtain ⟨w4, hw4⟩ := yx (w3.alloc (.cells #[.int .u8 (kind : Int), .bool neg, .bool dneg, .string s, .int .i64 x, .bool hneg, .slice (some ⟨g, 0, none⟩) n cap, .int .i64 hx, .int .u64 (p : Int)] 33))
 have o4 : Below w3.heap.size w3 w4 := by rw [hw4]; exact (Below.refl _ _).alloc (Nat.le_refl _) _
 have x4 : NumBox w4 h kind neg dneg s x hneg (some ⟨g, 0, none⟩) n cap hx p := by rw [hw4, hh]; exact NumBox.made _ _ _ _ _ _ _ _ _ _ _ _ _
 have HF := vv (HF.out.below o4)
 have HXo := vv (HX.out.below o4)
 have HB := vn HB o4
 have HR1 := vv (HR1.out.below o4 rfl)
 have HCn : Hid (w4.cell? ⟨g, n, none⟩ = some (.int .u32 77)) := vv ((o4.cell (p := ⟨g, n, none⟩) HGs.out).trans HCn.out)
 have HGh : Hid (g < h) := vv (by rw [hh]; exact HGs.out)
 have HOw := vv x4
 have HW4 := vv hw4
 have HH := vv hh
 have HHl : Hid (w.heap.size + 1 < h) := vv (by rw [hh]; exact kl)
 clear hown hgrow hrow hgb hb3 hRd hRd1 hcn hgs hgl enth hh hw4 o4 x4
 have hni2 : (n : Int) <= (cap : Int) := by omega
 go_wp2_with fail
 rw [<- HW4.out, <- HH.out]
 clear HW4 HH k0 k1 k2 k3 k4 k5 k6 k7 k8 kl f0 f1 fl hni2
 refine (HOur.out _ (some ⟨g, 0, none⟩) cap HB.out HR1.out).mono ?_
 rintro e w5 ⟨rfl, hB5⟩
 have HF := vv (HF.out.below hB5)
 have HX := vv (HXo.out.below hB5)
 have HR1 := vv (HR1.out.below hB5 rfl)
 have HCn : Hid (w5.cell? ⟨g, n, none⟩ = some (.int .u32 77)) := vv ((hB5.cell (p := ⟨g, n, none⟩) (by have := HGh.out; have := HOw.out.lt; show g < w4.heap.size; omega)).trans HCn.out)
 have HGl5 : Hid (g < w5.heap.size) := vv (by have := HGh.out; have := HOw.out.lt; have := hB5.size; omega)
 have HB := vn HB hB5
 clear hB5
 obtain ⟨k0, k1, k2, k3, k4, k5, k6, k7, k8, kl⟩ := HX.out
 obtain ⟨f0, f1, fl⟩ := HF.out
 go_wp2_with fail
 refine (HDoc.out _ HB.out).mono ?_
 rintro e w6 ⟨rfl, hB6⟩
 have HX := vv (HX.out.below hB6)
 have HR1 := vv (HR1.out.below hB6 rfl)
 have HCn : Hid (w6.cell? ⟨g, n, none⟩ = some (.int .u32 77)) := vv ((hB6.cell (p := ⟨g, n, none⟩) HGl5.out).trans HCn.out)
 have HGl6 : Hid (g < w6.heap.size) := vv (Nat.lt_of_lt_of_le HGl5.out hB6.size)
 have HB := vn HB hB6
 clear hB6 f0 f1 fl k0 k1 k2 k3 k4 k5 k6 k7 k8 kl
 have k6 := HX.out.c6
 have kl := HX.out.lt
 have hni2 : (n : Int) <= (cap : Int) := by omega
 obtain ⟨h9, hh9⟩ := yx (w6.heap.size)
 obtain ⟨w7, hw7⟩ := yx (w6.alloc (.cells #[.slice (some ⟨g, 0, none⟩) n cap] 28))
 have o7 : Below w6.heap.size w6 w7 := by rw [hw7]; exact (Below.refl _ _).alloc (Nat.le_refl _) _
 have y7 : w7.cell? ⟨h9, 0, none⟩ = some (.slice (some ⟨g, 0, none⟩) n cap) := by rw [hw7, hh9]; simp only [World.cell?]; rw [heap_alloc_new]; rfl
 have yl7 : h9 < w7.heap.size := by rw [hw7, hh9]; simp
 have HX := vv (HX.out.below o7)
 have HR1 := vv (HR1.out.below o7 rfl)
 have HCn : Hid (w7.cell? ⟨g, n, none⟩ = some (.int .u32 77)) := vv ((o7.cell (p := ⟨g, n, none⟩) HGl6.out).trans HCn.out)
 have HGl7 : Hid (g < w7.heap.size) := vv (Nat.lt_of_lt_of_le HGl6.out o7.size)
 have HB := vn HB o7
 have HW7 := vv hw7
 have HH9 := vv hh9
 have HY7 := vv y7
 have HYl := vv yl7
 clear hh9 hw7 o7 y7 yl7
 go_wp2_with fail
 rw [<- HW7.out]
 clear HW7 k6 kl hni2
 refine (R1.Same_like (some ⟨g, 0, none⟩) Ad n cap c xs w7 HR1.out (HR.out.below HB.out rfl)).mono ?_
 rintro e w8 ⟨rfl, hB8⟩
 have HX := vv (HX.out.below hB8)
 have hcn := (hB8.cell (p := ⟨g, n, none⟩) HGl7.out).trans HCn.out
 have HB := vn HB hB8
 have k6 := HX.out.c6
 have kl := HX.out.lt
 have hin : (n : Int) < (n : Int) + 1 := by omega
 clear hB8
 go_wp2
 go_ret
 exact ⟨rfl, HB.out⟩
end Law
end Go.Proofs.YtbfmpcfcmbjeeaaGreatDoor
