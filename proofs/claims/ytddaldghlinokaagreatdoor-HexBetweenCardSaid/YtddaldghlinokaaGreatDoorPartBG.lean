/- Lemmas. -/
import Derived.Test.YtddaldghlinokaaGreatDoorPartBF
import Derived.Test.YtddaldghlinokaaGreatDoorPartBC
import Derived.Outline
set_option linter.all false
namespace Go.Proofs.YtddaldghlinokaaGreatDoor.Bld
open Go Go.RowKit R5
theorem neB8 : (190 : Nat) ≠ 5 := by decide
set_option maxHeartbeats 2000000 in
set_option maxRecDepth 100000 in
theorem WriteString (B b : Nat) (bs : List Value) (s : ByteArray) (w : World) (h : IsF B b bs w) (hlen : bs.length + s.size <= 140737488355328) (hBw : B <= w.heap.size) :
  Calls Tryz.prog 156 #[.pointer (some ⟨b, 0, none⟩), .string s] w fun e w' => e = .returned (.tuple #[.int .i64 s.size, .nilIface]) /\ (AtF B b (.pointer (some ⟨b, 0, none⟩)) (bs ++ Lib.strCells s) w' /\ Below B w w') := by
 obtain ⟨i0, hi, hz0, hz1, hz2⟩ := info_parts in8
 have HCc := vv (copyCheck_f B b bs w h)
 go_enter Tryz.func156, Tryz.ntmps156
 go_wp2_with fail
 refine HCc.out.mono ?_
 rintro e w1 ⟨rfl, h1, hb1⟩
 obtain ⟨hB, v, hbk, hown, hne⟩ := h1
 have c0 : w1.cell? ⟨b, 0, none⟩ = some (.pointer (some ⟨b, 0, none⟩)) := by rw [Lib.cell_of_heap hbk]; rfl
 have c1 : w1.cell? ⟨b, 1, none⟩ = some v := by rw [Lib.cell_of_heap hbk]; rfl
 go_wp2_with (at_builtin; refine Lib.wpList_append_own_stringF _ rfl _ _ 149 9 rfl B 5 i0 Tryz.underlying149 Tryz.underlying9 hi hz0 hz1 hz2 _ _ _ rfl hown s rfl ?c3 ?c4 ?c5 ?_)
 case c3 => unfold maxLen; omega
 case c4 => omega
 case c5 => have := hb1.size; omega
 intro v' w2 hown' hgrow _
 have hlt : b < w1.heap.size := by
  rcases Nat.lt_or_ge b w1.heap.size with h' | h'
  ·exact h'
  ·simp [Array.getElem?_eq_none h'] at hbk
 have hb2 : w2.heap[b]? = some (.cells #[.pointer (some ⟨b, 0, none⟩), v] 190 (0, 0)) := by
  rw [hgrow.block b hlt (fun e => hne e.symm)]
  exact hbk
 have d0 : w2.cell? ⟨b, 0, none⟩ = some (.pointer (some ⟨b, 0, none⟩)) := by rw [Lib.cell_of_heap hb2]; rfl
 have d1 : w2.cell? ⟨b, 1, none⟩ = some v := by rw [Lib.cell_of_heap hb2]; rfl
 have f1 : w2.frozen? ⟨b, 1, none⟩ = false := Lib.frozen_of_heap hb2 1
 obtain ⟨ao, n', cap, rfl⟩ : ∃ ao n' cap, v' = .slice ao n' cap := by
  rcases hown'.2 with ⟨hv, _⟩ | ⟨g, cap, cur, fz, hv, _⟩
  ·exact ⟨_, _, _, hv⟩
  ·exact ⟨_, _, _, hv⟩
 have HF : Hid (AtF B b (.pointer (some ⟨b, 0, none⟩)) (bs ++ Lib.strCells s) (w2.setCell ⟨b, 1, none⟩ (.slice ao n' cap)) /\ Below B w (w2.setCell ⟨b, 1, none⟩ (.slice ao n' cap))) := vv
  ⟨Lib.BuilderAtF.put hB hb2 (bs' := bs ++ Lib.strCells s) (by simpa [Lib.strCells_length] using hown') neB8,
   (hb1.grown hgrow (by have := hb1.size; omega) (fun k hk => (hown.lt k hk).1)).setCell (p := ⟨b, 1, none⟩) hB _⟩
 clear hown hown' hgrow hbk hb2
 go_wp2
 go_ret2
 exact ⟨rfl, HF.out.1, HF.out.2⟩
theorem at_lt {w : World} {b : Nat} {o : Obj} (h : w.heap[b]? = some o) : b < w.heap.size := (Array.getElem?_eq_some_iff.1 h).1
set_option maxHeartbeats 2000000 in
set_option maxRecDepth 1000000 in
theorem grow_fresh (b n : Nat) (w : World) (hbk : w.heap[b]? = some (.cells #[.pointer (some ⟨b, 0, none⟩), .slice none 0 0] 190 (0, 0))) (hn : n <= 1000000) :
  Calls Tryz.prog 245 #[.pointer (some ⟨b, 0, none⟩), .int .i64 n] w fun e w' => e = .returned (.tuple #[]) /\ (Lib.BuilderAt 190 5 b b (.pointer (some ⟨b, 0, none⟩)) [] w' /\ Below b w w') := by
 have hlt := at_lt hbk
 obtain ⟨cs, hrun, hle, hmax⟩ := Lib.run_makeNoZero (P := Tryz.prog) w.drew #[3] 149 5 Tryz.underlying149 n (by omega)
 have hw : IntKind.i64.wrap (IntKind.i64.wrap 0 + (n : Int)) = n := by
  rw [IntKind.wrap_i64, IntKind.wrap_i64]
  omega
 have hcall : (callFunc 308 #[.int .i64 (IntKind.i64.wrap (IntKind.i64.wrap 0 + (n : Int)))]).run Tryz.prog w.drew = .ok (.value (.slice (some ⟨w.drew.heap.size, 0, none⟩) n cs.size)) (w.drew.drew.drew.alloc (.cells cs 5)) := by
  rw [hw, run_callFunc_extern Tryz.func308 (by kernel_rfl) (by kernel_rfl) (by kernel_rfl) (e := Extern.BytealgMakeNoZero.makeNoZero #[3] #[149]) (by kernel_rfl), hrun]
  rfl
 have c1 : w.drew.cell? ⟨b, 1, none⟩ = some (.slice none 0 0) := by
  have : w.drew.heap[b]? = _ := hbk
  rw [Lib.cell_of_heap this]; rfl
 have c2 : (w.alloc (.cells cs 5)).cell? ⟨b, 1, none⟩ = some (.slice none 0 0) := by
  have : (w.alloc (.cells cs 5)).heap[b]? = _ := (Lib.alloc_old w _ b hlt).trans hbk
  rw [Lib.cell_of_heap this]; rfl
 have f2 : (w.alloc (.cells cs 5)).frozen? ⟨b, 1, none⟩ = false := Lib.frozen_of_heap ((Lib.alloc_old w _ b hlt).trans hbk) 1
 have hcopy : ∀ W : World, (Builtin.copy_ #[149, 149] 3 #[.slice (some ⟨w.heap.size, 0, none⟩) 0 cs.size, .slice none 0 0]).run Tryz.prog W = .ok (goInt 0) W :=
  fun W => run_copy_none W 149 149 3 5 _ _ 0 cs.size 0 0 Tryz.underlying149 (by kernel_rfl) rfl
 clear hw
 have hF := Lib.grown_fresh (T := 190) (e := 5) (cs := cs) (Nat.le_refl b) hbk (Nat.le_of_lt hlt) (hmax (by unfold maxLen; omega)) neB8
 rw [World.setCell_alloc_past _ _ _ _ hlt] at hF
 have HF := vv hF
 clear hF
 go_enter Tryz.func245, Tryz.ntmps245
 go_wp2_with fail
 refine wp_region_sch (fun w' => w'.cell? ⟨b, 1, none⟩ = some (.slice none 0 0)) 14
  (.still 0 (.still 1 (.still 2 (.still 3 (.still 4 (.still 5 (.still 6 (.still 7 (.still 9 (.still 10 (.still 11 (.still 12 (.still 13 (.one 8 .done)))))))))))))) (by kernel_rfl) (by kernel_rfl) (fun _ _ d _ _ h => by cases d <;> exact h) c1 (fun hS0 => ?_)
 iterate 13
  refine sch_still (v := ?_) rfl (by rfl) ?_ ?_
  rotate_left
  ·intro w hSw; go_simp; with_reducible rfl
  simp only [Act.put, List.setIfInBounds_toArray, List.set_cons_zero, List.set_cons_succ]
 refine sch_one rfl (by rfl) (fun K hK => ?_)
 go_simp
 refine hK.out _ _ c2 (fun hHeld => ?_)
 clear hK
 refine sch_done ?_
 simp only [List.drop_succ_cons, List.drop_zero]
 clear hHeld hS0
 go_wp2
 go_end0
 exact ⟨rfl, HF.out⟩
set_option maxHeartbeats 2000000 in
set_option maxRecDepth 1000000 in
theorem Grow_fresh (b n : Nat) (w : World) (hbk : w.heap[b]? = some (.cells #[.pointer none, .slice none 0 0] 190 (0, 0))) (hn : n <= 1000000) (h0 : 0 < n) :
  Calls Tryz.prog 155 #[.pointer (some ⟨b, 0, none⟩), .int .i64 n] w fun e w' => e = .returned (.tuple #[]) /\ (Lib.BuilderAt 190 5 b b (.pointer (some ⟨b, 0, none⟩)) [] w' /\ Below b w w') := by
 have hlt := at_lt hbk
 obtain ⟨w1, hw1⟩ := yx (w.setCell ⟨b, 0, none⟩ (.pointer (some ⟨b, 0, none⟩)))
 have hbk1 : w1.heap[b]? = some (.cells #[.pointer (some ⟨b, 0, none⟩), .slice none 0 0] 190 (0, 0)) := by
  rw [hw1]
  simp [World.setCell, Array.getElem?_modify, hbk]
 have c1 : w1.cell? ⟨b, 1, none⟩ = some (.slice none 0 0) := by rw [Lib.cell_of_heap hbk1]; rfl
 have hb1 : Below b w w1 := by rw [hw1]; exact (Below.refl b w).setCell (p := ⟨b, 0, none⟩) (Nat.le_refl b) _
 have HCc := vv (copyCheck_fresh b w (by rw [Lib.cell_of_heap hbk]; rfl) (by simp [World.shape?, hbk]) (Lib.frozen_of_heap hbk 0))
 rw [<- hw1] at HCc
 have hU : Lib.BuilderAt 190 5 b b (.pointer (some ⟨b, 0, none⟩)) [] w1 := ⟨Nat.le_refl b, .slice none 0 0, hbk1, World.ownsRow_nil _ _ _ _, by simp [Value.ownBlock]⟩
 have HU := vv hU
 have HB1 := vv hb1
 have HGr := vv (grow_fresh b n w1.drew hbk1 hn)
 have h0i : (0 : Int) < (n : Int) := by omega
 have c1' : w1.drew.cell? ⟨b, 1, none⟩ = some (.slice none 0 0) := c1
 clear hU hb1 hw1 hbk hbk1
 go_enter Tryz.func155, Tryz.ntmps155
 go_wp2_with fail
 refine HCc.out.mono ?_
 rintro e w' ⟨rfl, hw⟩
 subst hw
 go_wp2_with fail
 have c1'' : w'.cell? ⟨b, 1, none⟩ = some (.slice none 0 0) := c1
 refine wp_region_sch (fun w' => w'.cell? ⟨b, 1, none⟩ = some (.slice none 0 0)) 13
  (.still 0 (.still 1 (.still 2 (.still 3 (.still 4 (.still 5 (.still 6 (.still 7 (.still 8 (.still 9 (.still 10 (.still 11 (.still 12 .done))))))))))))) (by kernel_rfl) (by kernel_rfl) (fun _ _ d _ _ h => by cases d <;> exact h) c1'' (fun hS0 => ?_)
 have hw0 : IntKind.i64.wrap 0 = 0 := by decide
 iterate 13
  refine sch_still (v := ?_) rfl (by rfl) ?_ ?_
  rotate_left
  ·intro w hSw; go_simp; with_reducible rfl
  simp only [Act.put, List.setIfInBounds_toArray, List.set_cons_zero, List.set_cons_succ]
 refine sch_end rfl ?_
 clear hS0 hw0
 go_wp2_with fail
 refine HGr.out.mono ?_
 rintro e w2 ⟨rfl, h1, h2⟩
 have H1 := vv h1
 have H2 := vv h2
 clear h1 h2
 go_wp2
 go_end0
 exact ⟨rfl, H1.out, HB1.out.drew.trans H2.out⟩
end Go.Proofs.YtddaldghlinokaaGreatDoor.Bld
