/- ReadNumbers: any number in any form by any mode is read as the document reads it, and what is handed in stays; for arguments that hold together at most 1048576 values and letters, the library's table being tied to the program's text. -/
import Derived.Test.YtbfmpcfcmbjeeaaGreatDoorPartBD
import Derived.Test.YtbfmpcfcmbjeeaaGreatDoorCards
import Derived.Test.YtbfmpcfcmbjeeaaGreatDoorTie
import Derived.ProofKit
import Derived.OpenShut
import Derived.Deep.Strs
import Derived.Deep.DeepHandedRow
import Derived.Lib.LaidTab
set_option linter.all false
namespace Go.Proofs.YtbfmpcfcmbjeeaaGreatDoor.Fin
open Go Go.ChangeShapes Go.WideShapes Go.ChangeAt Go.RowKit Go.Deep R5
theorem cell_lt {w : World} {a : Addr} {v : Value} (h : w.cell? a = some v) : a.block < w.heap.size := by
 unfold World.cell? at h
 cases hh : w.heap[a.block]? with
 | none => rw [hh] at h; simp at h
 | some o => exact (Array.getElem?_eq_some_iff.1 hh).1
theorem bulk_one {H : Type} (d : DataW H) : 1 <= Rows.uptoBulk d := by
 cases d with
 | lit l => cases l <;> simp [Rows.uptoBulk]
 | nil => simp [Rows.uptoBulk]
 | ptr d => simp [Rows.uptoBulk]
 | slice elems spare => simp [Rows.uptoBulk]
 | agg parts => simp [Rows.uptoBulk]
 | iface t d => simp [Rows.uptoBulk]
 | map entries => simp [Rows.uptoBulk]
 | held h => simp [Rows.uptoBulk]
theorem bulk_length {H : Type} (l : List (DataW H)) : l.length <= Rows.uptoBulkAll l := by
 induction l with
 | nil => simp [Rows.uptoBulkAll]
 | cons x r ih => have := bulk_one x; simp only [Rows.uptoBulkAll, List.length_cons]; omega
theorem bulk_slice {H : Type} (l r : List (DataW H)) : l.length <= Rows.uptoBulk (.slice l r) := by
 have := bulk_length l
 simp only [Rows.uptoBulk]
 omega
section
variable {H : Type} {enc : TypeId × Value -> H} {w : World} {base : Nat} {spare : Nat -> Bool} {held : Bool}
theorem trod_struct5 {P : Program} {t : TypeId} {f0 f1 f2 f3 f4 : Field} {fuel : Nat} {cs : List Value} {x : DataW H × List MemPlace} (ht : P.underlying t = some (.struct #[f0, f1, f2, f3, f4])) (h : DataW.trod enc P w base spare held fuel t cs = some x) :
  ∃ y0 y1 y2 y3 y4 n, x = (.agg [y0.1, y1.1, y2.1, y3.1, y4.1], y0.2 ++ (y1.2 ++ (y2.2 ++ (y3.2 ++ y4.2)))) /\ cs.length = P.cellsOf t /\
   DataW.trod enc P w base spare held n f0.type ((cs.drop f0.offset).take (P.cellsOf f0.type)) = some y0 /\ DataW.trod enc P w base spare held n f1.type ((cs.drop f1.offset).take (P.cellsOf f1.type)) = some y1 /\
   DataW.trod enc P w base spare held n f2.type ((cs.drop f2.offset).take (P.cellsOf f2.type)) = some y2 /\ DataW.trod enc P w base spare held n f3.type ((cs.drop f3.offset).take (P.cellsOf f3.type)) = some y3 /\
   DataW.trod enc P w base spare held n f4.type ((cs.drop f4.offset).take (P.cellsOf f4.type)) = some y4 := by
 obtain ⟨xs, n, _, rfl, hl, hlen, hf⟩ := DataW.trod_struct ht h
 match xs, hlen with
 | [y0, y1, y2, y3, y4], _ => exact ⟨y0, y1, y2, y3, y4, n, by simp, hl, by simpa using hf 0 f0 rfl, by simpa using hf 1 f1 rfl, by simpa using hf 2 f2 rfl, by simpa using hf 3 f3 rfl, by simpa using hf 4 f4 rfl⟩
theorem cF : Tryz.prog.cellsOf 23 = 2 := by kernel_rfl
theorem cI : Tryz.prog.cellsOf 3 = 1 := by kernel_rfl
theorem cN : Tryz.prog.cellsOf 33 = 9 := by kernel_rfl
theorem c8 : Tryz.prog.cellsOf 5 = 1 := by kernel_rfl
theorem cB : Tryz.prog.cellsOf 4 = 1 := by kernel_rfl
theorem cS : Tryz.prog.cellsOf 9 = 1 := by kernel_rfl
theorem c64 : Tryz.prog.cellsOf 31 = 1 := by kernel_rfl
theorem c32 : Tryz.prog.cellsOf 34 = 1 := by kernel_rfl
theorem cL : Tryz.prog.cellsOf 26 = 1 := by kernel_rfl
theorem cD : Tryz.prog.cellsOf 25 = 3 := by kernel_rfl
theorem cX : Tryz.prog.cellsOf 30 = 3 := by kernel_rfl
theorem cM : Tryz.prog.cellsOf 28 = 1 := by kernel_rfl
set_option maxRecDepth 100000 in
theorem open_form {r : Reach} {b0 : Nat} {v : Value} {d : DataW H} {ps : List MemPlace} (hval : Value.okWide Tryz.prog w r b0 23 v) (h : DataW.Trod enc Tryz.prog w base spare held 23 v d ps) : ∃ E F : Int, v = fm E F := by
 obtain ⟨cs, rfl, hsz⟩ := okWide_struct Tryz.underlying23 hval
 obtain ⟨fuel, hf⟩ := h
 obtain ⟨y0, y1, n, -, hl, h0, h1⟩ := trod_struct2 Tryz.underlying23 hf
 simp only [cI] at h0 h1
 obtain ⟨E, e0, -, -⟩ := DataW.trod_int Tryz.underlying3 h0
 obtain ⟨F, e1, -, -⟩ := DataW.trod_int Tryz.underlying3 h1
 refine ⟨E, F, ?_⟩
 obtain ⟨l⟩ := cs
 rw [cF] at hsz
 match l, hsz with
 | [a, b], _ =>
  simp [Value.cells] at e0 e1
  rw [e0, e1]
set_option maxRecDepth 100000 in
set_option maxHeartbeats 1000000 in
theorem open_number {r : Reach} {b0 : Nat} {v : Value} {d : DataW H} {ps : List MemPlace} (hval : Value.okWide Tryz.prog w r b0 33 v) (h : DataW.Trod enc Tryz.prog w base (fun _ => true) held 33 v d ps) (hb : Rows.uptoBulk d <= 1048576) :
  ∃ (kind : Nat) (neg dneg : Bool) (s : ByteArray) (x : Int) (hneg : Bool) (Ad : Option Addr) (n c : Nat) (xs : List Nat) (hx : Int) (p : Nat), v = numV kind neg dneg s x hneg Ad n c hx p /\ Rd w Ad n c xs /\ (Ad = none -> c = 0) /\ n <= 1048576 /\ s.size <= 1048576 := by
 obtain ⟨cs, rfl, hsz⟩ := okWide_struct Tryz.underlying33 hval
 obtain ⟨fuel, hf⟩ := h
 obtain ⟨y0, y1, y2, y3, y4, m, ed, hl, h0, h1, h2, h3, h4⟩ := trod_struct5 Tryz.underlying33 hf
 simp only [c8, cB, cD, cX, c64] at h0 h1 h2 h3 h4
 obtain ⟨k0, e0, -, w0⟩ := DataW.trod_int Tryz.underlying5 h0
 obtain ⟨neg, e1, -⟩ := DataW.trod_bool Tryz.underlying4 h1
 obtain ⟨z0, z1, z2, m2, ez, -, g0, g1, g2⟩ := trod_struct3 Tryz.underlying25 h2
 simp only [cB, cS, cI] at g0 g1 g2
 obtain ⟨dneg, e2, -⟩ := DataW.trod_bool Tryz.underlying4 g0
 obtain ⟨s, e3, es, -⟩ := DataW.trod_string Tryz.underlying9 g1
 obtain ⟨x, e4, -, -⟩ := DataW.trod_int Tryz.underlying3 g2
 obtain ⟨u0, u1, u2, m3, ex3, -, g3, g4, g5⟩ := trod_struct3 Tryz.underlying30 h3
 simp only [cB, cM, cI] at g3 g4 g5
 obtain ⟨hneg, e5, -⟩ := DataW.trod_bool Tryz.underlying4 g3
 obtain ⟨hx, e7, -, -⟩ := DataW.trod_int Tryz.underlying3 g5
 obtain ⟨q0, m4, eq, -, g6⟩ := trod_struct1 Tryz.underlying28 g4
 simp only [cL] at g6
 obtain ⟨p0, e8, -, w8⟩ := DataW.trod_int Tryz.underlying31 h4
 obtain ⟨b1, b2⟩ := bounds_u8 w0
 obtain ⟨b3, b4⟩ := bounds_u64 w8
 have hs : s.size <= 1048576 := by
  have e9 : d = .agg [y0.1, y1.1, y2.1, y3.1, y4.1] := congrArg Prod.fst ed
  have e10 : y2.1 = .agg [z0.1, z1.1, z2.1] := congrArg Prod.fst ez
  have e11 : z1.1 = .lit (.string s.data.toList) := congrArg Prod.fst es
  rw [e9, e10, e11] at hb
  simp only [Rows.uptoBulk, Rows.uptoBulkAll] at hb
  have e12 : s.data.toList.length = s.size := by rw [Array.length_toList]; rfl
  omega
 have hq : Rows.uptoBulk q0.1 <= 1048576 := by
  have e9 : d = .agg [y0.1, y1.1, y2.1, y3.1, y4.1] := congrArg Prod.fst ed
  have e10 : y3.1 = .agg [u0.1, u1.1, u2.1] := congrArg Prod.fst ex3
  have e11 : u1.1 = .agg [q0.1] := congrArg Prod.fst eq
  rw [e9, e10, e11] at hb
  simp only [Rows.uptoBulk, Rows.uptoBulkAll] at hb
  omega
 obtain ⟨l⟩ := cs
 rw [cN] at hsz
 match l, hsz with
 | [a0, a1, a2, a3, a4, a5, a6, a7, a8], _ =>
  simp [Value.cells] at e0 e1 e2 e3 e4 e5 e7 e8 g6
  rcases open_ints Tryz.underlying26 Tryz.underlying34 c32 g6 with ⟨e6, -⟩ | ⟨a, len, cap, zs, e6, -, hle, hm, hz, hq0, hcell, hwz⟩
  ·simp at e6
   refine ⟨k0.toNat, neg, dneg, s, x, hneg, none, 0, 0, [], hx, p0.toNat, ?_, Rd.nil _, fun _ => rfl, by omega, hs⟩
   rw [e0, e1, e2, e3, e4, e5, e6, e7, e8]
   show Value.agg _ = Value.agg _
   congr
   ·omega
   ·omega
  ·simp at e6
   have hz : zs.length = cap := by simpa using hz
   have hq1 : q0.1 = .slice (lits .u32 (zs.take len)) (lits .u32 (zs.drop len)) := congrArg Prod.fst hq0
   rw [hq1] at hq
   have hbk := bulk_slice (H := H) (lits .u32 (zs.take len)) (lits .u32 (zs.drop len))
   have hlits : (lits (H := H) .u32 (zs.take len)).length = len := by simp [lits]; omega
   have hlen1 : len <= 1048576 := by omega
   have hx1 : ∀ i, i < len -> w.cell? (a.add i) = some (.int .u32 ((nth ((zs.take len).map Int.toNat) i : Nat) : Int)) := by
    intro i hi
    have hz1 : i < zs.length := by omega
    have hc := hcell i hz1
    have hg : zs.getD i 0 = zs[i] := by simp [List.getD, List.getElem?_eq_getElem hz1]
    have hw := bounds_u32 (hwz _ (List.getElem_mem hz1))
    rw [hc, hg]
    have hn : nth ((zs.take len).map Int.toNat) i = zs[i].toNat := by
     unfold nth
     rw [List.getD_eq_getElem?_getD, List.getElem?_map, List.getElem?_take, if_pos hi, List.getElem?_eq_getElem hz1]
     rfl
    rw [hn, Int.toNat_of_nonneg hw.1]
   refine ⟨k0.toNat, neg, dneg, s, x, hneg, some a, len, cap, (zs.take len).map Int.toNat, hx, p0.toNat, ?_, ⟨?_, hle, by omega, ?_, ?_⟩, (fun h => by cases h), hlen1, hs⟩
   ·rw [e0, e1, e2, e3, e4, e5, e6, e7, e8]
    show Value.agg _ = Value.agg _
    congr
    ·omega
    ·omega
   ·simp; omega
   ·intro y hy
    obtain ⟨z, hz2, rfl⟩ := List.mem_map.1 hy
    have hw := bounds_u32 (hwz _ (List.mem_of_mem_take hz2))
    omega
   ·intro h0
    have h9 := hx1 0 h0
    obtain ⟨b, off, spot⟩ := a
    have hspot : spot = none := by simpa [Addr.add] using World.cell?_spot h9
    subst hspot
    refine ⟨b, off, rfl, ?_, fun j hj => ?_⟩
    ·have := cell_lt h9
     simpa [Addr.add] using this
    ·have h10 := hx1 j hj
     have ea : (⟨b, off, none⟩ : Addr).add j = ⟨b, off + j, none⟩ := by unfold Addr.add; split <;> simp_all
     rw [ea] at h10
     exact h10
end
theorem own : ownKnob Tryz.prog.godebug = none := by kernel_rfl
theorem laidOut : laidOutB Tryz.prog = true := by kernel_rfl
theorem gTab : Tryz.prog.globalNamed "math/bits.deBruijn32tab" = some 0 := by kernel_rfl
theorem gTabType : (Tryz.prog.globals[0]?).map (·.type) = some 188 := by kernel_rfl
theorem cTab : Tryz.prog.cellsOf 188 = 32 := by kernel_rfl
theorem tab_at : ∀ j : Fin 32, ([0, 1, 28, 2, 29, 14, 24, 3, 30, 22, 20, 15, 25, 17, 4, 8, 31, 27, 13, 23, 21, 19, 16, 7, 26, 12, 18, 6, 11, 5, 10, 9] : List Int).getD j.val 0 = ((Lib.deBruijn32tab.getD j.val 0 : Nat) : Int) := by decide
theorem table {W : World} (h : laidMetH Tryz.prog Rows.readNumbersUptoRow.laid W) : Std W := by
 have ht : Lib.TabIs Tryz.prog W "math/bits.deBruijn32tab" .u8 [0, 1, 28, 2, 29, 14, 24, 3, 30, 22, 20, 15, 25, 17, 4, 8, 31, 27, 13, 23, 21, 19, 16, 7, 26, 12, 18, 6, 11, 5, 10, 9] :=
  Lib.tabIs_of_head (rest := []) gTab gTabType Tryz.underlying188 Tryz.underlying5 c8 cTab h
 have hc : ∀ j, j < 32 -> W.cell? ⟨0, j, none⟩ = some (.int .u8 ((Lib.deBruijn32tab.getD j 0 : Nat) : Int)) := fun j hj => by
  rw [ht.cell gTab j hj, tab_at ⟨j, hj⟩]
 exact ⟨fun j hj => hc j hj, cell_lt (hc 0 (by decide))⟩
set_option maxRecDepth 100000 in
theorem contract (H : Type) (enc : TypeId × Value -> H) (W : World) (base : Nat) (args : Array Value) (ds gs : List (DataW H)) (before : List MemPlace)
  (hval : ∀ (j : Nat) t v, Tryz.f3.params[j]? = some t -> args[j]? = some v -> Value.okWide Tryz.prog W .any base t v)
  (hW : DataW.Whole enc Tryz.prog Tryz.f3.params.toList Rows.readNumbersSpec.vars false W args.toList ds gs before) (hk : Rows.uptoSmall H (ds ++ gs) = true) (hL : laidMetH Tryz.prog Rows.readNumbersUptoRow.laid W) :
  Calls Tryz.prog 3 args W fun e W' => ∃ v, e = .returned v /\ Rows.readNumbersSpec.post enc Tryz.prog Tryz.f3 false true false false W args v W' := by
 have hW' := hW
 obtain ⟨p, q, hA0, hV, rfl, hfz, hnd⟩ := hW
 have hA : DataW.TrodAll enc Tryz.prog W 0 (fun _ => true) true Tryz.f3.params.toList args.toList ds p := hA0
 rw [Tryz.params3] at hA hval
 obtain ⟨v0, v1, v2, d0, d1, d2, p0, p1, p2, rfl, rfl, rfl, h0, h1, h2⟩ := trodAll_three hA
 obtain ⟨rfl, rfl⟩ := trodVars_none hV
 have hb : Rows.uptoBulkAll ([d0, d1, d2] ++ []) <= 1048576 := of_decide_eq_true hk
 have hb1 : Rows.uptoBulk d1 <= 1048576 := by
  simp only [List.append_nil, Rows.uptoBulkAll] at hb
  omega
 have hlt0 : ∀ x ∈ p0, x.block < W.heap.size := fun x hx => by simpa using hW'.lt x (by simp [hx])
 have hlt1 : ∀ x ∈ p1, x.block < W.heap.size := fun x hx => by simpa using hW'.lt x (by simp [hx])
 have hlt2 : ∀ x ∈ p2, x.block < W.heap.size := fun x hx => by simpa using hW'.lt x (by simp [hx])
 have fin : ∀ (e : Ending) (W' : World), (e = .returned (.bool true) /\ Below W.heap.size W W') -> ∃ v, e = .returned v /\ Rows.readNumbersSpec.post enc Tryz.prog Tryz.f3 false true false false W #[v0, v1, v2] v W' := by
  rintro e W' ⟨rfl, hbelow⟩
  refine ⟨_, rfl, _, _, _, [], p0 ++ (p1 ++ p2), [], hW', ?_, ?_, rfl, hbelow.frame _, fun h => by cases h⟩
  ·exact trodAll_mk1 (shut_bool Tryz.underlying4 _)
  ·exact trodAll_mk3 (Below.trod laidOut (by kernel_rfl) (of_decide_eq_true (by kernel_rfl)) h0 hbelow hlt0) (Below.trod laidOut (by kernel_rfl) (of_decide_eq_true (by kernel_rfl)) h1 hbelow hlt1) (Below.trod laidOut (by kernel_rfl) (of_decide_eq_true (by kernel_rfl)) h2 hbelow hlt2)
 obtain ⟨E, F, rfl⟩ := open_form (hval 0 23 v0 rfl rfl) h0
 obtain ⟨kind, neg, dneg, s, x, hneg, Ad, n, c, xs, hx, pl, rfl, hr, hnil, hn, hs⟩ := open_number (hval 1 33 v1 rfl rfl) h1 hb1
 obtain ⟨m0, rfl, -, -, wf⟩ := open_int Tryz.underlying5 (hval 2 5 v2 rfl rfl) h2
 obtain ⟨b1, b2⟩ := bounds_u8 wf
 obtain ⟨mode, rfl⟩ : ∃ m : Nat, m0 = m := ⟨m0.toNat, by omega⟩
 have hs2 : (s.size : Int) <= 4611686018427387904 := by omega
 exact (Law.ReadNumbers E F kind neg dneg s x hneg Ad n c xs hx pl mode W hr hnil (by omega) hs2 (table hL)).mono fin
noncomputable def laidWorld (os : Os) : World :=
 { World.holding Tryz.prog os ⟨#[], #[], []⟩ with heap := (World.holding Tryz.prog os ⟨#[], #[], []⟩).heap.modify 0 fun
   | .cells _ t frozen => .cells #[.int .u8 0, .int .u8 1, .int .u8 28, .int .u8 2, .int .u8 29, .int .u8 14, .int .u8 24, .int .u8 3, .int .u8 30, .int .u8 22, .int .u8 20, .int .u8 15, .int .u8 25, .int .u8 17, .int .u8 4, .int .u8 8, .int .u8 31, .int .u8 27, .int .u8 13, .int .u8 23, .int .u8 21, .int .u8 19, .int .u8 16, .int .u8 7, .int .u8 26, .int .u8 12, .int .u8 18, .int .u8 6, .int .u8 11, .int .u8 5, .int .u8 10, .int .u8 9] t frozen
   | o => o }
def witArgs : Array Value := #[fm 0 0, numV 0 false false .empty 0 false none 0 0 0 0, .int .u8 0]
theorem laid_met (os : Os) : laidMet Tryz.prog Rows.readNumbersUptoRow.laid ((laidWorld os).forCall (fun _ _ => 0) ⟨#[], witArgs, []⟩).memory :=
 laidMet_of_run' 8 (by kernel_rfl) (by kernel_rfl)
theorem reads (os : Os) {H : Type} (enc : TypeId × Value -> H) : ∃ places, DataW.whole enc Tryz.prog ((laidWorld os).forCall (fun _ _ => 0) ⟨#[], witArgs, []⟩).memory Tryz.f3.params.toList Rows.readNumbersSpec.vars false witArgs.toList 8 =
  some ([.agg [.lit (.int .i64 0), .lit (.int .i64 0)], .agg [.lit (.int .u8 0), .lit (.bool false), .agg [.lit (.bool false), .lit (.string []), .lit (.int .i64 0)], .agg [.lit (.bool false), .agg [.nil], .lit (.int .i64 0)], .lit (.int .u64 0)], .lit (.int .u8 0)], [], places) :=
 ⟨[], by kernel_rfl⟩
set_option maxRecDepth 100000 in
theorem lifted (os : Os) (started : os.Started) (H : Type) (enc : TypeId × Value -> H) (F : Stop.Interp) :
  ReturnsInHanded {} Tryz.checked os 3 .any ((Rows.OpenSpec.upto Rows.readNumbersSpec).preRow enc Tryz.prog Tryz.f3 Rows.readNumbersUptoRow.domain false Rows.readNumbersUptoRow.laid) (((Rows.OpenSpec.upto Rows.readNumbersSpec).at F).post enc Tryz.prog Tryz.f3 false true false false) := by
 obtain ⟨places, hx⟩ := reads os enc
 refine returnsInHanded_of_row (C := Tryz.checked) (s := Rows.OpenSpec.upto Rows.readNumbersSpec) own started (by kernel_rfl) Tryz.func3
  (witness_row_at (enc := enc) (C := Tryz.checked) false (laidWorld os) witArgs rfl (by kernel_rfl) (by kernel_rfl) (by kernel_rfl)
   (OpenSpec.preRow_of_cond 8 hx (by kernel_rfl) (fun k hk => by cases hk; kernel_rfl) (by kernel_rfl) (laid_met os))) ?_
 intro W base args ds gs before hval hW _ hcond _ hL _ _
 exact contract H enc W base args ds gs before hval hW (hcond _ rfl) hL
theorem said : Rows.ReadNumbersUptoSaid :=
 OpenClaim.holds_of_cond 3 Tryz.f3 rfl rfl rfl rfl rfl rfl rfl ⟨rfl, rfl, rfl, rfl, rfl⟩ rfl rfl rfl rfl rfl (by kernel_rfl) Tryz.func3 (by kernel_rfl)
  (of_decide_eq_true (by kernel_rfl)) (by unfold Func.isWrapper; first | (rw [if_pos (by decide +kernel)]; kernel_rfl) | (rw [if_neg (by decide +kernel)]; exact ⟨rfl, rfl⟩))
  (fun os started H enc _ F => by rw [OpenClaim.pre_eq_preRow]; exact lifted os started H enc F)
theorem plain (f : FuncId) (fn : Func) (hf : Tryz.pinned.checked.prog.funcNamed "numeral/numerallaw16.ReadNumbers" = some f) (hfn : Tryz.pinned.checked.prog.funcs[f]? = some fn) :
  false = Tryz.pinned.checked.prog.looks [] /\ ∀ (j : Nat) t, fn.params[j]? = some t -> Tryz.pinned.checked.prog.wantsStandIn t = false := by
 obtain rfl : f = 3 := Option.some.inj ((show Tryz.prog.funcNamed "numeral/numerallaw16.ReadNumbers" = some 3 by kernel_rfl).symm.trans hf) |>.symm
 obtain rfl : fn = Tryz.f3 := (Option.some.inj (Tryz.func3.symm.trans hfn)).symm
 refine ⟨by kernel_rfl, fun j t ht => ?_⟩
 rw [Tryz.params3] at ht
 have hm : t ∈ [23, 33, 5] := by simpa using Array.mem_of_getElem? ht
 have hall : ([23, 33, 5].all fun u => !Tryz.prog.wantsStandIn u) = true := by kernel_rfl
 exact (show Tryz.prog.wantsStandIn t = false by simpa using List.all_eq_true.1 hall t hm)
end Go.Proofs.YtbfmpcfcmbjeeaaGreatDoor.Fin
namespace Go.Proofs.YtbfmpcfcmbjeeaaGreatDoor
open Go
theorem readNumbers_card : Rows.ReadNumbersUptoCardSaid :=
 Claim7.holds_tied_plain_at .later [] _ _ _ _ Fin.said (fun _ h => by cases h) (by kernel_rfl) (fun _ h => by cases h) readNumbersUpto_row_tie rfl ⟨rfl, rfl⟩ (by kernel_rfl) rfl Fin.plain (by kernel_rfl)
#print axioms readNumbers_card
end Go.Proofs.YtbfmpcfcmbjeeaaGreatDoor
