/- Lemmas. -/
import Derived.Test.YtddaldghlinokaaGreatDoorPartBX
import Derived.Test.YtddaldghlinokaaGreatDoorPartBU
import Derived.Carry
import Derived.ChangeMaps5
import Derived.SizedLaws
set_option linter.all false
namespace Go.Proofs.YtddaldghlinokaaGreatDoor.Hfn
open Go Go.ChangeShapes Go.WideShapes Go.ChangeAt Go.RowKit Go.Deep R5 Hx
set_option maxRecDepth 100000 in
theorem bk_contract (H : Type) (enc : TypeId × Value -> H) (W : World) (base : Nat) (args : Array Value) (ds gs : List (DataW H)) (before : List MemPlace)
  (hval : ∀ (j : Nat) t v, Tryz.f5.params[j]? = some t -> args[j]? = some v -> Value.okWide Tryz.prog W .any base t v)
  (hW : DataW.Whole enc Tryz.prog Tryz.f5.params.toList Rows.hexBackSpec.vars false W args.toList ds gs before) (hL : laidMetH Tryz.prog Rows.hexBackRow.laid W) :
  Calls Tryz.prog 5 args W fun e W' => ∃ v, e = .returned v /\ Rows.hexBackSpec.post enc Tryz.prog Tryz.f5 false true false false W args v W' := by
 have hW' := hW
 obtain ⟨p, q, hA0, hV, rfl, hfz, hnd⟩ := hW
 have hA : DataW.TrodAll enc Tryz.prog W 0 (fun _ => true) true Tryz.f5.params.toList args.toList ds p := hA0
 rw [Tryz.params5] at hA hval
 obtain ⟨v0, v1, v2, v3, d0, d1, d2, d3, p0, p1, p2, p3, rfl, rfl, rfl, h0, h1, h2, h3⟩ := trodAll_four hA
 obtain ⟨rfl, rfl⟩ := trodVars_none hV
 have hlt0 : ∀ x ∈ p0, x.block < W.heap.size := fun x hx => by simpa using hW'.lt x (by simp [hx])
 have hlt1 : ∀ x ∈ p1, x.block < W.heap.size := fun x hx => by simpa using hW'.lt x (by simp [hx])
 have hlt2 : ∀ x ∈ p2, x.block < W.heap.size := fun x hx => by simpa using hW'.lt x (by simp [hx])
 have hlt3 : ∀ x ∈ p3, x.block < W.heap.size := fun x hx => by simpa using hW'.lt x (by simp [hx])
 have fin : ∀ (e : Ending) (W' : World), (e = .returned (.bool true) /\ Below W.heap.size W W') -> ∃ v, e = .returned v /\ Rows.hexBackSpec.post enc Tryz.prog Tryz.f5 false true false false W #[v0, v1, v2, v3] v W' := by
  rintro e W' ⟨rfl, hbelow⟩
  refine ⟨_, rfl, _, _, _, [], p0 ++ (p1 ++ (p2 ++ p3)), [], hW', ?_, ?_, rfl, hbelow.frame _, fun h => by cases h⟩
  ·exact trodAll_mk1 (shut_bool Tryz.underlying4 _)
  ·exact trodAll_mk4 (Below.trod laidOut (by kernel_rfl) (of_decide_eq_true (by kernel_rfl)) h0 hbelow hlt0) (Below.trod laidOut (by kernel_rfl) (of_decide_eq_true (by kernel_rfl)) h1 hbelow hlt1)
    (Below.trod laidOut (by kernel_rfl) (of_decide_eq_true (by kernel_rfl)) h2 hbelow hlt2) (Below.trod laidOut (by kernel_rfl) (of_decide_eq_true (by kernel_rfl)) h3 hbelow hlt3)
 obtain ⟨E, F, rfl⟩ := open_form (hval 0 23 v0 rfl rfl) h0
 obtain ⟨b0, rfl, -, -, wb⟩ := open_int Tryz.underlying31 (hval 1 31 v1 rfl rfl) h1
 obtain ⟨m0, rfl, -, -, wm⟩ := open_int Tryz.underlying5 (hval 2 5 v2 rfl rfl) h2
 obtain ⟨more, rfl, -, -, wi⟩ := open_int Tryz.underlying3 (hval 3 3 v3 rfl rfl) h3
 obtain ⟨b1, b2⟩ := bounds_u64 wb
 obtain ⟨b3, b4⟩ := bounds_u8 wm
 obtain ⟨b, rfl⟩ : ∃ b : Nat, b0 = b := ⟨b0.toNat, by omega⟩
 obtain ⟨mode, rfl⟩ : ∃ m : Nat, m0 = m := ⟨m0.toNat, by omega⟩
 have hl := plain_list W hL
 exact (HexBack E F b mode more W (bg_of hl) (ten_of hl) (by omega)).mono fin
def bkArgs : Array Value := #[fm 0 0, .int .u64 0, .int .u8 0, .int .i64 0]
set_option maxRecDepth 100000 in
theorem bk_lifted (os : Os) (started : os.Started) (H : Type) (enc : TypeId × Value -> H) (F : Stop.Interp) :
  ReturnsInHanded {} Tryz.checked os 5 .any ((OpenSpec.ofChange Rows.hexBackSpec).preRow enc Tryz.prog Tryz.f5 Rows.hexBackRow.domain false Rows.hexBackRow.laid) (((OpenSpec.ofChange Rows.hexBackSpec).at F).post enc Tryz.prog Tryz.f5 false true false false) := by
 refine returnsInHanded_of_row (C := Tryz.checked) (s := OpenSpec.ofChange Rows.hexBackSpec) own started (by kernel_rfl) Tryz.func5
  (witness_row_at (enc := enc) (C := Tryz.checked) false (laidWorld os) bkArgs rfl (by kernel_rfl) (by kernel_rfl) (by kernel_rfl)
   (OpenSpec.preRow_of_B rfl 8 (by kernel_rfl) (by kernel_rfl) (laid_met os _))) ?_
 intro W base args ds gs before hval hW _ _ hz hL _ _
 exact bk_contract H enc W base args ds gs before hval hW hL
end Go.Proofs.YtddaldghlinokaaGreatDoor.Hfn
