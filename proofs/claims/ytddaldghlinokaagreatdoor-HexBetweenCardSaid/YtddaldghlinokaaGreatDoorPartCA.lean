/- Lemmas. -/
import Derived.Test.YtddaldghlinokaaGreatDoorPartBX
import Derived.Test.YtddaldghlinokaaGreatDoorPartBW
import Derived.ChangeMaps5
import Derived.SizedLaws
set_option linter.all false
namespace Go.Proofs.YtddaldghlinokaaGreatDoor.Hfn
open Go Go.ChangeShapes Go.WideShapes Go.ChangeAt Go.RowKit Go.Deep R5 Hx
set_option maxRecDepth 100000 in
theorem bt_contract (H : Type) (enc : TypeId × Value -> H) (W : World) (base : Nat) (args : Array Value) (ds gs : List (DataW H)) (before : List MemPlace)
  (hval : ∀ (j : Nat) t v, Tryz.f6.params[j]? = some t -> args[j]? = some v -> Value.okWide Tryz.prog W .any base t v)
  (hW : DataW.Whole enc Tryz.prog Tryz.f6.params.toList Rows.hexBetweenSpec.vars false W args.toList ds gs before) (hL : laidMetH Tryz.prog Rows.hexBetweenRow.laid W) :
  Calls Tryz.prog 6 args W fun e W' => ∃ v, e = .returned v /\ Rows.hexBetweenSpec.post enc Tryz.prog Tryz.f6 false true false false W args v W' := by
 have hW' := hW
 obtain ⟨p, q, hA0, hV, rfl, hfz, hnd⟩ := hW
 have hA : DataW.TrodAll enc Tryz.prog W 0 (fun _ => true) true Tryz.f6.params.toList args.toList ds p := hA0
 rw [Tryz.params6] at hA hval
 obtain ⟨v0, v1, d0, d1, p0, p1, rfl, rfl, rfl, h0, h1⟩ := trodAll_two hA
 obtain ⟨rfl, rfl⟩ := trodVars_none hV
 have hlt0 : ∀ x ∈ p0, x.block < W.heap.size := fun x hx => by simpa using hW'.lt x (by simp [hx])
 have hlt1 : ∀ x ∈ p1, x.block < W.heap.size := fun x hx => by simpa using hW'.lt x (by simp [hx])
 have fin : ∀ (e : Ending) (W' : World), (e = .returned (.bool true) /\ Below W.heap.size W W') -> ∃ v, e = .returned v /\ Rows.hexBetweenSpec.post enc Tryz.prog Tryz.f6 false true false false W #[v0, v1] v W' := by
  rintro e W' ⟨rfl, hbelow⟩
  refine ⟨_, rfl, _, _, _, [], p0 ++ p1, [], hW', ?_, ?_, rfl, hbelow.frame _, fun h => by cases h⟩
  ·exact trodAll_mk1 (shut_bool Tryz.underlying4 _)
  ·exact trodAll_mk2 (Below.trod laidOut (by kernel_rfl) (of_decide_eq_true (by kernel_rfl)) h0 hbelow hlt0) (Below.trod laidOut (by kernel_rfl) (of_decide_eq_true (by kernel_rfl)) h1 hbelow hlt1)
 obtain ⟨b0, rfl, -, -, wb⟩ := open_int Tryz.underlying31 (hval 0 31 v0 rfl rfl) h0
 obtain ⟨pl, rfl, -, -, wi⟩ := open_int Tryz.underlying3 (hval 1 3 v1 rfl rfl) h1
 obtain ⟨b1, b2⟩ := bounds_u64 wb
 obtain ⟨b, rfl⟩ : ∃ b : Nat, b0 = b := ⟨b0.toNat, by omega⟩
 have hl := plain_list W hL
 exact (HexBetween b pl W (bg_of hl) (ten_of hl) (by omega)).mono fin
def btArgs : Array Value := #[.int .u64 0, .int .i64 0]
set_option maxRecDepth 100000 in
theorem bt_lifted (os : Os) (started : os.Started) (H : Type) (enc : TypeId × Value -> H) (F : Stop.Interp) :
  ReturnsInHanded {} Tryz.checked os 6 .any ((OpenSpec.ofChange Rows.hexBetweenSpec).preRow enc Tryz.prog Tryz.f6 Rows.hexBetweenRow.domain false Rows.hexBetweenRow.laid) (((OpenSpec.ofChange Rows.hexBetweenSpec).at F).post enc Tryz.prog Tryz.f6 false true false false) := by
 refine returnsInHanded_of_row (C := Tryz.checked) (s := OpenSpec.ofChange Rows.hexBetweenSpec) own started (by kernel_rfl) Tryz.func6
  (witness_row_at (enc := enc) (C := Tryz.checked) false (laidWorld os) btArgs rfl (by kernel_rfl) (by kernel_rfl) (by kernel_rfl)
   (OpenSpec.preRow_of_B rfl 8 (by kernel_rfl) (by kernel_rfl) (laid_met os _))) ?_
 intro W base args ds gs before hval hW _ _ hz hL _ _
 exact bt_contract H enc W base args ds gs before hval hW hL
end Go.Proofs.YtddaldghlinokaaGreatDoor.Hfn
