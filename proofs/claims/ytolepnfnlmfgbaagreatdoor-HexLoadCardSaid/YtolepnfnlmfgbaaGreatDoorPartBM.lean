/- HexLoad: of any form and any text the program's hex.Load gives back the worth or the refusal that the document's numeralref12.Load gives, and the law's fixed examples come out as stated. -/
import Derived.Test.YtolepnfnlmfgbaaGreatDoorPartBL
import Derived.ChangeMaps5
import Derived.SizedLaws
set_option linter.all false
namespace Go.Proofs.YtolepnfnlmfgbaaGreatDoor.Hfn
open Go Go.ChangeShapes Go.WideShapes Go.ChangeAt Go.RowKit Go.Deep R5 Hx
set_option maxRecDepth 100000 in
theorem ld_contract (H : Type) (enc : TypeId × Value -> H) (W : World) (base : Nat) (args : Array Value) (ds gs : List (DataW H)) (before : List MemPlace)
  (hval : ∀ (j : Nat) t v, Tryz.f4.params[j]? = some t -> args[j]? = some v -> Value.okWide Tryz.prog W .any base t v)
  (hW : DataW.Whole enc Tryz.prog Tryz.f4.params.toList Rows.hexLoadSpec.vars false W args.toList ds gs before) (hL : laidMetH Tryz.prog Rows.hexLoadRow.laid W)
  (hz : (DataW.weightsEach Tryz.prog (Tryz.f4.params.toList ++ (OpenSpec.ofChange Rows.hexLoadSpec).bare.plain.varTypes Tryz.prog) (ds ++ gs)).all (· <= reachBytes) = true) :
  Calls Tryz.prog 4 args W fun e W' => ∃ v, e = .returned v /\ Rows.hexLoadSpec.post enc Tryz.prog Tryz.f4 false true false false W args v W' := by
 have hW' := hW
 obtain ⟨p, q, hA0, hV, rfl, hfz, hnd⟩ := hW
 have hA : DataW.TrodAll enc Tryz.prog W 0 (fun _ => true) true Tryz.f4.params.toList args.toList ds p := hA0
 rw [Tryz.params4] at hA hval
 obtain ⟨v0, v1, d0, d1, p0, p1, rfl, rfl, rfl, h0, h1⟩ := trodAll_two hA
 obtain ⟨rfl, rfl⟩ := trodVars_none hV
 have hlt0 : ∀ x ∈ p0, x.block < W.heap.size := fun x hx => by simpa using hW'.lt x (by simp [hx])
 have hlt1 : ∀ x ∈ p1, x.block < W.heap.size := fun x hx => by simpa using hW'.lt x (by simp [hx])
 have fin : ∀ (e : Ending) (W' : World), (e = .returned (.bool true) /\ Below W.heap.size W W') -> ∃ v, e = .returned v /\ Rows.hexLoadSpec.post enc Tryz.prog Tryz.f4 false true false false W #[v0, v1] v W' := by
  rintro e W' ⟨rfl, hbelow⟩
  refine ⟨_, rfl, _, _, _, [], p0 ++ p1, [], hW', ?_, ?_, rfl, hbelow.frame _, fun h => by cases h⟩
  ·exact trodAll_mk1 (shut_bool Tryz.underlying4 _)
  ·exact trodAll_mk2 (Below.trod laidOut (by kernel_rfl) (of_decide_eq_true (by kernel_rfl)) h0 hbelow hlt0) (Below.trod laidOut (by kernel_rfl) (of_decide_eq_true (by kernel_rfl)) h1 hbelow hlt1)
 obtain ⟨E, F, rfl⟩ := open_form (hval 0 23 v0 rfl rfl) h0
 obtain ⟨s, rfl, hds, -, -⟩ := Go.ChangeMaps.open_string Tryz.underlying9 (hval 1 9 v1 rfl rfl) h1
 have hs : s.size <= 4611686018427387904 := by
  have hlen := sized_string hz (j := 1) (t := 9) (bytes := s.data.toList) (by rw [Tryz.params4]; rfl) (by rw [hds]; rfl)
  rw [Array.length_toList] at hlen
  have : s.data.size = s.size := rfl
  unfold reachBytes at hlen
  omega
 have hl := plain_list W hL
 exact (HexLoad E F s W (bg_of hl) (ten_of hl) hs).mono fin
def ldArgs : Array Value := #[fm 0 0, .string .empty]
set_option maxRecDepth 100000 in
theorem ld_lifted (os : Os) (started : os.Started) (H : Type) (enc : TypeId × Value -> H) (F : Stop.Interp) :
  ReturnsInHanded {} Tryz.checked os 4 .any ((OpenSpec.ofChange Rows.hexLoadSpec).preRow enc Tryz.prog Tryz.f4 Rows.hexLoadRow.domain false Rows.hexLoadRow.laid) (((OpenSpec.ofChange Rows.hexLoadSpec).at F).post enc Tryz.prog Tryz.f4 false true false false) := by
 refine returnsInHanded_of_row (C := Tryz.checked) (s := OpenSpec.ofChange Rows.hexLoadSpec) own started (by kernel_rfl) Tryz.func4
  (witness_row_at (enc := enc) (C := Tryz.checked) false (laidWorld os) ldArgs rfl (by kernel_rfl) (by kernel_rfl) (by kernel_rfl)
   (OpenSpec.preRow_of_B rfl 8 (by kernel_rfl) (by kernel_rfl) (laid_met os _))) ?_
 intro W base args ds gs before hval hW _ _ hz hL _ _
 exact ld_contract H enc W base args ds gs before hval hW hL hz
theorem ld_closed : joinedFacts Tryz.pinned.checked.prog 4 Tryz.f4 (OpenSpec.ofChange Rows.hexLoadSpec).bare Rows.hexLoadRow = true := by kernel_rfl
theorem ld_said : Rows.HexLoadSaid :=
 OpenClaim.holds_of_cond 4 Tryz.f4 rfl rfl rfl rfl rfl rfl rfl ⟨rfl, rfl, rfl, rfl, rfl⟩ rfl rfl rfl rfl rfl (by kernel_rfl) Tryz.func4 ld_closed
  (of_decide_eq_true (by kernel_rfl)) (by unfold Func.isWrapper; first | (rw [if_pos (by decide +kernel)]; kernel_rfl) | (rw [if_neg (by decide +kernel)]; exact ⟨rfl, rfl⟩))
  (fun os started H enc _ F => by rw [OpenClaim.pre_eq_preRow]; exact ld_lifted os started H enc F)
theorem ld_plain (f : FuncId) (fn : Func) (hf : Tryz.pinned.checked.prog.funcNamed "numeral/numerallaw12.HexLoad" = some f) (hfn : Tryz.pinned.checked.prog.funcs[f]? = some fn) :
  true = Tryz.pinned.checked.prog.looks [] /\ ∀ (j : Nat) t, fn.params[j]? = some t -> Tryz.pinned.checked.prog.wantsStandIn t = false := by
 obtain rfl : f = 4 := Option.some.inj ((show Tryz.prog.funcNamed "numeral/numerallaw12.HexLoad" = some 4 by kernel_rfl).symm.trans hf) |>.symm
 obtain rfl : fn = Tryz.f4 := (Option.some.inj (Tryz.func4.symm.trans hfn)).symm
 refine ⟨by kernel_rfl, fun j t ht => ?_⟩
 rw [Tryz.params4] at ht
 have hm : t ∈ [23, 9] := by simpa using Array.mem_of_getElem? ht
 have hall : ([23, 9].all fun u => !Tryz.prog.wantsStandIn u) = true := by kernel_rfl
 exact (show Tryz.prog.wantsStandIn t = false by simpa using List.all_eq_true.1 hall t hm)
end Go.Proofs.YtolepnfnlmfgbaaGreatDoor.Hfn
namespace Go.Proofs.YtolepnfnlmfgbaaGreatDoor
open Go
theorem hexLoad_card : Rows.HexLoadCardSaid :=
 Claim7.holds_tied_plain_at .later [] _ _ _ _ Hfn.ld_said (fun _ h => by cases h) (by kernel_rfl) (fun _ h => by cases h) hexLoad_row_tie rfl ⟨rfl, rfl⟩ (by kernel_rfl) rfl Hfn.ld_plain (by kernel_rfl)
#print axioms hexLoad_card
end Go.Proofs.YtolepnfnlmfgbaaGreatDoor
