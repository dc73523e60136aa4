/-
  DERIVED. GIVEN WITH THE SEED: THE CARDS: each row of YthopehoklmgphaaGreatDoorRows.lean that lists a variable, with what it lists TIED to the program's text (the seventh form; the later family's looks); each row that meets fmt, with fmt's text TOLD by the authors' own Lean function (tested against real Go, not proved from fmt's source: count such statements apart). THE CARD IS WHAT COUNTS. Prove the row's statement (the work); the ties are given (YthopehoklmgphaaGreatDoorTie.lean); close each card by the builder's one call (the guide's Derived/Test/ToyasCard.lean, 'card_holds'). Laid BY PROGRAM, IN A SANDBOX (cutbox-door.mjs). By AI agents, Wed Nov 11 2026. No macro, syntax, notation, axiom, sorry.
-/
import Derived.Test.YthopehoklmgphaaGreatDoorRows
import GoSem.ClaimSeven
namespace Go.Proofs.YthopehoklmgphaaGreatDoor
namespace Rows

/-- THE TIED CARD OF 'numerallaw24.StreamScript'. -/
def streamScriptCard : Claim7 := { stood := { row := streamScriptRow, standIns := [], harness := (true, "426c7dbdc932475da7853251075dd2b1b2a31c9f01e72ef801b48887829a9251"), looks := true }, kinds := [], alts := [], laidByText := true, laidKinds := [.data, .data, .data, .data, .handle, .sentinel, .sentinel, .pinned], laidTests := true, laidLooks := .later }
def StreamScriptCardSaid : Prop := Claim7.holds Tryz.pinned (.plain (OpenSpec.ofChange streamScriptSpec)) streamScriptCard

/-- THE SECOND FORM's CARD OF 'numerallaw24.StreamScript'. -/
def streamScriptUptoCard : Claim7 := { stood := { row := streamScriptUptoRow, standIns := [], harness := (true, "426c7dbdc932475da7853251075dd2b1b2a31c9f01e72ef801b48887829a9251"), looks := true }, kinds := [], alts := [], laidByText := true, laidKinds := [.data, .data, .data, .data, .handle, .sentinel, .sentinel, .pinned], laidTests := true, laidLooks := .later }
def StreamScriptUptoCardSaid : Prop := Claim7.holds Tryz.pinned (.plain (OpenSpec.upto streamScriptSpec)) streamScriptUptoCard
end Rows
end Go.Proofs.YthopehoklmgphaaGreatDoor
