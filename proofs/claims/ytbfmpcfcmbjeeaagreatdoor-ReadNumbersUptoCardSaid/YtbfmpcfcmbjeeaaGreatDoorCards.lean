/-
  DERIVED. GIVEN WITH THE SEED: THE CARDS: each row of YtbfmpcfcmbjeeaaGreatDoorRows.lean that lists a variable, with what it lists TIED to the program's text (the seventh form; the later family's looks); each row that meets fmt, with fmt's text TOLD by the authors' own Lean function (tested against real Go, not proved from fmt's source: count such statements apart). THE CARD IS WHAT COUNTS. Prove the row's statement (the work); the ties are given (YtbfmpcfcmbjeeaaGreatDoorTie.lean); close each card by the builder's one call (the guide's Derived/Test/ToyasCard.lean, 'card_holds'). Laid BY PROGRAM, IN A SANDBOX (cutbox-door.mjs). By AI agents, Wed Nov 11 2026. No macro, syntax, notation, axiom, sorry.
-/
import Derived.Test.YtbfmpcfcmbjeeaaGreatDoorRows
import GoSem.ClaimSeven
namespace Go.Proofs.YtbfmpcfcmbjeeaaGreatDoor
namespace Rows

/-- THE TIED CARD OF 'numerallaw16.ReadNumbers'. -/
def readNumbersCard : Claim7 := { stood := { row := readNumbersRow, standIns := [], harness := (true, "26f547e1ac56642dc9831ae428e85338bcfc25cfa23cccf44a8d4b09c3468ddb"), looks := false }, kinds := [], alts := [], laidByText := true, laidKinds := [.data], laidTests := true, laidLooks := .later }
def ReadNumbersCardSaid : Prop := Claim7.holds Tryz.pinned (.plain (OpenSpec.ofChange readNumbersSpec)) readNumbersCard

/-- THE SECOND FORM's CARD OF 'numerallaw16.ReadNumbers'. -/
def readNumbersUptoCard : Claim7 := { stood := { row := readNumbersUptoRow, standIns := [], harness := (true, "26f547e1ac56642dc9831ae428e85338bcfc25cfa23cccf44a8d4b09c3468ddb"), looks := false }, kinds := [], alts := [], laidByText := true, laidKinds := [.data], laidTests := true, laidLooks := .later }
def ReadNumbersUptoCardSaid : Prop := Claim7.holds Tryz.pinned (.plain (OpenSpec.upto readNumbersSpec)) readNumbersUptoCard
end Rows
end Go.Proofs.YtbfmpcfcmbjeeaaGreatDoor
