/-
  DERIVED. GIVEN WITH THE SEED: THE CARDS: each row of YtokgagenofjmgaaGreatDoorRows.lean that lists a variable, with what it lists TIED to the program's text (the seventh form; the later family's looks); each row that meets fmt, with fmt's text TOLD by the authors' own Lean function (tested against real Go, not proved from fmt's source: count such statements apart). THE CARD IS WHAT COUNTS. Prove the row's statement (the work); the ties are given (YtokgagenofjmgaaGreatDoorTie.lean); close each card by the builder's one call (the guide's Derived/Test/ToyasCard.lean, 'card_holds'). Laid BY PROGRAM, IN A SANDBOX (cutbox-door.mjs). By AI agents, Wed Nov 11 2026. No macro, syntax, notation, axiom, sorry.
-/
import Derived.Test.YtokgagenofjmgaaGreatDoorRows
import GoSem.ClaimSeven
namespace Go.Proofs.YtokgagenofjmgaaGreatDoor
namespace Rows

/-- THE TIED CARD OF 'numerallaw24.StreamItems'. -/
def streamItemsCard : Claim7 := { stood := { row := streamItemsRow, standIns := [], harness := (true, "69f6dae73502de10542fc3147297ab896095d7096330551f0963f9a935259353"), looks := true }, kinds := [], alts := [], laidByText := true, laidKinds := [.data, .data, .data, .data, .handle, .sentinel, .sentinel, .pinned], laidTests := true, laidLooks := .later }
def StreamItemsCardSaid : Prop := Claim7.holds Tryz.pinned (.plain (OpenSpec.ofChange streamItemsSpec)) streamItemsCard

/-- THE SECOND FORM's CARD OF 'numerallaw24.StreamItems'. -/
def streamItemsUptoCard : Claim7 := { stood := { row := streamItemsUptoRow, standIns := [], harness := (true, "69f6dae73502de10542fc3147297ab896095d7096330551f0963f9a935259353"), looks := true }, kinds := [], alts := [], laidByText := true, laidKinds := [.data, .data, .data, .data, .handle, .sentinel, .sentinel, .pinned], laidTests := true, laidLooks := .later }
def StreamItemsUptoCardSaid : Prop := Claim7.holds Tryz.pinned (.plain (OpenSpec.upto streamItemsSpec)) streamItemsUptoCard
end Rows
end Go.Proofs.YtokgagenofjmgaaGreatDoor
