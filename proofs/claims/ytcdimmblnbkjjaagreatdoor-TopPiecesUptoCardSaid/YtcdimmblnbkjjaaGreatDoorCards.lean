/-
  DERIVED. GIVEN WITH THE SEED: THE CARDS: each row of YtcdimmblnbkjjaaGreatDoorRows.lean that lists a variable, with what it lists TIED to the program's text (the seventh form; the later family's looks); each row that meets fmt, with fmt's text TOLD by the authors' own Lean function (tested against real Go, not proved from fmt's source: count such statements apart). THE CARD IS WHAT COUNTS. Prove the row's statement (the work); the ties are given (YtcdimmblnbkjjaaGreatDoorTie.lean); close each card by the builder's one call (the guide's Derived/Test/ToyasCard.lean, 'card_holds'). Laid BY PROGRAM, IN A SANDBOX (cutbox-door.mjs). By AI agents, Wed Nov 11 2026. No macro, syntax, notation, axiom, sorry.
-/
import Derived.Test.YtcdimmblnbkjjaaGreatDoorRows
import GoSem.ClaimSeven
namespace Go.Proofs.YtcdimmblnbkjjaaGreatDoor
namespace Rows

/-- THE TIED CARD OF 'numerallaw16.ReadNumbers'. -/
def readNumbersCard : Claim7 := { stood := { row := readNumbersRow, standIns := [], harness := (true, "cc85949d54da7922de7e8ea70169c249762ad1ad9a1362a2392ab11117869869"), looks := true }, kinds := [], alts := [], laidByText := true, laidKinds := [.data], laidTests := true, laidLooks := .later }
def ReadNumbersCardSaid : Prop := Claim7.holds Tryz.pinned (.plain (OpenSpec.ofChange readNumbersSpec)) readNumbersCard

/-- THE TIED CARD OF 'numerallaw24.StreamPieces'. -/
def streamPiecesCard : Claim7 := { stood := { row := streamPiecesRow, standIns := [], harness := (true, "cc85949d54da7922de7e8ea70169c249762ad1ad9a1362a2392ab11117869869"), looks := true }, kinds := [], alts := [], laidByText := true, laidKinds := [.data, .data, .data, .data, .handle, .sentinel, .sentinel, .pinned], laidTests := true, laidLooks := .later }
def StreamPiecesCardSaid : Prop := Claim7.holds Tryz.pinned (.plain (OpenSpec.ofChange streamPiecesSpec)) streamPiecesCard

/-- THE TIED CARD OF 'numeraltop.TopPieces'. -/
def topPiecesCard : Claim7 := { stood := { row := topPiecesRow, standIns := [], harness := (true, "cc85949d54da7922de7e8ea70169c249762ad1ad9a1362a2392ab11117869869"), looks := true }, kinds := [], alts := [], laidByText := true, laidKinds := [.data, .data, .data, .data, .handle, .sentinel, .sentinel, .pinned], laidTests := true, laidLooks := .later }
def TopPiecesCardSaid : Prop := Claim7.holds Tryz.pinned (.plain (OpenSpec.ofChange topPiecesSpec)) topPiecesCard

/-- THE SECOND FORM's CARD OF 'numerallaw16.ReadNumbers'. -/
def readNumbersUptoCard : Claim7 := { stood := { row := readNumbersUptoRow, standIns := [], harness := (true, "cc85949d54da7922de7e8ea70169c249762ad1ad9a1362a2392ab11117869869"), looks := true }, kinds := [], alts := [], laidByText := true, laidKinds := [.data], laidTests := true, laidLooks := .later }
def ReadNumbersUptoCardSaid : Prop := Claim7.holds Tryz.pinned (.plain (OpenSpec.upto readNumbersSpec)) readNumbersUptoCard

/-- THE SECOND FORM's CARD OF 'numerallaw24.StreamPieces'. -/
def streamPiecesUptoCard : Claim7 := { stood := { row := streamPiecesUptoRow, standIns := [], harness := (true, "cc85949d54da7922de7e8ea70169c249762ad1ad9a1362a2392ab11117869869"), looks := true }, kinds := [], alts := [], laidByText := true, laidKinds := [.data, .data, .data, .data, .handle, .sentinel, .sentinel, .pinned], laidTests := true, laidLooks := .later }
def StreamPiecesUptoCardSaid : Prop := Claim7.holds Tryz.pinned (.plain (OpenSpec.upto streamPiecesSpec)) streamPiecesUptoCard

/-- THE SECOND FORM's CARD OF 'numeraltop.TopPieces'. -/
def topPiecesUptoCard : Claim7 := { stood := { row := topPiecesUptoRow, standIns := [], harness := (true, "cc85949d54da7922de7e8ea70169c249762ad1ad9a1362a2392ab11117869869"), looks := true }, kinds := [], alts := [], laidByText := true, laidKinds := [.data, .data, .data, .data, .handle, .sentinel, .sentinel, .pinned], laidTests := true, laidLooks := .later }
def TopPiecesUptoCardSaid : Prop := Claim7.holds Tryz.pinned (.plain (OpenSpec.upto topPiecesSpec)) topPiecesUptoCard
end Rows
end Go.Proofs.YtcdimmblnbkjjaaGreatDoor
