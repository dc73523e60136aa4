/-
  DERIVED. GIVEN WITH THE SEED: THE CARDS: each row of YtabcgemembkkcaaGreatDoorRows.lean that lists a variable, with what it lists TIED to the program's text (the seventh form; the later family's looks); each row that meets fmt, with fmt's text TOLD by the authors' own Lean function (tested against real Go, not proved from fmt's source: count such statements apart). THE CARD IS WHAT COUNTS. Prove the row's statement (the work); the ties are given (YtabcgemembkkcaaGreatDoorTie.lean); close each card by the builder's one call (the guide's Derived/Test/ToyasCard.lean, 'card_holds'). Laid BY PROGRAM, IN A SANDBOX (cutbox-door.mjs). By AI agents, Wed Nov 11 2026. No macro, syntax, notation, axiom, sorry.
-/
import Derived.Test.YtabcgemembkkcaaGreatDoorRows
import GoSem.ClaimSeven
namespace Go.Proofs.YtabcgemembkkcaaGreatDoor
namespace Rows

/-- THE TIED CARD OF 'numerallaw18.ShortDigits'. -/
def shortDigitsCard : Claim7 := { stood := { row := shortDigitsRow, standIns := [], harness := (true, "4e1b3f5f74238f2f500eba365ef7520dd2a31499e9bfe6cdf70a9ddd3b98e89b"), looks := false }, kinds := [], alts := [], laidByText := true, laidKinds := [.data, .data, .pinned], laidTests := true, laidLooks := .later }
def ShortDigitsCardSaid : Prop := Claim7.holds Tryz.pinned (.plain (OpenSpec.ofChange shortDigitsSpec)) shortDigitsCard

/-- THE TIED CARD OF 'numerallaw18.ShortBack'. -/
def shortBackCard : Claim7 := { stood := { row := shortBackRow, standIns := [], harness := (true, "4e1b3f5f74238f2f500eba365ef7520dd2a31499e9bfe6cdf70a9ddd3b98e89b"), looks := false }, kinds := [], alts := [], laidByText := true, laidKinds := [.data, .data, .pinned], laidTests := true, laidLooks := .later }
def ShortBackCardSaid : Prop := Claim7.holds Tryz.pinned (.plain (OpenSpec.ofChange shortBackSpec)) shortBackCard

/-- THE TIED CARD OF 'numerallaw18.ShortWithin'. -/
def shortWithinCard : Claim7 := { stood := { row := shortWithinRow, standIns := [], harness := (true, "4e1b3f5f74238f2f500eba365ef7520dd2a31499e9bfe6cdf70a9ddd3b98e89b"), looks := false }, kinds := [], alts := [], laidByText := true, laidKinds := [.data, .data, .pinned], laidTests := true, laidLooks := .later }
def ShortWithinCardSaid : Prop := Claim7.holds Tryz.pinned (.plain (OpenSpec.ofChange shortWithinSpec)) shortWithinCard

/-- THE TIED CARD OF 'numerallaw18.ShortMirrored'. -/
def shortMirroredCard : Claim7 := { stood := { row := shortMirroredRow, standIns := [], harness := (true, "4e1b3f5f74238f2f500eba365ef7520dd2a31499e9bfe6cdf70a9ddd3b98e89b"), looks := false }, kinds := [], alts := [], laidByText := true, laidKinds := [.data, .data, .pinned], laidTests := true, laidLooks := .later }
def ShortMirroredCardSaid : Prop := Claim7.holds Tryz.pinned (.plain (OpenSpec.ofChange shortMirroredSpec)) shortMirroredCard

/-- THE SECOND FORM's CARD OF 'numerallaw18.ShortDigits'. -/
def shortDigitsUptoCard : Claim7 := { stood := { row := shortDigitsUptoRow, standIns := [], harness := (true, "4e1b3f5f74238f2f500eba365ef7520dd2a31499e9bfe6cdf70a9ddd3b98e89b"), looks := false }, kinds := [], alts := [], laidByText := true, laidKinds := [.data, .data, .pinned], laidTests := true, laidLooks := .later }
def ShortDigitsUptoCardSaid : Prop := Claim7.holds Tryz.pinned (.plain (OpenSpec.upto shortDigitsSpec)) shortDigitsUptoCard

/-- THE SECOND FORM's CARD OF 'numerallaw18.ShortBack'. -/
def shortBackUptoCard : Claim7 := { stood := { row := shortBackUptoRow, standIns := [], harness := (true, "4e1b3f5f74238f2f500eba365ef7520dd2a31499e9bfe6cdf70a9ddd3b98e89b"), looks := false }, kinds := [], alts := [], laidByText := true, laidKinds := [.data, .data, .pinned], laidTests := true, laidLooks := .later }
def ShortBackUptoCardSaid : Prop := Claim7.holds Tryz.pinned (.plain (OpenSpec.upto shortBackSpec)) shortBackUptoCard

/-- THE SECOND FORM's CARD OF 'numerallaw18.ShortWithin'. -/
def shortWithinUptoCard : Claim7 := { stood := { row := shortWithinUptoRow, standIns := [], harness := (true, "4e1b3f5f74238f2f500eba365ef7520dd2a31499e9bfe6cdf70a9ddd3b98e89b"), looks := false }, kinds := [], alts := [], laidByText := true, laidKinds := [.data, .data, .pinned], laidTests := true, laidLooks := .later }
def ShortWithinUptoCardSaid : Prop := Claim7.holds Tryz.pinned (.plain (OpenSpec.upto shortWithinSpec)) shortWithinUptoCard

/-- THE SECOND FORM's CARD OF 'numerallaw18.ShortMirrored'. -/
def shortMirroredUptoCard : Claim7 := { stood := { row := shortMirroredUptoRow, standIns := [], harness := (true, "4e1b3f5f74238f2f500eba365ef7520dd2a31499e9bfe6cdf70a9ddd3b98e89b"), looks := false }, kinds := [], alts := [], laidByText := true, laidKinds := [.data, .data, .pinned], laidTests := true, laidLooks := .later }
def ShortMirroredUptoCardSaid : Prop := Claim7.holds Tryz.pinned (.plain (OpenSpec.upto shortMirroredSpec)) shortMirroredUptoCard
end Rows
end Go.Proofs.YtabcgemembkkcaaGreatDoor
