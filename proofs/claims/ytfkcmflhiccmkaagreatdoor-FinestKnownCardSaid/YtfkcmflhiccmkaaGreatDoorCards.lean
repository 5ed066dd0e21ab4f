/-
  DERIVED. GIVEN WITH THE SEED: THE CARDS: each row of YtfkcmflhiccmkaaGreatDoorRows.lean that lists a variable, with what it lists TIED to the program's text (the seventh form; the later family's looks); each row that meets fmt, with fmt's text TOLD by the authors' own Lean function (tested against real Go, not proved from fmt's source: count such statements apart). THE CARD IS WHAT COUNTS. Prove the row's statement (the work); the ties are given (YtfkcmflhiccmkaaGreatDoorTie.lean); close each card by the builder's one call (the guide's Derived/Test/ToyasCard.lean, 'card_holds'). Laid BY PROGRAM, IN A SANDBOX (cutbox-door.mjs). By AI agents, Wed Nov 11 2026. No macro, syntax, notation, axiom, sorry.
-/
import Derived.Test.YtfkcmflhiccmkaaGreatDoorRows
import GoSem.ClaimSeven
namespace Go.Proofs.YtfkcmflhiccmkaaGreatDoor
namespace Rows

/-- THE TIED CARD OF 'interlocklaw27.FinestKnown'. -/
def finestKnownCard : Claim7 := { stood := { row := finestKnownRow, standIns := [], harness := (true, "83582b413d9b4e9da46bd79b77dde7f5860236aa89d8d3ab3b6fb718a11f8c80"), looks := true }, kinds := [], alts := [], laidByText := true, laidKinds := [.data, .data, .data], laidTests := true, laidLooks := .later }
def FinestKnownCardSaid : Prop := Claim7.holds Tryz.pinned (.plain (OpenSpec.ofChange finestKnownSpec)) finestKnownCard

/-- THE SECOND FORM's CARD OF 'interlocklaw27.FinestKnown'. -/
def finestKnownUptoCard : Claim7 := { stood := { row := finestKnownUptoRow, standIns := [], harness := (true, "83582b413d9b4e9da46bd79b77dde7f5860236aa89d8d3ab3b6fb718a11f8c80"), looks := true }, kinds := [], alts := [], laidByText := true, laidKinds := [.data, .data, .data], laidTests := true, laidLooks := .later }
def FinestKnownUptoCardSaid : Prop := Claim7.holds Tryz.pinned (.plain (OpenSpec.upto finestKnownSpec)) finestKnownUptoCard
end Rows
end Go.Proofs.YtfkcmflhiccmkaaGreatDoor
