/-
  DERIVED. GIVEN WITH THE SEED: THE CARDS: each row of YtceaohiahajolaaGreatDoorRows.lean that lists a variable, with what it lists TIED to the program's text (the seventh form; the later family's looks); each row that meets fmt, with fmt's text TOLD by the authors' own Lean function (tested against real Go, not proved from fmt's source: count such statements apart). THE CARD IS WHAT COUNTS. Prove the row's statement (the work); the ties are given (YtceaohiahajolaaGreatDoorTie.lean); close each card by the builder's one call (the guide's Derived/Test/ToyasCard.lean, 'card_holds'). Laid BY PROGRAM, IN A SANDBOX (cutbox-door.mjs). By AI agents, Wed Nov 11 2026. No macro, syntax, notation, axiom, sorry.
-/
import Derived.Test.YtceaohiahajolaaGreatDoorRows
import GoSem.ClaimSeven
namespace Go.Proofs.YtceaohiahajolaaGreatDoor
namespace Rows

/-- THE TIED CARD OF 'interlocklaw23.RingKnown'. -/
def ringKnownCard : Claim7 := { stood := { row := ringKnownRow, standIns := [], harness := (true, "2cdde84d91ac4065e103f2335e24d4aee5b2e833a902bbca76ef49cf73acac3e"), looks := true }, kinds := [], alts := [], laidByText := true, laidKinds := [.data, .data, .data], laidTests := true, laidLooks := .later }
def RingKnownCardSaid : Prop := Claim7.holds Tryz.pinned (.plain (OpenSpec.ofChange ringKnownSpec)) ringKnownCard

/-- THE SECOND FORM's CARD OF 'interlocklaw23.RingKnown'. -/
def ringKnownUptoCard : Claim7 := { stood := { row := ringKnownUptoRow, standIns := [], harness := (true, "2cdde84d91ac4065e103f2335e24d4aee5b2e833a902bbca76ef49cf73acac3e"), looks := true }, kinds := [], alts := [], laidByText := true, laidKinds := [.data, .data, .data], laidTests := true, laidLooks := .later }
def RingKnownUptoCardSaid : Prop := Claim7.holds Tryz.pinned (.plain (OpenSpec.upto ringKnownSpec)) ringKnownUptoCard
end Rows
end Go.Proofs.YtceaohiahajolaaGreatDoor
