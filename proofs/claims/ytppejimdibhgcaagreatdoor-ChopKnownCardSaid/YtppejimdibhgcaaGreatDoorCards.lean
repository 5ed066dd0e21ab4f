/-
  DERIVED. GIVEN WITH THE SEED: THE CARDS: each row of YtppejimdibhgcaaGreatDoorRows.lean that lists a variable, with what it lists TIED to the program's text (the seventh form; the later family's looks); each row that meets fmt, with fmt's text TOLD by the authors' own Lean function (tested against real Go, not proved from fmt's source: count such statements apart). THE CARD IS WHAT COUNTS. Prove the row's statement (the work); the ties are given (YtppejimdibhgcaaGreatDoorTie.lean); close each card by the builder's one call (the guide's Derived/Test/ToyasCard.lean, 'card_holds'). Laid BY PROGRAM, IN A SANDBOX (cutbox-door.mjs). By AI agents, Wed Nov 11 2026. No macro, syntax, notation, axiom, sorry.
-/
import Derived.Test.YtppejimdibhgcaaGreatDoorRows
import GoSem.ClaimSeven
namespace Go.Proofs.YtppejimdibhgcaaGreatDoor
namespace Rows

/-- THE TIED CARD OF 'interlocklaw26.ChopKnown'. -/
def chopKnownCard : Claim7 := { stood := { row := chopKnownRow, standIns := [], harness := (true, "5cab64aad972d9f8ec3ae18546fdb540c5557ed0cb630d2a868e9ec3088eea35"), looks := true }, kinds := [], alts := [], laidByText := true, laidKinds := [.data, .data, .data], laidTests := true, laidLooks := .later }
def ChopKnownCardSaid : Prop := Claim7.holds Tryz.pinned (.plain (OpenSpec.ofChange chopKnownSpec)) chopKnownCard

/-- THE SECOND FORM's CARD OF 'interlocklaw26.ChopKnown'. -/
def chopKnownUptoCard : Claim7 := { stood := { row := chopKnownUptoRow, standIns := [], harness := (true, "5cab64aad972d9f8ec3ae18546fdb540c5557ed0cb630d2a868e9ec3088eea35"), looks := true }, kinds := [], alts := [], laidByText := true, laidKinds := [.data, .data, .data], laidTests := true, laidLooks := .later }
def ChopKnownUptoCardSaid : Prop := Claim7.holds Tryz.pinned (.plain (OpenSpec.upto chopKnownSpec)) chopKnownUptoCard
end Rows
end Go.Proofs.YtppejimdibhgcaaGreatDoor
