/-
  DERIVED. GIVEN WITH THE SEED: THE CARDS: each row of YtkhecbikkdcfoaaGreatDoorRows.lean that lists a variable, with what it lists TIED to the program's text (the seventh form; the later family's looks); each row that meets fmt, with fmt's text TOLD by the authors' own Lean function (tested against real Go, not proved from fmt's source: count such statements apart). THE CARD IS WHAT COUNTS. Prove the row's statement (the work); the ties are given (YtkhecbikkdcfoaaGreatDoorTie.lean); close each card by the builder's one call (the guide's Derived/Test/ToyasCard.lean, 'card_holds'). Laid BY PROGRAM, IN A SANDBOX (cutbox-door.mjs). By AI agents, Wed Nov 11 2026. No macro, syntax, notation, axiom, sorry.
-/
import Derived.Test.YtkhecbikkdcfoaaGreatDoorRows
import GoSem.ClaimSeven
namespace Go.Proofs.YtkhecbikkdcfoaaGreatDoor
namespace Rows

/-- THE TIED CARD OF 'vernierlaw08.BoundsProven'. -/
def boundsProvenCard : Claim7 := { stood := { row := boundsProvenRow, standIns := [], harness := (true, "e95413469e8d89793489ff58c549bba0e9186807911a8ab307d231c6c4ddd400"), looks := true }, kinds := [], alts := [], laidByText := true, laidKinds := [.data, .data, .data, .data, .data, .data, .data, .pinned], laidTests := true, laidLooks := .later }
def BoundsProvenCardSaid : Prop := Claim7.holds Tryz.pinned (.plain (OpenSpec.ofChange boundsProvenSpec)) boundsProvenCard

/-- THE SECOND FORM's CARD OF 'vernierlaw08.BoundsProven'. -/
def boundsProvenUptoCard : Claim7 := { stood := { row := boundsProvenUptoRow, standIns := [], harness := (true, "e95413469e8d89793489ff58c549bba0e9186807911a8ab307d231c6c4ddd400"), looks := true }, kinds := [], alts := [], laidByText := true, laidKinds := [.data, .data, .data, .data, .data, .data, .data, .pinned], laidTests := true, laidLooks := .later }
def BoundsProvenUptoCardSaid : Prop := Claim7.holds Tryz.pinned (.plain (OpenSpec.upto boundsProvenSpec)) boundsProvenUptoCard
end Rows
end Go.Proofs.YtkhecbikkdcfoaaGreatDoor
