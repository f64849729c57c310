/-
  DERIVED. GIVEN WITH THE SEED: THE CARDS: each row of YtoepefenkpijoaaGreatDoorRows.lean that lists a variable, with what it lists TIED to the program's text (the seventh form; the later family's looks); each row that meets fmt, with fmt's text TOLD by the authors' own Lean function (tested against real Go, not proved from fmt's source: count such statements apart). THE CARD IS WHAT COUNTS. Prove the row's statement (the work); the ties are given (YtoepefenkpijoaaGreatDoorTie.lean); close each card by the builder's one call (the guide's Derived/Test/ToyasCard.lean, 'card_holds'). Laid BY PROGRAM, IN A SANDBOX (cutbox-door.mjs). By AI agents, Wed Nov 11 2026. No macro, syntax, notation, axiom, sorry.
-/
import Derived.Test.YtoepefenkpijoaaGreatDoorRows
import GoSem.ClaimSeven
namespace Go.Proofs.YtoepefenkpijoaaGreatDoor
namespace Rows

/-- THE TIED CARD OF 'vernierlaw07.ProofsJoins'. -/
def proofsJoinsCard : Claim7 := { stood := { row := proofsJoinsRow, standIns := [], harness := (true, "2694b36b9802b3b8a74dd81acb6d8e8c97fd9ba59cb4b0b00b9dd62d6ec6db55"), looks := true }, kinds := [], alts := [], laidByText := true, laidKinds := [.data, .data, .data, .data, .data, .data, .data, .widerDeep, .data, .pinned], laidTests := true, laidLooks := .later }
def ProofsJoinsCardSaid : Prop := Claim7.holds Tryz.pinned (.plain (OpenSpec.ofChange proofsJoinsSpec)) proofsJoinsCard

/-- THE SECOND FORM's CARD OF 'vernierlaw07.ProofsJoins'. -/
def proofsJoinsUptoCard : Claim7 := { stood := { row := proofsJoinsUptoRow, standIns := [], harness := (true, "2694b36b9802b3b8a74dd81acb6d8e8c97fd9ba59cb4b0b00b9dd62d6ec6db55"), looks := true }, kinds := [], alts := [], laidByText := true, laidKinds := [.data, .data, .data, .data, .data, .data, .data, .widerDeep, .data, .pinned], laidTests := true, laidLooks := .later }
def ProofsJoinsUptoCardSaid : Prop := Claim7.holds Tryz.pinned (.plain (OpenSpec.upto proofsJoinsSpec)) proofsJoinsUptoCard
end Rows
end Go.Proofs.YtoepefenkpijoaaGreatDoor
