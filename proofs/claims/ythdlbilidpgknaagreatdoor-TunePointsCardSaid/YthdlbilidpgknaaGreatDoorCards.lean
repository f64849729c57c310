/-
  DERIVED. GIVEN WITH THE SEED: THE CARDS: each row of YthdlbilidpgknaaGreatDoorRows.lean that lists a variable, with what it lists TIED to the program's text (the seventh form; the later family's looks); each row that meets fmt, with fmt's text TOLD by the authors' own Lean function (tested against real Go, not proved from fmt's source: count such statements apart). THE CARD IS WHAT COUNTS. Prove the row's statement (the work); the ties are given (YthdlbilidpgknaaGreatDoorTie.lean); close each card by the builder's one call (the guide's Derived/Test/ToyasCard.lean, 'card_holds'). Laid BY PROGRAM, IN A SANDBOX (cutbox-door.mjs). By AI agents, Wed Nov 11 2026. No macro, syntax, notation, axiom, sorry.
-/
import Derived.Test.YthdlbilidpgknaaGreatDoorRows
import GoSem.ClaimSeven
namespace Go.Proofs.YthdlbilidpgknaaGreatDoor
namespace Rows

/-- THE TIED CARD OF 'vernierlaw10.TunePoints'. -/
def tunePointsCard : Claim7 := { stood := { row := tunePointsRow, standIns := [], harness := (true, "958296cdaa740506782d2bde879b68877099010b472be9dca2639c7f6d4b1e16"), looks := true }, kinds := [], alts := [], laidByText := true, laidKinds := [.data, .data, .data, .data, .data, .data, .data, .widerDeep, .data, .pinned], laidTests := true, laidLooks := .later }
def TunePointsCardSaid : Prop := Claim7.holds Tryz.pinned (.plain (OpenSpec.ofChange tunePointsSpec)) tunePointsCard

/-- THE TIED CARD OF 'vernierlaw10.TuneValues'. -/
def tuneValuesCard : Claim7 := { stood := { row := tuneValuesRow, standIns := [], harness := (true, "958296cdaa740506782d2bde879b68877099010b472be9dca2639c7f6d4b1e16"), looks := true }, kinds := [], alts := [], laidByText := true, laidKinds := [.data, .data, .data, .data, .data, .data, .data, .widerDeep, .data, .pinned], laidTests := true, laidLooks := .later }
def TuneValuesCardSaid : Prop := Claim7.holds Tryz.pinned (.plain (OpenSpec.ofChange tuneValuesSpec)) tuneValuesCard

/-- THE SECOND FORM's CARD OF 'vernierlaw10.TunePoints'. -/
def tunePointsUptoCard : Claim7 := { stood := { row := tunePointsUptoRow, standIns := [], harness := (true, "958296cdaa740506782d2bde879b68877099010b472be9dca2639c7f6d4b1e16"), looks := true }, kinds := [], alts := [], laidByText := true, laidKinds := [.data, .data, .data, .data, .data, .data, .data, .widerDeep, .data, .pinned], laidTests := true, laidLooks := .later }
def TunePointsUptoCardSaid : Prop := Claim7.holds Tryz.pinned (.plain (OpenSpec.upto tunePointsSpec)) tunePointsUptoCard

/-- THE SECOND FORM's CARD OF 'vernierlaw10.TuneValues'. -/
def tuneValuesUptoCard : Claim7 := { stood := { row := tuneValuesUptoRow, standIns := [], harness := (true, "958296cdaa740506782d2bde879b68877099010b472be9dca2639c7f6d4b1e16"), looks := true }, kinds := [], alts := [], laidByText := true, laidKinds := [.data, .data, .data, .data, .data, .data, .data, .widerDeep, .data, .pinned], laidTests := true, laidLooks := .later }
def TuneValuesUptoCardSaid : Prop := Claim7.holds Tryz.pinned (.plain (OpenSpec.upto tuneValuesSpec)) tuneValuesUptoCard
end Rows
end Go.Proofs.YthdlbilidpgknaaGreatDoor
