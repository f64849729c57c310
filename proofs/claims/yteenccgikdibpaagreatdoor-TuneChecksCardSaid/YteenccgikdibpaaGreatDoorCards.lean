/-
  DERIVED. GIVEN WITH THE SEED: THE CARDS: each row of YteenccgikdibpaaGreatDoorRows.lean that lists a variable, with what it lists TIED to the program's text (the seventh form; the later family's looks); each row that meets fmt, with fmt's text TOLD by the authors' own Lean function (tested against real Go, not proved from fmt's source: count such statements apart). THE CARD IS WHAT COUNTS. Prove the row's statement (the work); the ties are given (YteenccgikdibpaaGreatDoorTie.lean); close each card by the builder's one call (the guide's Derived/Test/ToyasCard.lean, 'card_holds'). Laid BY PROGRAM, IN A SANDBOX (cutbox-door.mjs). By AI agents, Wed Nov 11 2026. No macro, syntax, notation, axiom, sorry.
-/
import Derived.Test.YteenccgikdibpaaGreatDoorRows
import GoSem.ClaimSeven
namespace Go.Proofs.YteenccgikdibpaaGreatDoor
namespace Rows

/-- THE TIED CARD OF 'vernierlaw10.TuneChecks'. -/
def tuneChecksCard : Claim7 := { stood := { row := tuneChecksRow, standIns := [], harness := (true, "1332282ec7fd6f3925df70181aa62efc5d63b66d6770787d2ba04889cbd0d147"), looks := true }, kinds := [], alts := [], laidByText := true, laidKinds := [.data, .data, .data, .data, .data, .data, .data, .widerDeep, .data, .pinned], laidTests := true, laidLooks := .later }
def TuneChecksCardSaid : Prop := Claim7.holds Tryz.pinned (.plain (OpenSpec.ofChange tuneChecksSpec)) tuneChecksCard

/-- THE SECOND FORM's CARD OF 'vernierlaw10.TuneChecks'. -/
def tuneChecksUptoCard : Claim7 := { stood := { row := tuneChecksUptoRow, standIns := [], harness := (true, "1332282ec7fd6f3925df70181aa62efc5d63b66d6770787d2ba04889cbd0d147"), looks := true }, kinds := [], alts := [], laidByText := true, laidKinds := [.data, .data, .data, .data, .data, .data, .data, .widerDeep, .data, .pinned], laidTests := true, laidLooks := .later }
def TuneChecksUptoCardSaid : Prop := Claim7.holds Tryz.pinned (.plain (OpenSpec.upto tuneChecksSpec)) tuneChecksUptoCard
end Rows
end Go.Proofs.YteenccgikdibpaaGreatDoor
