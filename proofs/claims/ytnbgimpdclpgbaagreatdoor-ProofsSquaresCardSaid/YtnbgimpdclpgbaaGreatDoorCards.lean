/-
  DERIVED. GIVEN WITH THE SEED: THE CARDS: each row of YtnbgimpdclpgbaaGreatDoorRows.lean that lists a variable, with what it lists TIED to the program's text (the seventh form; the later family's looks); each row that meets fmt, with fmt's text TOLD by the authors' own Lean function (tested against real Go, not proved from fmt's source: count such statements apart). THE CARD IS WHAT COUNTS. Prove the row's statement (the work); the ties are given (YtnbgimpdclpgbaaGreatDoorTie.lean); close each card by the builder's one call (the guide's Derived/Test/ToyasCard.lean, 'card_holds'). Laid BY PROGRAM, IN A SANDBOX (cutbox-door.mjs). By AI agents, Wed Nov 11 2026. No macro, syntax, notation, axiom, sorry.
-/
import Derived.Test.YtnbgimpdclpgbaaGreatDoorRows
import GoSem.ClaimSeven
namespace Go.Proofs.YtnbgimpdclpgbaaGreatDoor
namespace Rows

/-- THE TIED CARD OF 'vernierlaw07.ProofsSquares'. -/
def proofsSquaresCard : Claim7 := { stood := { row := proofsSquaresRow, standIns := [], harness := (true, "cd9ddabb8fca45a6b03ab875f710a4089b3ae3cf3c34e8cc2dee9c30a6c6537c"), looks := true }, kinds := [], alts := [], laidByText := true, laidKinds := [.data, .data, .data, .data, .data, .data, .data, .widerDeep, .data, .pinned], laidTests := true, laidLooks := .later }
def ProofsSquaresCardSaid : Prop := Claim7.holds Tryz.pinned (.plain (OpenSpec.ofChange proofsSquaresSpec)) proofsSquaresCard

/-- THE TIED CARD OF 'vernierlaw07.ProofsNever'. -/
def proofsNeverCard : Claim7 := { stood := { row := proofsNeverRow, standIns := [], harness := (true, "cd9ddabb8fca45a6b03ab875f710a4089b3ae3cf3c34e8cc2dee9c30a6c6537c"), looks := true }, kinds := [], alts := [], laidByText := true, laidKinds := [.data, .data, .data, .data, .data, .data, .data, .widerDeep, .data, .pinned], laidTests := true, laidLooks := .later }
def ProofsNeverCardSaid : Prop := Claim7.holds Tryz.pinned (.plain (OpenSpec.ofChange proofsNeverSpec)) proofsNeverCard

/-- THE SECOND FORM's CARD OF 'vernierlaw07.ProofsSquares'. -/
def proofsSquaresUptoCard : Claim7 := { stood := { row := proofsSquaresUptoRow, standIns := [], harness := (true, "cd9ddabb8fca45a6b03ab875f710a4089b3ae3cf3c34e8cc2dee9c30a6c6537c"), looks := true }, kinds := [], alts := [], laidByText := true, laidKinds := [.data, .data, .data, .data, .data, .data, .data, .widerDeep, .data, .pinned], laidTests := true, laidLooks := .later }
def ProofsSquaresUptoCardSaid : Prop := Claim7.holds Tryz.pinned (.plain (OpenSpec.upto proofsSquaresSpec)) proofsSquaresUptoCard

/-- THE SECOND FORM's CARD OF 'vernierlaw07.ProofsNever'. -/
def proofsNeverUptoCard : Claim7 := { stood := { row := proofsNeverUptoRow, standIns := [], harness := (true, "cd9ddabb8fca45a6b03ab875f710a4089b3ae3cf3c34e8cc2dee9c30a6c6537c"), looks := true }, kinds := [], alts := [], laidByText := true, laidKinds := [.data, .data, .data, .data, .data, .data, .data, .widerDeep, .data, .pinned], laidTests := true, laidLooks := .later }
def ProofsNeverUptoCardSaid : Prop := Claim7.holds Tryz.pinned (.plain (OpenSpec.upto proofsNeverSpec)) proofsNeverUptoCard
end Rows
end Go.Proofs.YtnbgimpdclpgbaaGreatDoor
