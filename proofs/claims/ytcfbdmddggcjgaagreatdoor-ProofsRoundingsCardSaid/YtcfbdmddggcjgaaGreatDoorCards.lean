/-
  DERIVED. GIVEN WITH THE SEED: THE CARDS: each row of YtcfbdmddggcjgaaGreatDoorRows.lean that lists a variable, with what it lists TIED to the program's text (the seventh form; the later family's looks); each row that meets fmt, with fmt's text TOLD by the authors' own Lean function (tested against real Go, not proved from fmt's source: count such statements apart). THE CARD IS WHAT COUNTS. Prove the row's statement (the work); the ties are given (YtcfbdmddggcjgaaGreatDoorTie.lean); close each card by the builder's one call (the guide's Derived/Test/ToyasCard.lean, 'card_holds'). Laid BY PROGRAM, IN A SANDBOX (cutbox-door.mjs). By AI agents, Wed Nov 11 2026. No macro, syntax, notation, axiom, sorry.
-/
import Derived.Test.YtcfbdmddggcjgaaGreatDoorRows
import GoSem.ClaimSeven
namespace Go.Proofs.YtcfbdmddggcjgaaGreatDoor
namespace Rows

/-- THE TIED CARD OF 'vernierlaw07.ProofsRoundings'. -/
def proofsRoundingsCard : Claim7 := { stood := { row := proofsRoundingsRow, standIns := [], harness := (true, "c5c5ac994ee0d5e50754790ce4d9a5fc73a39546dd755bfd4ed5ea95ecff636e"), looks := true }, kinds := [], alts := [], laidByText := true, laidKinds := [.data, .data, .data, .data, .data, .data, .data, .widerDeep, .data, .pinned], laidTests := true, laidLooks := .later }
def ProofsRoundingsCardSaid : Prop := Claim7.holds Tryz.pinned (.plain (OpenSpec.ofChange proofsRoundingsSpec)) proofsRoundingsCard

/-- THE SECOND FORM's CARD OF 'vernierlaw07.ProofsRoundings'. -/
def proofsRoundingsUptoCard : Claim7 := { stood := { row := proofsRoundingsUptoRow, standIns := [], harness := (true, "c5c5ac994ee0d5e50754790ce4d9a5fc73a39546dd755bfd4ed5ea95ecff636e"), looks := true }, kinds := [], alts := [], laidByText := true, laidKinds := [.data, .data, .data, .data, .data, .data, .data, .widerDeep, .data, .pinned], laidTests := true, laidLooks := .later }
def ProofsRoundingsUptoCardSaid : Prop := Claim7.holds Tryz.pinned (.plain (OpenSpec.upto proofsRoundingsSpec)) proofsRoundingsUptoCard
end Rows
end Go.Proofs.YtcfbdmddggcjgaaGreatDoor
