/-
  DERIVED. GIVEN WITH THE SEED: THE CARDS: each row of YtlnaeofgmkmfdaaGreatDoorRows.lean that lists a variable, with what it lists TIED to the program's text (the seventh form; the later family's looks); each row that meets fmt, with fmt's text TOLD by the authors' own Lean function (tested against real Go, not proved from fmt's source: count such statements apart). THE CARD IS WHAT COUNTS. Prove the row's statement (the work); the ties are given (YtlnaeofgmkmfdaaGreatDoorTie.lean); close each card by the builder's one call (the guide's Derived/Test/ToyasCard.lean, 'card_holds'). Laid BY PROGRAM, IN A SANDBOX (cutbox-door.mjs). By AI agents, Wed Nov 11 2026. No macro, syntax, notation, axiom, sorry.
-/
import Derived.Test.YtlnaeofgmkmfdaaGreatDoorRows
import GoSem.ClaimSeven
namespace Go.Proofs.YtlnaeofgmkmfdaaGreatDoor
namespace Rows

/-- THE TIED CARD OF 'vernierlaw07.ProofsBoxes'. -/
def proofsBoxesCard : Claim7 := { stood := { row := proofsBoxesRow, standIns := [], harness := (true, "3ccb7151e2a06ee0a34514f58a57e4e9005118bbca3c480cea6cee81655d135d"), looks := true }, kinds := [], alts := [], laidByText := true, laidKinds := [.data, .data, .data, .data, .data, .data, .data, .widerDeep, .data, .pinned], laidTests := true, laidLooks := .later }
def ProofsBoxesCardSaid : Prop := Claim7.holds Tryz.pinned (.plain (OpenSpec.ofChange proofsBoxesSpec)) proofsBoxesCard

/-- THE SECOND FORM's CARD OF 'vernierlaw07.ProofsBoxes'. -/
def proofsBoxesUptoCard : Claim7 := { stood := { row := proofsBoxesUptoRow, standIns := [], harness := (true, "3ccb7151e2a06ee0a34514f58a57e4e9005118bbca3c480cea6cee81655d135d"), looks := true }, kinds := [], alts := [], laidByText := true, laidKinds := [.data, .data, .data, .data, .data, .data, .data, .widerDeep, .data, .pinned], laidTests := true, laidLooks := .later }
def ProofsBoxesUptoCardSaid : Prop := Claim7.holds Tryz.pinned (.plain (OpenSpec.upto proofsBoxesSpec)) proofsBoxesUptoCard
end Rows
end Go.Proofs.YtlnaeofgmkmfdaaGreatDoor
