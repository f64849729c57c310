/-
  DERIVED. GIVEN WITH THE SEED: THE CARDS: each row of YtdinjknpilkilaaGreatDoorRows.lean that lists a variable, with what it lists TIED to the program's text (the seventh form; the later family's looks); each row that meets fmt, with fmt's text TOLD by the authors' own Lean function (tested against real Go, not proved from fmt's source: count such statements apart). THE CARD IS WHAT COUNTS. Prove the row's statement (the work); the ties are given (YtdinjknpilkilaaGreatDoorTie.lean); close each card by the builder's one call (the guide's Derived/Test/ToyasCard.lean, 'card_holds'). Laid BY PROGRAM, IN A SANDBOX (cutbox-door.mjs). By AI agents, Wed Nov 11 2026. No macro, syntax, notation, axiom, sorry.
-/
import Derived.Test.YtdinjknpilkilaaGreatDoorRows
import GoSem.ClaimSeven
namespace Go.Proofs.YtdinjknpilkilaaGreatDoor
namespace Rows

/-- THE TIED CARD OF 'vernierlaw08.BoundsCertificates'. -/
def boundsCertificatesCard : Claim7 := { stood := { row := boundsCertificatesRow, standIns := [], harness := (true, "238ff254138f15621b8a4b4af256ef5eac61beddabbe4979d51a3b2ce268711b"), looks := true }, kinds := [], alts := [], laidByText := true, laidKinds := [.data, .data, .data, .data, .data, .data, .data, .pinned], laidTests := true, laidLooks := .later }
def BoundsCertificatesCardSaid : Prop := Claim7.holds Tryz.pinned (.plain (OpenSpec.ofChange boundsCertificatesSpec)) boundsCertificatesCard

/-- THE TIED CARD OF 'vernierlaw08.BoundsProven'. -/
def boundsProvenCard : Claim7 := { stood := { row := boundsProvenRow, standIns := [], harness := (true, "238ff254138f15621b8a4b4af256ef5eac61beddabbe4979d51a3b2ce268711b"), looks := true }, kinds := [], alts := [], laidByText := true, laidKinds := [.data, .data, .data, .data, .data, .data, .data, .pinned], laidTests := true, laidLooks := .later }
def BoundsProvenCardSaid : Prop := Claim7.holds Tryz.pinned (.plain (OpenSpec.ofChange boundsProvenSpec)) boundsProvenCard

/-- THE SECOND FORM's CARD OF 'vernierlaw08.BoundsCertificates'. -/
def boundsCertificatesUptoCard : Claim7 := { stood := { row := boundsCertificatesUptoRow, standIns := [], harness := (true, "238ff254138f15621b8a4b4af256ef5eac61beddabbe4979d51a3b2ce268711b"), looks := true }, kinds := [], alts := [], laidByText := true, laidKinds := [.data, .data, .data, .data, .data, .data, .data, .pinned], laidTests := true, laidLooks := .later }
def BoundsCertificatesUptoCardSaid : Prop := Claim7.holds Tryz.pinned (.plain (OpenSpec.upto boundsCertificatesSpec)) boundsCertificatesUptoCard

/-- THE SECOND FORM's CARD OF 'vernierlaw08.BoundsProven'. -/
def boundsProvenUptoCard : Claim7 := { stood := { row := boundsProvenUptoRow, standIns := [], harness := (true, "238ff254138f15621b8a4b4af256ef5eac61beddabbe4979d51a3b2ce268711b"), looks := true }, kinds := [], alts := [], laidByText := true, laidKinds := [.data, .data, .data, .data, .data, .data, .data, .pinned], laidTests := true, laidLooks := .later }
def BoundsProvenUptoCardSaid : Prop := Claim7.holds Tryz.pinned (.plain (OpenSpec.upto boundsProvenSpec)) boundsProvenUptoCard
end Rows
end Go.Proofs.YtdinjknpilkilaaGreatDoor
