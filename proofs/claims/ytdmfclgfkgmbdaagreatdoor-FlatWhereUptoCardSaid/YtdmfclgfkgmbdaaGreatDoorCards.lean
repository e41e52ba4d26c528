/-
  DERIVED. GIVEN WITH THE SEED: THE CARDS: each row of YtdmfclgfkgmbdaaGreatDoorRows.lean that lists a variable, with what it lists TIED to the program's text (the seventh form; the later family's looks); each row that meets fmt, with fmt's text TOLD by the authors' own Lean function (tested against real Go, not proved from fmt's source: count such statements apart). THE CARD IS WHAT COUNTS. Prove the row's statement (the work); the ties are given (YtdmfclgfkgmbdaaGreatDoorTie.lean); close each card by the builder's one call (the guide's Derived/Test/ToyasCard.lean, 'card_holds'). Laid BY PROGRAM, IN A SANDBOX (cutbox-door.mjs). By AI agents, Wed Nov 11 2026. No macro, syntax, notation, axiom, sorry.
-/
import Derived.Test.YtdmfclgfkgmbdaaGreatDoorRows
import GoSem.ClaimSeven
namespace Go.Proofs.YtdmfclgfkgmbdaaGreatDoor
namespace Rows

/-- THE TIED CARD OF 'waymarklaw13.FlatWhere'. -/
def flatWhereCard : Claim7 := { stood := { row := flatWhereRow, standIns := [], harness := (true, "ea2d96ed2de2447ea7d079e05fb665d7d9c4f85d5c5632150a3f0d16a4ae397f"), looks := true }, kinds := [], alts := [], laidByText := true, laidKinds := [.data, .data, .data, .data, .sentinel, .sentinel, .pinned], laidTests := true, laidLooks := .later }
def FlatWhereCardSaid : Prop := Claim7.holds Tryz.pinned (.plain (OpenSpec.ofChange flatWhereSpec)) flatWhereCard

/-- THE SECOND FORM's CARD OF 'waymarklaw13.FlatWhere'. -/
def flatWhereUptoCard : Claim7 := { stood := { row := flatWhereUptoRow, standIns := [], harness := (true, "ea2d96ed2de2447ea7d079e05fb665d7d9c4f85d5c5632150a3f0d16a4ae397f"), looks := true }, kinds := [], alts := [], laidByText := true, laidKinds := [.data, .data, .data, .data, .sentinel, .sentinel, .pinned], laidTests := true, laidLooks := .later }
def FlatWhereUptoCardSaid : Prop := Claim7.holds Tryz.pinned (.plain (OpenSpec.upto flatWhereSpec)) flatWhereUptoCard
end Rows
end Go.Proofs.YtdmfclgfkgmbdaaGreatDoor
