/-
  DERIVED. GIVEN WITH THE SEED: THE CARDS: each row of YtfdlocphbipadaaGreatDoorRows.lean that lists a variable, with what it lists TIED to the program's text (the seventh form; the later family's looks); each row that meets fmt, with fmt's text TOLD by the authors' own Lean function (tested against real Go, not proved from fmt's source: count such statements apart). THE CARD IS WHAT COUNTS. Prove the row's statement (the work); the ties are given (YtfdlocphbipadaaGreatDoorTie.lean); close each card by the builder's one call (the guide's Derived/Test/ToyasCard.lean, 'card_holds'). Laid BY PROGRAM, IN A SANDBOX (cutbox-door.mjs). By AI agents, Wed Nov 11 2026. No macro, syntax, notation, axiom, sorry.
-/
import Derived.Test.YtfdlocphbipadaaGreatDoorRows
import GoSem.ClaimSeven
namespace Go.Proofs.YtfdlocphbipadaaGreatDoor
namespace Rows

/-- THE TIED CARD OF 'waymarklaw28.DifferNames'. -/
def differNamesCard : Claim7 := { stood := { row := differNamesRow, standIns := [], harness := (true, "245f4af06b5aa8d225a251d3c47f64f872df7bbbf899f545e7ff6bc2ad53ec7e"), looks := false }, kinds := [], alts := [], laidByText := true, laidKinds := [.data, .data, .data], laidTests := true, laidLooks := .later }
def DifferNamesCardSaid : Prop := Claim7.holds Tryz.pinned (.plain (OpenSpec.ofChange differNamesSpec)) differNamesCard

/-- THE SECOND FORM's CARD OF 'waymarklaw28.DifferNames'. -/
def differNamesUptoCard : Claim7 := { stood := { row := differNamesUptoRow, standIns := [], harness := (true, "245f4af06b5aa8d225a251d3c47f64f872df7bbbf899f545e7ff6bc2ad53ec7e"), looks := false }, kinds := [], alts := [], laidByText := true, laidKinds := [.data, .data, .data], laidTests := true, laidLooks := .later }
def DifferNamesUptoCardSaid : Prop := Claim7.holds Tryz.pinned (.plain (OpenSpec.upto differNamesSpec)) differNamesUptoCard
end Rows
end Go.Proofs.YtfdlocphbipadaaGreatDoor
